import PyProof.Rows.All
import Wide.All
import OpenK.AllK
import Wide.FinOn
import HandS.ForMost
import HandS.ForExc
import HandS.TupAny
import HandS.TupMul
import HandS.Wide
import HandS.Deep
import HandS.Small
import HandS.Defaults
import HandS.Codes
import HandS.Walk
import HandS.Zip
import HandS.Iter
import HandS.Comp
import HandS.DictComp
import HandS.Text
import HandS.List
import HandS.IsInst
import HandS.More
import HandS.SortInts
import HandS.WordsDict
import KE.KDictZip
import PyProof.ListNew
import HandS.Strs
import HandS.SetBool
import HandS.SetKeys
import KE.DataMinMax
import HandS.Style
import KE.GoesEnum
import KE.GoesMore
import HandS.Words
import HandS.Head0
import HandS.HeadHook1
import HandS.HeadHook2
import KE.KStateDown
import HandS.Ends
import HandS.WordsExc
import HandS.Head1
import HandS.Head2
import HandS.HeadEnd
import PySem.Challenge.RW_reasonry_k38_whole_taught_till_alike
set_option Elab.async false
section
set_option linter.all false
set_option autoImplicit false
/-! The pure evaluator: a small core language, its values and its meaning. -/
namespace Ev
abbrev Txt := List Nat

/-- values: what a program handles, without the heap -/
inductive PV where
  | non
  | bl (b : Bool)
  | int (i : Int)
  | str (s : Txt)
  | tup (xs : List PV)
  | lst (xs : List PV)
  | dic (ks vs : List PV)
  | obj (k : Nat)
  | fn (k : Nat)

/-- what a slot holds: a value that is shared and never changed, or a container of this slot's own -/
inductive SV where
  | val (v : PV)
  | own (v : PV)
def SV.v : SV → PV
  | .val v => v
  | .own v => v

structure Ob where
  cls : Nat
  fs : List (Nat × SV)
structure St where
  sl : List (Option SV)
  ob : List Ob

inductive Out (α : Type) where
  | ok (a : α) (s : St)
  | exc (e : PV) (s : St)
  | no
def Out.bind {α β : Type} (o : Out α) (f : α → St → Out β) : Out β :=
  match o with
  | .ok a s => f a s
  | .exc e s => .exc e s
  | .no => .no
@[simp] theorem Out.bind_ok {α β : Type} (a : α) (s : St) (f : α → St → Out β) : (Out.ok a s).bind f = f a s := rfl
@[simp] theorem Out.bind_exc {α β : Type} (e : PV) (s : St) (f : α → St → Out β) : (Out.exc e s).bind f = .exc e s := rfl
@[simp] theorem Out.bind_no {α β : Type} (f : α → St → Out β) : (Out.no).bind f = .no := rfl
def Out.ofOpt {α : Type} (o : Option α) (s : St) : Out α :=
  match o with
  | some a => .ok a s
  | none => .no
@[simp] theorem Out.ofOpt_some {α : Type} (a : α) (s : St) : Out.ofOpt (some a) s = .ok a s := rfl
@[simp] theorem Out.ofOpt_none {α : Type} (s : St) : Out.ofOpt (none : Option α) s = .no := rfl

/-- builtins, strict in their operands -/
inductive Blt where
  | add | sub | mul | fdiv | mod | pow | neg | not
  | eq | ne | lt | le | gt | ge | inn | nin | isN | notN
  | nilT | nnilT | nilL | nnilL
  | ix | slLH | slL | slH | rev | get1 | get2
  | len | toInt | toStr | tupleOf | listOf | sorted | sortedLen | sortedHead | sum | max1 | min1 | max2 | min2 | maxD0 | minDN
  | all | any | isInst | isTupLst
  | listZip | listRng1 | listRng2 | inRng | dictOf | setSorted | values
  | split | join | lstrip | rstrip | strip | count | index | replace | fmt
  deriving DecidableEq
/-- changes of a container -/
inductive Mut where
  | append | setItem | setdefault | update | pop
  deriving DecidableEq
/-- what is walked -/
inductive SK where
  | seq | rng | enum | zip
  deriving DecidableEq
/-- targets of names -/
inductive TG where
  | nm (i : Nat)
  | tp (ts : List TG)

inductive CE where
  | lit (v : PV)
  | var (i : Nat)
  | glob (j : Nat)
  | tup (es : List CE)
  | lst (es : List CE)
  | dsp (ks vs : List CE)
  | bi (b : Blt) (es : List CE)
  | and (a b : CE)
  | or (a b : CE)
  | ife (c a b : CE)
  | chain (b1 b2 : Blt) (xy : List CE) (z : CE)
  | call (f : Nat) (es : List CE)
  | callL (f : Nat) (i : Nat) (es : List CE)
  | mut (m : Mut) (i : Nat) (es : List CE)
  | attr (e : CE) (f : Nat)
  | meth (m : Nat) (o : CE) (es : List CE)
  | new (c : Nat) (es : List CE)
  | comp (own : List Nat) (e : CE) (tg : TG) (sk : SK) (src : List CE) (cs : List CE)
  | comp2 (own own2 : List Nat) (e : CE) (tg : TG) (sk : SK) (src : List CE) (tg2 : TG) (sk2 : SK) (src2 : List CE)
  | dcomp (own : List Nat) (k v : CE) (tg : TG) (sk : SK) (src : List CE) (cs : List CE)
  | scomp (own : List Nat) (e : CE) (tg : TG) (sk : SK) (src : List CE) (cs : List CE)

inductive CS where
  | asg (i : Nat) (e : CE)
  | asgO (i : Nat) (e : CE)
  | asgT (tg : TG) (e : CE)
  | par (is : List Nat) (es : List CE)
  | parO (i j : Nat) (a b : CE)
  | setI (i : Nat) (k v : CE)
  | setA (o : CE) (f : Nat) (v : CE)
  | setAO (o : CE) (f : Nat) (v : CE)
  | mutA (m : Mut) (o : CE) (f : Nat) (es : List CE)
  | aug (i : Nat) (b : Blt) (e : CE)
  | augA (o : CE) (f : Nat) (b : Blt) (e : CE)
  | ex (e : CE)
  | ife (c : CE) (a b : List CS)
  | whl (c : CE) (b : List CS)
  | forr (tg : TG) (sk : SK) (src : List CE) (b : List CS)
  | ret (e : CE)
  | rais (c : Nat) (es : List CE)
  | brk
  | pass

/-! ### values -/
def b2i (b : Bool) : Int := if b then 1 else 0
/-! Python's == of data (dicts and objects have no place here: `plain` is asked beside it) -/
mutual
def eqv : PV → PV → Bool
  | .non, .non => true
  | .bl a, .bl b => a == b
  | .bl a, .int j => b2i a == j
  | .int i, .bl b => i == b2i b
  | .int i, .int j => i == j
  | .str s, .str t => s == t
  | .tup xs, .tup ys => eqvs xs ys
  | .lst xs, .lst ys => eqvs xs ys
  | _, _ => false
def eqvs : List PV → List PV → Bool
  | [], [] => true
  | x :: xs, y :: ys => eqv x y && eqvs xs ys
  | _, _ => false
end
mutual
def plain : PV → Bool
  | .non => true
  | .bl _ => true
  | .int _ => true
  | .str _ => true
  | .tup xs => plains xs
  | .lst xs => plains xs
  | _ => false
def plains : List PV → Bool
  | [] => true
  | x :: xs => plain x && plains xs
end
mutual
def depth : PV → Nat
  | .tup xs => depths xs + 1
  | .lst xs => depths xs + 1
  | _ => 0
def depths : List PV → Nat
  | [] => 0
  | x :: xs => max (depth x) (depths xs)
end
def scalar : PV → Bool
  | .non => true
  | .bl _ => true
  | .int _ => true
  | .str _ => true
  | _ => false

def b2v (b : Bool) : PV := .bl b
/-! ### the order of texts, tuples -/
def ltT : Txt → Txt → Bool
  | [], [] => false
  | [], _ :: _ => true
  | _ :: _, [] => false
  | a :: s, b :: t => if a == b then ltT s t else decide (a < b)
/-! x < y, where it is told: ints, texts, tuples of such -/
mutual
def ltV : PV → PV → Option Bool
  | .int i, .int j => some (decide (i < j))
  | .str s, .str t => some (ltT s t)
  | .tup xs, .tup ys => ltVs xs ys
  | _, _ => none
def ltVs : List PV → List PV → Option Bool
  | [], [] => some false
  | [], _ :: _ => some true
  | _ :: _, [] => some false
  | x :: xs, y :: ys => if eqv x y then ltVs xs ys else ltV x y
end
mutual
/-- comparable place by place -/
def alikeV : PV → PV → Bool
  | .int _, .int _ => true
  | .str _, .str _ => true
  | .tup xs, .tup ys => alikeVs xs ys
  | _, _ => false
def alikeVs : List PV → List PV → Bool
  | x :: xs, y :: ys => alikeV x y && alikeVs xs ys
  | [], _ => true
  | _ :: _, [] => true
end
def allInts : List PV → Option (List Int)
  | [] => some []
  | .int i :: r => (allInts r).map (i :: ·)
  | _ => none
def allStrs : List PV → Option (List Txt)
  | [] => some []
  | .str s :: r => (allStrs r).map (s :: ·)
  | _ => none
def insI (i : Int) : List Int → List Int
  | [] => [i]
  | j :: r => if i ≤ j then i :: j :: r else j :: insI i r
def sortI : List Int → List Int
  | [] => []
  | i :: r => insI i (sortI r)
def leT (a b : Txt) : Bool := !ltT b a
def insT (i : Txt) : List Txt → List Txt
  | [] => [i]
  | j :: r => if leT i j then i :: j :: r else j :: insT i r
def sortT : List Txt → List Txt
  | [] => []
  | i :: r => insT i (sortT r)

/-! ### builtins -/
def sizeTop : Nat := 16777216
def big (i : Int) : Bool := decide (i.natAbs < 2 ^ 64)
def wide (i : Int) : Bool := decide (i.natAbs < 2 ^ 4096)
def mulOk (i j : Int) : Bool := big i || big j || (wide i && wide j)
def flat : PV → Bool := scalar
/-- the place of an index in a sequence of length n -/
def ixAt (n : Nat) (i : Int) : Option Nat := if 0 ≤ i then (if i < n then some i.toNat else none) else if -(n : Int) ≤ i then some (i + n).toNat else none
/-- the bounds of a slice -/
def slAt (n d : Nat) : Option Int → Nat
  | none => d
  | some v => if v < 0 then (v + (n : Int)).toNat else min v.toNat n
def cut {α : Type} (xs : List α) (lo hi : Option Int) : List α := (xs.drop (slAt xs.length 0 lo)).take (slAt xs.length xs.length hi - slAt xs.length 0 lo)
def bnd (i : Int) : Bool := decide (-(2 ^ 62) ≤ i) && decide (i < 2 ^ 62)
def cutV (v : PV) (lo hi : Option Int) : Option PV :=
  match v with
  | .str s => if s.length ≤ sizeTop then some (.str (cut s lo hi)) else none
  | .lst xs => some (.lst (cut xs lo hi))
  | .tup xs => some (.tup (cut xs lo hi))
  | _ => none
/-- whether a key is there -/
def hasK (ks : List PV) (k : PV) : Bool := ks.any fun x => eqv x k
def lookK : List PV → List PV → PV → Option PV
  | x :: ks, w :: ws, k => if eqv x k then some w else lookK ks ws k
  | _, _, _ => none
def putV : List PV → List PV → PV → PV → List PV
  | x :: ks, w :: ws, k, v => (if eqv x k then v else w) :: putV ks ws k v
  | _, ws, _, _ => ws
def putK (ks vs : List PV) (k v : PV) : List PV × List PV := if hasK ks k then (ks, putV ks vs k v) else (ks ++ [k], vs ++ [v])
/-- keys of the plain sort: ints and texts -/
def keyOk : PV → Bool
  | .int _ => true
  | .str _ => true
  | _ => false
def mem (xs : List PV) (x : PV) : Bool := xs.any fun y => eqv y x
def subT (s t : Txt) : Bool := match s with
  | [] => t.isEmpty
  | _ :: r => s.take t.length == t || subT r t
def rngL (lo hi : Int) : List PV := (List.range (hi - lo).toNat).map fun (k : Nat) => .int (lo + (k : Int))
def allBls : List PV → Option (List Bool)
  | [] => some []
  | .bl b :: r => (allBls r).map (b :: ·)
  | _ => none
def maxI : List Int → Int
  | [] => 0
  | [i] => i
  | i :: r => max i (maxI r)
def minI : List Int → Int
  | [] => 0
  | [i] => i
  | i :: r => min i (minI r)
/-- the first of the least -/
def minP : PV → List PV → Option PV
  | x, [] => some x
  | x, y :: r => (ltV y x).bind fun b => minP (if b then y else x) r
def natTxt (fuel n : Nat) (acc : Txt) : Txt :=
  match fuel with
  | 0 => acc
  | f + 1 => if n < 10 then (48 + n) :: acc else natTxt f (n / 10) ((48 + n % 10) :: acc)
def intTxt (i : Int) : Txt := if 0 ≤ i then natTxt 700 i.toNat [] else 45 :: natTxt 700 (-i).toNat []
def dedupI : List Int → List Int
  | [] => []
  | [i] => [i]
  | i :: j :: r => if i == j then dedupI (j :: r) else i :: dedupI (j :: r)
def dedupT : List Txt → List Txt
  | [] => []
  | [i] => [i]
  | i :: j :: r => if i == j then dedupT (j :: r) else i :: dedupT (j :: r)
def splitT (c : Nat) : Txt → List Txt
  | [] => [[]]
  | a :: s => if a == c then [] :: splitT c s else
    match splitT c s with
    | [] => [[a]]
    | w :: r => (a :: w) :: r
def joinT (sep : Txt) : List Txt → Txt
  | [] => []
  | [s] => s
  | s :: r => s ++ sep ++ joinT sep r
def dropWh (cs : Txt) : Txt → Txt
  | [] => []
  | a :: s => if cs.contains a then dropWh cs s else a :: s
def fmtT : List PV → Option Txt
  | [] => some []
  | .str s :: r => (fmtT r).map (s ++ ·)
  | .int i :: r => if i.natAbs < 2 ^ 1000 then (fmtT r).map (intTxt i ++ ·) else none
  | _ => none
def listOf : PV → Option (List PV)
  | .lst xs => some xs
  | .tup xs => some xs
  | .str s => some (s.map fun c => .str [c])
  | .dic ks _ => some ks
  | _ => none
def sortV (xs : List PV) : Option (List PV) :=
  match allInts xs with
  | some is => some ((sortI is).map .int)
  | none => (allStrs xs).map fun ss => (sortT ss).map .str
def sortSet (xs : List PV) : Option (List PV) :=
  match allInts xs with
  | some is => some ((dedupI (sortI is)).map .int)
  | none => (allStrs xs).map fun ss => (dedupT (sortT ss)).map .str
def cmpI (f : Int → Int → Bool) (x y : PV) : Option PV :=
  match x, y with
  | .int i, .int j => some (.bl (f i j))
  | _, _ => none
def eqOk (x y : PV) : Bool := plain x && plain y && decide (min (depth x) (depth y) ≤ 64)
def sAdd (vs : List PV) : Option PV :=
  match vs with
  | [.int i, .int j] => some (.int (i + j))
  | [.str s, .str t] => if s.length + t.length ≤ sizeTop then some (.str (s ++ t)) else none
  | [.lst xs, .lst ys] => if xs.length + ys.length ≤ sizeTop then some (.lst (xs ++ ys)) else none
  | [.tup xs, .tup ys] => if xs.length + ys.length ≤ sizeTop then some (.tup (xs ++ ys)) else none
  | _ => none
def sSub (vs : List PV) : Option PV :=
  match vs with
  | [.int i, .int j] => some (.int (i - j))
  | _ => none
def sMul (vs : List PV) : Option PV :=
  match vs with
  | [.int i, .int j] => if mulOk i j then some (.int (i * j)) else none
  | [.lst xs, .int j] => if xs.length * j.toNat ≤ sizeTop && bnd j then some (.lst (List.replicate j.toNat xs).flatten) else none
  | [.tup xs, .int j] => if j = 1 then some (.tup xs) else if decide (2 ≤ j) && decide (j ≤ 1000) && decide (xs.length ≤ 1000) && !xs.isEmpty then some (.tup (List.replicate j.toNat xs).flatten) else none
  | _ => none
def sFdiv (vs : List PV) : Option PV :=
  match vs with
  | [.int i, .int j] => if 0 < j && wide j then some (.int (i / j)) else none
  | _ => none
def sMod (vs : List PV) : Option PV :=
  match vs with
  | [.int i, .int j] => if 0 < j then some (.int (i % j)) else none
  | _ => none
def sPow (vs : List PV) : Option PV :=
  match vs with
  | [.int i, .int j] => if 0 ≤ j && decide (j ≤ 1000) && big i then some (.int (i ^ j.toNat)) else none
  | _ => none
def sNeg (vs : List PV) : Option PV :=
  match vs with
  | [.int i] => some (.int (-i))
  | _ => none
def sNot (vs : List PV) : Option PV :=
  match vs with
  | [.bl b] => some (.bl (!b))
  | _ => none
def sEq (vs : List PV) : Option PV :=
  match vs with
  | [x, y] => if eqOk x y then some (.bl (eqv x y)) else none
  | _ => none
def sNe (vs : List PV) : Option PV :=
  match vs with
  | [x, y] => if eqOk x y then some (.bl (!eqv x y)) else none
  | _ => none
def sLt (vs : List PV) : Option PV :=
  match vs with
  | [.str s, .str t] => some (.bl (ltT s t))
  | [x, y] => cmpI (fun i j => decide (i < j)) x y
  | _ => none
def sLe (vs : List PV) : Option PV :=
  match vs with
  | [x, y] => cmpI (fun i j => decide (i ≤ j)) x y
  | _ => none
def sGt (vs : List PV) : Option PV :=
  match vs with
  | [x, y] => cmpI (fun i j => decide (j < i)) x y
  | _ => none
def sGe (vs : List PV) : Option PV :=
  match vs with
  | [x, y] => cmpI (fun i j => decide (j ≤ i)) x y
  | _ => none
def sInn (vs : List PV) : Option PV :=
  match vs with
  | [x, .lst ys] => if plain x && plains ys && decide (depth x ≤ 64) then some (.bl (mem ys x)) else none
  | [x, .tup ys] => if plain x && plains ys && decide (depth x ≤ 64) then some (.bl (mem ys x)) else none
  | [.str [c], .str t] => some (.bl (decide (c ∈ t)))
  | [k, .dic ks _] => if keyOk k then some (.bl (hasK ks k)) else none
  | _ => none
def sNin (vs : List PV) : Option PV :=
  match vs with
  | [x, .lst ys] => if plain x && plains ys && decide (depth x ≤ 64) then some (.bl (!mem ys x)) else none
  | [x, .tup ys] => if plain x && plains ys && decide (depth x ≤ 64) then some (.bl (!mem ys x)) else none
  | [.str [c], .str t] => some (.bl (!decide (c ∈ t)))
  | [k, .dic ks _] => if keyOk k then some (.bl !(hasK ks k)) else none
  | _ => none
def sIsN (vs : List PV) : Option PV :=
  match vs with
  | [.non, .non] => some (.bl true)
  | [_, .non] => some (.bl false)
  | _ => none
def sNotN (vs : List PV) : Option PV :=
  match vs with
  | [.non, .non] => some (.bl false)
  | [_, .non] => some (.bl true)
  | _ => none
def sNilT (vs : List PV) : Option PV :=
  match vs with
  | [.tup xs] => some (.bl xs.isEmpty)
  | _ => none
def sNnilT (vs : List PV) : Option PV :=
  match vs with
  | [.tup xs] => some (.bl !xs.isEmpty)
  | _ => none
def sNilL (vs : List PV) : Option PV :=
  match vs with
  | [.lst xs] => some (.bl xs.isEmpty)
  | _ => none
def sNnilL (vs : List PV) : Option PV :=
  match vs with
  | [.lst xs] => some (.bl !xs.isEmpty)
  | _ => none
def sIx (vs : List PV) : Option PV :=
  match vs with
  | [.lst xs, .int i] => (ixAt xs.length i).bind fun k => xs[k]?
  | [.tup xs, .int i] => (ixAt xs.length i).bind fun k => xs[k]?
  | [.str s, .int i] => if s.length ≤ sizeTop then (ixAt s.length i).bind fun k => (s[k]?).map fun c => .str [c] else none
  | [.dic ks vs, k] => if keyOk k then lookK ks vs k else none
  | _ => none
def sSlLH (vs : List PV) : Option PV :=
  match vs with
  | [v, .int i, .int j] => cutV v (some i) (some j)
  | _ => none
def sSlL (vs : List PV) : Option PV :=
  match vs with
  | [v, .int i] => cutV v (some i) none
  | _ => none
def sSlH (vs : List PV) : Option PV :=
  match vs with
  | [v, .int j] => cutV v none (some j)
  | _ => none
def sRev (vs : List PV) : Option PV :=
  match vs with
  | [.lst xs] => some (.lst xs.reverse)
  | [.tup xs] => some (.tup xs.reverse)
  | _ => none
def sGet1 (vs : List PV) : Option PV :=
  match vs with
  | [.dic ks vs, k] => if keyOk k then some ((lookK ks vs k).getD .non) else none
  | _ => none
def sGet2 (vs : List PV) : Option PV :=
  match vs with
  | [.dic ks vs, k, d] => if keyOk k then some ((lookK ks vs k).getD d) else none
  | _ => none
def sLen (vs : List PV) : Option PV :=
  match vs with
  | [.lst xs] => some (.int xs.length)
  | [.tup xs] => some (.int xs.length)
  | [.str s] => if s.length ≤ sizeTop then some (.int s.length) else none
  | [.dic ks _] => some (.int ks.length)
  | _ => none
def sToInt (vs : List PV) : Option PV :=
  match vs with
  | [.int i] => some (.int i)
  | [.bl b] => some (.int (b2i b))
  | _ => none
def sToStr (vs : List PV) : Option PV :=
  match vs with
  | [.int i] => if i.natAbs < 2 ^ 1000 then some (.str (intTxt i)) else none
  | _ => none
def sTupleOf (vs : List PV) : Option PV :=
  match vs with
  | [.lst xs] => some (.tup xs)
  | [.tup xs] => some (.tup xs)
  | _ => none
def sListOf (vs : List PV) : Option PV :=
  match vs with
  | [.lst xs] => some (.lst xs)
  | [.tup xs] => some (.lst xs)
  | [.dic ks _] => some (.lst ks)
  | _ => none
def sSorted (vs : List PV) : Option PV :=
  match vs with
  | [.lst xs] =>
    match allInts xs with
    | some is => some (.lst ((sortI is).map .int))
    | none => if xs.length < 64 then (allStrs xs).map fun ss => .lst ((sortT ss).map .str) else none
  | [.dic ks _] => if ks.length < 64 then (sortV ks).map .lst else none
  | _ => none
def sSetSorted (vs : List PV) : Option PV :=
  match vs with
  | [.lst xs] => if xs.length < 4000 then (sortSet xs).bind fun r => if r.length < 64 then some (.lst r) else none else none
  | _ => none
def sSum (vs : List PV) : Option PV :=
  match vs with
  | [.lst xs] => (allInts xs).map fun is => .int is.sum
  | _ => none
def sMax1 (vs : List PV) : Option PV :=
  match vs with
  | [.lst (x :: xs)] => (allInts (x :: xs)).map fun is => .int (maxI is)
  | _ => none
def sMin1 (vs : List PV) : Option PV :=
  match vs with
  | [.lst (x :: xs)] => if plains (x :: xs) && (x :: xs).all (fun a => (x :: xs).all fun b => alikeV a b) && decide (depths (x :: xs) ≤ 64) then minP x xs else none
  | _ => none
def sMax2 (vs : List PV) : Option PV :=
  match vs with
  | [.int i, .int j] => some (.int (if j > i then j else i))
  | _ => none
def sMin2 (vs : List PV) : Option PV :=
  match vs with
  | [.int i, .int j] => some (.int (if j < i then j else i))
  | _ => none
def sMaxD0 (vs : List PV) : Option PV :=
  match vs with
  | [.lst []] => some (.int 0)
  | [.lst xs] => (allInts xs).map fun is => .int (maxI is)
  | _ => none
def sMinDN (vs : List PV) : Option PV :=
  match vs with
  | [.lst []] => some .non
  | [.lst (x :: xs)] => minP x xs
  | _ => none
def sAll (vs : List PV) : Option PV :=
  match vs with
  | [.lst xs] => (allBls xs).map fun bs => .bl (bs.all id)
  | _ => none
def sAny (vs : List PV) : Option PV :=
  match vs with
  | [.lst xs] => (allBls xs).map fun bs => .bl (bs.any id)
  | _ => none
/-- whether a value is of a built-in type (0 str, 1 int, 2 bool, 3 tuple, 4 list, 5 dict) -/
def isTy (v : PV) (k : Nat) : Bool :=
  match v, k with
  | .str _, 0 => true
  | .int _, 1 => true
  | .bl _, 1 => true
  | .bl _, 2 => true
  | .tup _, 3 => true
  | .lst _, 4 => true
  | .dic _ _, 5 => true
  | _, _ => false
def sIsInst (vs : List PV) : Option PV :=
  match vs with
  | [.fn _, .fn _] => none
  | [v, .fn k] => if k < 6 then some (.bl (isTy v k)) else none
  | _ => none
def sIsTupLst (vs : List PV) : Option PV :=
  match vs with
  | [.tup _] => some (.bl true)
  | [.lst _] => some (.bl true)
  | [_] => some (.bl false)
  | _ => none
def sListZip (vs : List PV) : Option PV :=
  match vs with
  | [.lst xs, .lst ys] => some (.lst ((xs.zip ys).map fun p => .tup [p.1, p.2]))
  | _ => none
def sListRng1 (vs : List PV) : Option PV :=
  match vs with
  | [.int j] => if bnd j && decide (j ≤ 1000000) then some (.lst (rngL 0 j)) else none
  | _ => none
def sListRng2 (vs : List PV) : Option PV :=
  match vs with
  | [.int i, .int j] => if bnd i && bnd j && decide (j - i ≤ 1000000) then some (.lst (rngL i j)) else none
  | _ => none
def sInRng (vs : List PV) : Option PV :=
  match vs with
  | [.int x, .int i, .int j] => some (.bl (decide (i ≤ x) && decide (x < j)))
  | _ => none
def sDictOf (vs : List PV) : Option PV :=
  match vs with
  | [.dic ks vs] => some (.dic ks vs)
  | _ => none
def sValues (vs : List PV) : Option PV :=
  match vs with
  | [.dic _ vs] => some (.lst vs)
  | _ => none
def sSplit (vs : List PV) : Option PV :=
  match vs with
  | [.str s, .str [c]] => if s.length ≤ sizeTop then some (.lst ((splitT c s).map .str)) else none
  | _ => none
def sJoin (vs : List PV) : Option PV :=
  match vs with
  | [.str s, .lst xs] => (allStrs xs).bind fun ts => if (joinT s ts).length ≤ sizeTop then some (.str (joinT s ts)) else none
  | _ => none
def sLstrip (vs : List PV) : Option PV :=
  match vs with
  | [.str s, .str cs] => if s.length ≤ sizeTop then some (.str (dropWh cs s)) else none
  | _ => none
def sRstrip (vs : List PV) : Option PV :=
  match vs with
  | [.str s, .str cs] => if s.length ≤ sizeTop then some (.str (dropWh cs s.reverse).reverse) else none
  | _ => none
def sFmt (vs : List PV) : Option PV :=
  match vs with
  | vs => (fmtT vs).bind fun t => if t.length ≤ sizeTop then some (.str t) else none
def sem (b : Blt) (vs : List PV) : Option PV :=
  match b with
  | .add => sAdd vs
  | .sub => sSub vs
  | .mul => sMul vs
  | .fdiv => sFdiv vs
  | .mod => sMod vs
  | .pow => sPow vs
  | .neg => sNeg vs
  | .not => sNot vs
  | .eq => sEq vs
  | .ne => sNe vs
  | .lt => sLt vs
  | .le => sLe vs
  | .gt => sGt vs
  | .ge => sGe vs
  | .inn => sInn vs
  | .nin => sNin vs
  | .isN => sIsN vs
  | .notN => sNotN vs
  | .nilT => sNilT vs
  | .nnilT => sNnilT vs
  | .nilL => sNilL vs
  | .nnilL => sNnilL vs
  | .ix => sIx vs
  | .slLH => sSlLH vs
  | .slL => sSlL vs
  | .slH => sSlH vs
  | .rev => sRev vs
  | .get1 => sGet1 vs
  | .get2 => sGet2 vs
  | .len => sLen vs
  | .toInt => sToInt vs
  | .toStr => sToStr vs
  | .tupleOf => sTupleOf vs
  | .listOf => sListOf vs
  | .sorted => sSorted vs
  | .setSorted => sSetSorted vs
  | .sum => sSum vs
  | .max1 => sMax1 vs
  | .min1 => sMin1 vs
  | .max2 => sMax2 vs
  | .min2 => sMin2 vs
  | .maxD0 => sMaxD0 vs
  | .minDN => sMinDN vs
  | .all => sAll vs
  | .any => sAny vs
  | .isInst => sIsInst vs
  | .isTupLst => sIsTupLst vs
  | .listZip => sListZip vs
  | .listRng1 => sListRng1 vs
  | .listRng2 => sListRng2 vs
  | .inRng => sInRng vs
  | .dictOf => sDictOf vs
  | .values => sValues vs
  | .split => sSplit vs
  | .join => sJoin vs
  | .lstrip => sLstrip vs
  | .rstrip => sRstrip vs
  | .fmt => sFmt vs
  | _ => none
/-- whether the answer is a new list or dict -/
def fresh : Blt → Bool
  | .add | .mul | .slLH | .slL | .slH | .rev | .listOf | .sorted | .setSorted | .listZip | .listRng1 | .listRng2 | .dictOf | .split => true
  | _ => false
def semMut (m : Mut) (c : PV) (vs : List PV) : Option (PV × PV) :=
  match m, c, vs with
  | .append, .lst xs, [v] => if xs.length < sizeTop then some (.non, .lst (xs ++ [v])) else none
  | .setItem, .dic ks ws, [k, v] => if keyOk k && ks.length < sizeTop then some (.non, .dic (putK ks ws k v).1 (putK ks ws k v).2) else none
  | .setItem, .lst xs, [.int i, v] => (ixAt xs.length i).map fun k => (.non, .lst (xs.set k v))
  | .setdefault, .dic ks ws, [k, v] => if keyOk k && ks.length < sizeTop then
      match lookK ks ws k with
      | some w => some (w, .dic ks ws)
      | none => some (v, .dic (ks ++ [k]) (ws ++ [v]))
    else none
  | _, _, _ => none

def kindM : Mut → PV → Bool
  | .append, .lst _ => true
  | .setdefault, .dic _ _ => true
  | _, _ => false
/-! ### the state -/
def St.get (s : St) (i : Nat) : Option SV := (s.sl[i]?).join
def St.put (s : St) (i : Nat) (v : SV) : St := { s with sl := s.sl.set i (some v) }
/-- the slot's container is shared from now on -/
def St.freeze (s : St) (i : Nat) : St :=
  match s.get i with
  | some (.own v) => s.put i (.val v)
  | _ => s
def St.drop (s : St) (i : Nat) : St := { s with sl := s.sl.set i none }
def St.wipe (s : St) (own : List Nat) : St := { s with sl := own.foldr (fun i l => l.set i none) s.sl }
def valOf : Option SV → Option SV
  | some (.val v) => some (.val v)
  | _ => none
def St.back (s : St) (own : List Nat) (s0 : St) : St := { s with sl := own.foldr (fun i l => l.set i (valOf (s0.get i))) s.sl }
mutual
def bindT : TG → PV → St → Option St
  | .nm i, v, s => if i < s.sl.length then some (s.put i (.val v)) else none
  | .tp ts, .tup vs, s => bindTs ts vs s
  | .tp _, _, _ => none
def bindTs : List TG → List PV → St → Option St
  | [], [], s => some s
  | t :: ts, v :: vs, s => (bindT t v s).bind fun s' => bindTs ts vs s'
  | _, _, _ => none
end
def enumL (xs : List PV) : List PV := (((List.range xs.length).map fun (i : Nat) => PV.int i).zip xs).map fun p => .tup [p.1, p.2]
/-- the items that are walked -/
def items (k : SK) (vs : List PV) : Option (List PV) :=
  match k, vs with
  | .seq, [.lst xs] => some xs
  | .seq, [.tup xs] => some xs
  | .seq, [.str s] => some (s.map fun c => .str [c])
  | .rng, [.int j] => if bnd j then some (rngL 0 j) else none
  | .rng, [.int i, .int j] => if bnd i && bnd j then some (rngL i j) else none
  | .enum, [.lst xs] => some (enumL xs)
  | .enum, [.tup xs] => some (enumL xs)
  | .zip, [a, b] => match a, b with
    | .lst xs, .lst ys => some ((xs.zip ys).map fun p => .tup [p.1, p.2])
    | .tup xs, .tup ys => some ((xs.zip ys).map fun p => .tup [p.1, p.2])
    | _, _ => none
  | _, _ => none
/-! whether nothing that stands is changed by it -/
mutual
def calm : CE → Bool
  | .lit _ => true
  | .var _ => true
  | .glob _ => true
  | .tup es => calms es
  | .lst es => calms es
  | .dsp ks vs => calms ks && calms vs
  | .bi _ es => calms es
  | .and a b => calm a && calm b
  | .or a b => calm a && calm b
  | .ife c a b => calm c && calm a && calm b
  | .chain _ _ xy z => calms xy && calm z
  | .call _ es => calms es
  | .callL _ _ es => calms es
  | .mut _ _ _ => false
  | .attr e _ => calm e
  | .meth _ _ _ => false
  | .new _ _ => false
  | .comp _ e _ _ src cs => calm e && calms src && calms cs
  | .comp2 _ _ e _ _ src _ _ src2 => calm e && calms src && calms src2
  | .dcomp _ k v _ _ src cs => calm k && calm v && calms src && calms cs
  | .scomp _ e _ _ src cs => calm e && calms src && calms cs
def calms : List CE → Bool
  | [] => true
  | e :: r => calm e && calms r
end

/-- what code leans on: the defs, the module's constants, how many turns a while may take -/
structure Cx where
  call : Nat → List PV → Option SV
  glob : Nat → Option PV
  turns : Nat
/-- the items for which body gives something -/
def loopL (body : PV → St → Out (Option PV)) : List PV → St → Out (List PV)
  | [], s => .ok [] s
  | x :: xs, s => (body x s).bind fun o s' => (loopL body xs s').bind fun ys s'' => .ok (o.toList ++ ys) s''
def loopS (body : PV → St → Out (List PV)) : List PV → St → Out (List PV)
  | [], s => .ok [] s
  | x :: xs, s => (body x s).bind fun o s' => (loopS body xs s').bind fun ys s'' => .ok (o ++ ys) s''
def loopD (body : PV → St → Out (Option (PV × PV))) : List PV → List PV → List PV → St → Out (List PV × List PV)
  | [], ks, vs, s => .ok (ks, vs) s
  | x :: xs, ks, vs, s => (body x s).bind fun o s' =>
    match o with
    | none => loopD body xs ks vs s'
    | some (k, v) => if keyOk k then loopD body xs (putK ks vs k v).1 (putK ks vs k v).2 s' else .no
def truth (v : PV) (s : St) : Out Bool :=
  match v with
  | .bl b => .ok b s
  | _ => .no
section
variable (Γ : Cx)
mutual
/-- a value, shared -/
def evalE : CE → St → Out PV
  | .lit v, s => .ok v s
  | .var i, s => match s.get i with
    | some v => .ok v.v (s.freeze i)
    | none => .no
  | .glob j, s => Out.ofOpt (Γ.glob j) s
  | .tup es, s => (evalVs es s).bind fun vs s' => .ok (.tup vs) s'
  | .lst es, s => (evalVs es s).bind fun vs s' => .ok (.lst vs) s'
  | .dsp ks vs, s => (evalVs ks s).bind fun us s' => (evalVs vs s').bind fun ws s'' =>
      if us.all keyOk then .ok (let p := (us.zip ws).foldl (fun (p : List PV × List PV) kv => putK p.1 p.2 kv.1 kv.2) ([], []); .dic p.1 p.2) s'' else .no
  | .bi b es, s => (evalAs es s).bind fun vs s' => Out.ofOpt (sem b vs) s'
  | .and a b, s => (evalE a s).bind fun v s' => (truth v s').bind fun c s'' => if c then evalE b s'' else .ok (.bl false) s''
  | .or a b, s => (evalE a s).bind fun v s' => (truth v s').bind fun c s'' => if c then .ok (.bl true) s'' else evalE b s''
  | .ife c a b, s => (evalE c s).bind fun v s' => (truth v s').bind fun k s'' => if k then evalE a s'' else evalE b s''
  | .chain b1 b2 xy z, s => (evalAs xy s).bind fun vs s' => (Out.ofOpt (sem b1 vs) s').bind fun v s1 => (truth v s1).bind fun k s2 =>
      if k then (evalE z s2).bind fun w s3 => Out.ofOpt (sem b2 (vs.drop 1 ++ [w])) s3 else .ok (.bl false) s2
  | .call f es, s => (evalVs es s).bind fun vs s' => (Out.ofOpt (Γ.call f vs) s').bind fun r s'' => .ok r.v s''
  | .callL f i es, s => match s.get i with
      | some _ => (evalVs es s).bind fun vs s' =>
        match s'.get i with
        | some v => (Out.ofOpt (Γ.call f (v.v :: vs)) s').bind fun r s'' => if scalar r.v then .ok r.v s'' else .no
        | none => .no
      | none => .no
  | .mut m i es, s => match s.get i with
      | some (.own c0) => if kindM m c0 then (evalVs es s).bind fun vs s' =>
          match s'.get i with
          | some (.own c) => (Out.ofOpt (semMut m c vs) s').bind fun r s'' => .ok r.1 (s''.put i (.own r.2))
          | _ => .no
        else .no
      | _ => .no
  | .comp own e tg sk src cs, s => (if calm e && calms cs then evalAs src s else evalVs src s).bind fun vs s' => (Out.ofOpt (items sk vs) s').bind fun xs s1 => if xs.length ≤ sizeTop then
      (loopL (fun x s2 => (Out.ofOpt (bindT tg x s2) s2).bind fun s3 _ => (tests cs s3).bind fun k s4 => if k then (evalE e s4).bind fun v s5 => .ok (some v) (s5.wipe own) else .ok none (s4.wipe own)) xs (s1.wipe own)).bind
        fun ys s6 => .ok (.lst ys) (s6.back own s1) else .no
  | .comp2 own own2 e tg sk src tg2 sk2 src2, s => (if calm e && calms src2 then evalAs src s else evalVs src s).bind fun vs s' => (Out.ofOpt (items sk vs) s').bind fun xs s1 =>
      (loopS (fun x s2 => (Out.ofOpt (bindT tg x s2) s2).bind fun s3 _ => (evalVs src2 s3).bind fun ws s4 => (Out.ofOpt (items sk2 ws) s4).bind fun zs s5 =>
        (loopL (fun y s6 => (Out.ofOpt (bindT tg2 y s6) s6).bind fun s7 _ => (evalE e s7).bind fun v s8 => .ok (some v) (s8.wipe own2)) zs (s5.wipe own2)).bind fun us s9 => .ok us (s9.wipe own)) xs (s1.wipe own)).bind
        fun ys s6 => if ys.length ≤ sizeTop then .ok (.lst ys) (s6.back own s1) else .no
  | .dcomp own k v tg sk src cs, s => (if calm k && calm v && calms cs then evalAs src s else evalVs src s).bind fun vs s' => (Out.ofOpt (items sk vs) s').bind fun xs s1 => if xs.length ≤ sizeTop then
      (loopD (fun x s2 => (Out.ofOpt (bindT tg x s2) s2).bind fun s3 _ => (tests cs s3).bind fun b s4 => if b then (evalE k s4).bind fun kv s5 => (evalE v s5).bind fun vv s6 => .ok (some (kv, vv)) (s6.wipe own) else .ok none (s4.wipe own)) xs [] [] (s1.wipe own)).bind
        fun ys s6 => .ok (.dic ys.1 ys.2) (s6.back own s1) else .no
  | .scomp own e tg sk src cs, s => (if calm e && calms cs then evalAs src s else evalVs src s).bind fun vs s' => (Out.ofOpt (items sk vs) s').bind fun xs s1 => if xs.length ≤ 4000 then
      (loopL (fun x s2 => (Out.ofOpt (bindT tg x s2) s2).bind fun s3 _ => (tests cs s3).bind fun k s4 => if k then (evalE e s4).bind fun v s5 => .ok (some v) (s5.wipe own) else .ok none (s4.wipe own)) xs (s1.wipe own)).bind
        fun ys s6 => (Out.ofOpt (sem .setSorted [.lst ys]) s6).bind fun r s7 => .ok r (s7.back own s1) else .no
  | .attr _ _, _ => .no
  | .meth _ _ _, _ => .no
  | .new _ _, _ => .no
/-- operands: a slot's own container is lent, not shared -/
def evalAs : List CE → St → Out (List PV)
  | [], s => .ok [] s
  | .var i :: r, s => (match s.get i with
    | some v => Out.ok v.v (if calms r then s else s.freeze i)
    | none => Out.no).bind fun v s' => (evalAs r s').bind fun vs s'' => .ok (v :: vs) s''
  | e :: r, s => (evalE e s).bind fun v s' => (evalAs r s').bind fun vs s'' => .ok (v :: vs) s''
/-- values, all shared -/
def evalVs : List CE → St → Out (List PV)
  | [], s => .ok [] s
  | e :: r, s => (evalE e s).bind fun v s' => (evalVs r s').bind fun vs s'' => .ok (v :: vs) s''
def tests : List CE → St → Out Bool
  | [], s => .ok true s
  | c :: _, s => (evalE c s).bind fun v s' => truth v s'
end
end

/-! ### statements -/
inductive Fl where
  | nx
  | ret (r : SV)
  | brk
def isBox : PV → Bool
  | .lst _ => true
  | .dic _ _ => true
  | _ => false
def freshB (b : Blt) (v : PV) : Bool := fresh b && isBox v
def freshE : CE → PV → Bool
  | .lst _, _ => true
  | .dsp _ _, _ => true
  | .comp .., _ => true
  | .comp2 .., _ => true
  | .dcomp .., _ => true
  | .scomp .., _ => true
  | .bi b _, v => freshB b v
  | _, _ => false
def mark (b : Bool) (v : PV) : SV := if b then .own v else .val v
/-- a new value: a new container is the taker's own -/
def evalF (Γ : Cx) (e : CE) (s : St) : Out SV :=
  match e with
  | .call f es => (evalVs Γ es s).bind fun vs s' => Out.ofOpt (Γ.call f vs) s'
  | e => (evalE Γ e s).bind fun v s' => .ok (mark (freshE e v) v) s'
/-- what a def hands back -/
def evalR (Γ : Cx) (e : CE) (s : St) : Out SV :=
  match e with
  | .var i => match s.get i with
    | some v => .ok v (s.drop i)
    | none => .no
  | e => evalF Γ e s
def forL (body : PV → St → Out Fl) : List PV → St → Out Fl
  | [], s => .ok .nx s
  | x :: xs, s => (body x s).bind fun f s' => match f with
    | .nx => forL body xs s'
    | .brk => .ok .nx s'
    | .ret r => .ok (.ret r) s'
def whileN (test : St → Out Bool) (body : St → Out Fl) : Nat → St → Out Fl
  | 0, _ => .no
  | n + 1, s => (test s).bind fun b s' => if b then (body s').bind fun f s'' => match f with
      | .nx => whileN test body n s''
      | .brk => .ok .nx s''
      | .ret r => .ok (.ret r) s''
    else .ok .nx s'
def putAll (is : List Nat) (vs : List PV) (s : St) : Option St :=
  match is, vs with
  | [], [] => some s
  | i :: is, v :: vs => if i < s.sl.length then putAll is vs (s.put i (.val v)) else none
  | _, _ => none
section
variable (Γ : Cx)
mutual
def exec : CS → St → Out Fl
  | .asg i e, s => (evalE Γ e s).bind fun v s' => if i < s'.sl.length then .ok .nx (s'.put i (.val v)) else .no
  | .asgO i e, s => (evalF Γ e s).bind fun v s' => if i < s'.sl.length then .ok .nx (s'.put i v) else .no
  | .asgT tg e, s => (evalE Γ e s).bind fun v s' => (Out.ofOpt (bindT tg v s') s').bind fun s1 _ => .ok .nx s1
  | .par is es, s => (evalVs Γ es s).bind fun vs s' => (Out.ofOpt (putAll is vs s') s').bind fun s1 _ => .ok .nx s1
  | .parO i j a b, s => (evalE Γ a s).bind fun v s' => (evalF Γ b s').bind fun w s'' => if i < s''.sl.length then if j < s''.sl.length then .ok .nx ((s''.put j w).put i (.val v)) else .no else .no
  | .setI i k v, s => (evalE Γ v s).bind fun w s' => match s'.get i with
      | some (.own _) => (evalE Γ k s').bind fun u s'' =>
        match s''.get i with
        | some (.own c) => (Out.ofOpt (semMut .setItem c [u, w]) s'').bind fun r s1 => .ok .nx (s1.put i (.own r.2))
        | _ => .no
      | _ => .no
  | .aug i b e, s => match s.get i with
    | some (.val (.int x)) => (evalE Γ e s).bind fun v s' => match v with
      | .int y => (Out.ofOpt (sem b [.int x, .int y]) s').bind fun w s'' => if i < s''.sl.length then .ok .nx (s''.put i (.val w)) else .no
      | _ => .no
    | _ => .no
  | .ex e, s => (evalE Γ e s).bind fun _ s' => .ok .nx s'
  | .ife c a b, s => (evalE Γ c s).bind fun v s' => (truth v s').bind fun k s'' => if k then execs a s'' else execs b s''
  | .whl c b, s => whileN (fun s => (evalE Γ c s).bind fun v s' => truth v s') (fun s => execs b s) Γ.turns s
  | .forr tg sk src b, s => (evalVs Γ src s).bind fun vs s' => (Out.ofOpt (items sk vs) s').bind fun xs s1 =>
      forL (fun x s2 => (Out.ofOpt (bindT tg x s2) s2).bind fun s3 _ => execs b s3) xs s1
  | .ret e, s => (evalR Γ e s).bind fun r s' => .ok (.ret r) s'
  | .brk, s => .ok .brk s
  | .pass, s => .ok .nx s
  | _, _ => .no
def execs : List CS → St → Out Fl
  | [], s => .ok .nx s
  | c :: r, s => (exec c s).bind fun f s' => match f with
    | .nx => execs r s'
    | f => .ok f s'
end
end
structure Fn where
  np : Nat
  ns : Nat
  body : List CS
def runF (Γ : Cx) (f : Fn) (args : List PV) : Option SV :=
  if args.length = f.np then
    match execs Γ f.body ⟨args.map (fun v => some (.val v)) ++ List.replicate (f.ns - f.np) none, []⟩ with
    | .ok (.ret r) _ => some r
    | .ok .nx _ => some (.val .non)
    | _ => none
  else none
def callN (P : List Fn) (gl : List PV) (turns : Nat) : Nat → Nat → List PV → Option SV
  | 0, _, _ => none
  | n + 1, f, args => match P[f]? with
    | some fn => runF { call := callN P gl turns n, glob := fun j => gl[j]?, turns := turns } fn args
    | none => none
end Ev
end
section
set_option Elab.async false
set_option linter.all false
set_option maxRecDepth 100000
set_option maxHeartbeats 4000000
set_option autoImplicit false
namespace Sd
open PySem PySem.Spec PyProof.Rows L2

/-! ### what stands for a value -/
def keyPV : Key → Ev.PV
  | .inl i => .int i
  | .inr x => .str x.cps.toList
/-- the signs of a dict's keys are signs -/
def okK : Key → Prop
  | .inl _ => True
  | .inr x => x.cps.toList.all (fun c => decide (c < 1114112)) = true
def KsR (ks : List Ev.PV) (kvs : List (Key × V)) : Prop := ks = kvs.map (fun p => keyPV p.1) ∧ ∀ p ∈ kvs, okK p.1
def tyNm : Nat → String
  | 0 => "str"
  | 1 => "int"
  | 2 => "bool"
  | 3 => "tuple"
  | 4 => "list"
  | _ => "dict"
section
variable (K : PySem.W.Frag)
mutual
def Rep (F : Hp) : Ev.PV → V → Prop
  | .non, x => x = .non
  | .bl b, x => x = .bl b
  | .int i, x => x = .int i
  | .str s, x => x = .str ⟨s.toArray⟩ ∧ s.all (fun c => decide (c < 1114112)) = true
  | .tup ps, x => ∃ a vs, x = .ref a ∧ SqT K F a vs ∧ Reps F ps vs
  | .lst ps, x => ∃ a vs, x = .ref a ∧ SqL K F a vs ∧ Reps F ps vs
  | .dic ks ps, x => ∃ a kvs, x = .ref a ∧ F a = some (.dK kvs) ∧ KsR ks kvs ∧ Reps F ps (kvs.map (·.2))
  | .obj _, _ => False
  | .fn k, x => x = .ty (tyNm k)
def Reps (F : Hp) : List Ev.PV → List V → Prop
  | [], [] => True
  | p :: ps, v :: vs => Rep F p v ∧ Reps F ps vs
  | _, _ => False
end
end
def Sub (F H : Hp) : Prop := ∀ a o, F a = some o → H a = some o
theorem Sub.refl (H : Hp) : Sub H H := fun _ _ h => h
theorem Sub.trans {A B C : Hp} (h : Sub A B) (k : Sub B C) : Sub A C := fun a o x => k a o (h a o x)
theorem Sub.rd {F H : Hp} (s : Sub F H) {a : Addr} {u : HO} (h : Rd F a u) : Rd H a u := by
  rcases h with h | ⟨o, h⟩
  · exact .inl (s a _ h)
  · exact .inr ⟨o, s a _ h⟩
theorem Sub.seqL {K : PySem.W.Frag} {F H : Hp} (s : Sub F H) {a : Addr} {xs : List V} (h : SqL K F a xs) : SqL K H a xs := by
  rcases h with h | h
  · exact .inl (s.rd h)
  · exact .inr h
theorem Sub.seqT {K : PySem.W.Frag} {F H : Hp} (s : Sub F H) {a : Addr} {xs : List V} (h : SqT K F a xs) : SqT K H a xs := by
  rcases h with h | h
  · exact .inl (s.rd h)
  · exact .inr h
theorem Sub.none {F H : Hp} (s : Sub F H) {a : Addr} (h : H a = Option.none) : F a = Option.none := by
  cases e : F a with
  | none => rfl
  | some o => rw [s a o e] at h; cases h
theorem Sub.upd_new {H : Hp} {p : Addr} {o : HO} (h : H p = Option.none) : Sub H (upd H p o) := fun a u e => by
  rw [upd_ne (ne_of_none e h)]; exact e
theorem Sub.upd_both {F H : Hp} (s : Sub F H) {p : Addr} {o : HO} : Sub (upd F p o) (upd H p o) := fun a u e => by
  by_cases h : a = p
  · subst h; rw [upd_same] at e ⊢; exact e
  · rw [upd_ne h] at e ⊢; exact s a u e
section
variable {K : PySem.W.Frag}
mutual
theorem Rep.mono {F H : Hp} (s : Sub F H) : ∀ {p : Ev.PV} {x : V}, Rep K F p x → Rep K H p x
  | .non, _, h => h
  | .bl _, _, h => h
  | .int _, _, h => h
  | .str _, _, h => h
  | .tup ps, x, ⟨a, vs, e, h, r⟩ => ⟨a, vs, e, s.seqT h, Reps.mono s r⟩
  | .lst ps, x, ⟨a, vs, e, h, r⟩ => ⟨a, vs, e, s.seqL h, Reps.mono s r⟩
  | .dic ks ps, x, ⟨a, kvs, e, h, k, r⟩ => ⟨a, kvs, e, s a _ h, k, Reps.mono s r⟩
  | .obj _, _, h => h
  | .fn _, _, h => h
theorem Reps.mono {F H : Hp} (s : Sub F H) : ∀ {ps : List Ev.PV} {xs : List V}, Reps K F ps xs → Reps K H ps xs
  | [], [], h => h
  | p :: ps, x :: xs, ⟨h, r⟩ => ⟨Rep.mono s h, Reps.mono s r⟩
  | [], _ :: _, h => h
  | _ :: _, [], h => h
end
theorem Reps.length {F : Hp} : ∀ {ps : List Ev.PV} {xs : List V}, Reps K F ps xs → ps.length = xs.length
  | [], [], _ => rfl
  | p :: ps, x :: xs, ⟨_, r⟩ => by rw [List.length_cons, List.length_cons, Reps.length r]
theorem Reps.append {F : Hp} : ∀ {ps : List Ev.PV} {xs : List V} {qs : List Ev.PV} {ys : List V}, Reps K F ps xs → Reps K F qs ys → Reps K F (ps ++ qs) (xs ++ ys)
  | [], [], _, _, _, k => k
  | p :: ps, x :: xs, _, _, ⟨h, r⟩, k => ⟨h, Reps.append r k⟩
theorem Reps.get {F : Hp} : ∀ {ps : List Ev.PV} {xs : List V} {i : Nat} {p : Ev.PV}, Reps K F ps xs → ps[i]? = some p → ∃ x, xs[i]? = some x ∧ Rep K F p x
  | [], [], _, _, _, e => by simp at e
  | p :: ps, x :: xs, 0, q, ⟨h, r⟩, e => by simp at e; subst e; exact ⟨x, rfl, h⟩
  | p :: ps, x :: xs, i + 1, q, ⟨h, r⟩, e => by
    obtain ⟨y, e1, e2⟩ := Reps.get (i := i) r (by simpa using e)
    exact ⟨y, by simpa using e1, e2⟩
theorem Reps.take {F : Hp} : ∀ {ps : List Ev.PV} {xs : List V} (n : Nat), Reps K F ps xs → Reps K F (ps.take n) (xs.take n)
  | _, _, 0, _ => trivial
  | [], [], _ + 1, h => h
  | p :: ps, x :: xs, n + 1, ⟨h, r⟩ => ⟨h, Reps.take n r⟩
theorem Reps.drop {F : Hp} : ∀ {ps : List Ev.PV} {xs : List V} (n : Nat), Reps K F ps xs → Reps K F (ps.drop n) (xs.drop n)
  | _, _, 0, h => h
  | [], [], _ + 1, h => h
  | p :: ps, x :: xs, n + 1, ⟨h, r⟩ => Reps.drop n r
theorem Reps.reverse {F : Hp} : ∀ {ps : List Ev.PV} {xs : List V}, Reps K F ps xs → Reps K F ps.reverse xs.reverse
  | [], [], h => h
  | p :: ps, x :: xs, ⟨h, r⟩ => by
    rw [List.reverse_cons, List.reverse_cons]
    exact Reps.append (Reps.reverse r) ⟨h, trivial⟩
theorem Reps.set {F : Hp} : ∀ {ps : List Ev.PV} {xs : List V} (i : Nat) {p : Ev.PV} {x : V}, Reps K F ps xs → Rep K F p x → Reps K F (ps.set i p) (xs.set i x)
  | [], [], _, _, _, h, _ => h
  | p :: ps, x :: xs, 0, _, _, ⟨h, r⟩, k => ⟨k, r⟩
  | p :: ps, x :: xs, i + 1, _, _, ⟨h, r⟩, k => ⟨h, Reps.set i r k⟩

/-- an object's content stands for a value -/
def ORep (K : PySem.W.Frag) (F : Hp) : HO → Ev.PV → Prop
  | .lst vs, .lst ps => Reps K F ps vs
  | .tup vs, .tup ps => Reps K F ps vs
  | .dK kvs, .dic ks ps => KsR ks kvs ∧ Reps K F ps (kvs.map (·.2))
  | _, _ => False
theorem ORep.mono {F H : Hp} (s : Sub F H) {o : HO} {p : Ev.PV} (h : ORep K F o p) : ORep K H o p := by
  cases o <;> cases p <;> first | exact h | exact Reps.mono s h | exact ⟨h.1, Reps.mono s h.2⟩
theorem ORep.rep {F : Hp} {a : Addr} {o : HO} {p : Ev.PV} (h : ORep K F o p) (e : F a = some o) : Rep K F p (.ref a) := by
  cases o <;> cases p <;> first | exact absurd h id | skip
  · exact ⟨a, _, rfl, SqL.of e, h⟩
  · exact ⟨a, _, rfl, SqT.of e, h⟩
  · exact ⟨a, _, rfl, e, h.1, h.2⟩
/-- lent: shared, or a container read where it stands -/
def BRep (K : PySem.W.Frag) (F H : Hp) (p : Ev.PV) (x : V) : Prop := Rep K F p x ∨ ∃ a o, x = .ref a ∧ H a = some o ∧ ORep K F o p ∧ Ev.isBox p = true
theorem BRep.mono {F H F' H' : Hp} (s : Sub F F') (k : Sub H H') {p : Ev.PV} {x : V} (h : BRep K F H p x) : BRep K F' H' p x := by
  rcases h with h | ⟨a, o, e, e2, r, b⟩
  · exact .inl (h.mono s)
  · exact .inr ⟨a, o, e, k a o e2, r.mono s, b⟩
def BReps (K : PySem.W.Frag) (F H : Hp) : List Ev.PV → List V → Prop
  | [], [] => True
  | p :: ps, v :: vs => BRep K F H p v ∧ BReps K F H ps vs
  | _, _ => False
theorem BReps.mono {F H F' H' : Hp} (s : Sub F F') (k : Sub H H') : ∀ {ps : List Ev.PV} {xs : List V}, BReps K F H ps xs → BReps K F' H' ps xs
  | [], [], h => h
  | p :: ps, x :: xs, ⟨h, r⟩ => ⟨h.mono s k, BReps.mono s k r⟩
  | [], _ :: _, h => h
  | _ :: _, [], h => h
theorem Reps.lent {F H : Hp} : ∀ {ps : List Ev.PV} {xs : List V}, Reps K F ps xs → BReps K F H ps xs
  | [], [], h => h
  | p :: ps, x :: xs, ⟨h, r⟩ => ⟨.inl h, Reps.lent r⟩
/-! reading a lent value at H -/
theorem BRep.lstL {F H : Hp} (s : Sub F H) {ps : List Ev.PV} {x : V} (h : BRep K F H (.lst ps) x) : ∃ a vs, x = .ref a ∧ SqL K H a vs ∧ Reps K F ps vs := by
  rcases h with ⟨a, vs, e, h, r⟩ | ⟨a, o, e, h, r, b⟩
  · exact ⟨a, vs, e, s.seqL h, r⟩
  · cases o <;> first | exact absurd r id | skip
    exact ⟨a, _, e, SqL.of h, r⟩
theorem BRep.tup {F H : Hp} {ps : List Ev.PV} {x : V} (h : BRep K F H (.tup ps) x) : Rep K F (.tup ps) x := by
  rcases h with h | ⟨a, o, e, h, r, b⟩
  · exact h
  · exact absurd b Bool.false_ne_true
theorem BRep.tupT {F H : Hp} (s : Sub F H) {ps : List Ev.PV} {x : V} (h : BRep K F H (.tup ps) x) : ∃ a vs, x = .ref a ∧ SqT K H a vs ∧ Reps K F ps vs := by
  obtain ⟨a, vs, e, h, r⟩ := h.tup
  exact ⟨a, vs, e, s.seqT h, r⟩
theorem BRep.dicD {F H : Hp} (s : Sub F H) {ks ps : List Ev.PV} {x : V} (h : BRep K F H (.dic ks ps) x) : ∃ a kvs, x = .ref a ∧ H a = some (.dK kvs) ∧ ks = kvs.map (fun p => keyPV p.1) ∧ Reps K F ps (kvs.map (·.2)) ∧ ∀ p ∈ kvs, okK p.1 := by
  rcases h with ⟨a, kvs, e, h, k, r⟩ | ⟨a, o, e, h, r, b⟩
  · exact ⟨a, kvs, e, s a _ h, k.1, r, k.2⟩
  · cases o <;> first | exact absurd r id | skip
    exact ⟨a, _, e, h, r.1.1, r.2, r.1.2⟩
theorem BRep.int {F H : Hp} {i : Int} {x : V} (h : BRep K F H (.int i) x) : x = .int i := by
  rcases h with h | ⟨a, o, e, h, r, b⟩
  · exact h
  · exact absurd b Bool.false_ne_true
theorem BRep.fn {F H : Hp} {k : Nat} {x : V} (h : BRep K F H (.fn k) x) : x = .ty (tyNm k) := by
  rcases h with h | ⟨a, o, e, h, r, b⟩
  · exact h
  · exact absurd b Bool.false_ne_true
theorem BRep.bl {F H : Hp} {i : Bool} {x : V} (h : BRep K F H (.bl i) x) : x = .bl i := by
  rcases h with h | ⟨a, o, e, h, r, b⟩
  · exact h
  · exact absurd b Bool.false_ne_true
theorem BRep.str {F H : Hp} {i : Ev.Txt} {x : V} (h : BRep K F H (.str i) x) : x = .str ⟨i.toArray⟩ ∧ i.all (fun c => decide (c < 1114112)) = true := by
  rcases h with h | ⟨a, o, e, h, r, b⟩
  · exact h
  · exact absurd b Bool.false_ne_true
theorem BRep.non {F H : Hp} {x : V} (h : BRep K F H .non x) : x = .non := by
  rcases h with h | ⟨a, o, e, h, r, b⟩
  · exact h
  · exact absurd b Bool.false_ne_true

/-- the heap has grown, some new things are shared -/
structure Grow (F H F1 H1 : Hp) : Prop where
  f : Sub F F1
  fh : Sub F1 H1
  h : Sub H H1
  new : ∀ a o, F1 a = some o → F a = some o ∨ H a = none
theorem Grow.refl {F H : Hp} (s : Sub F H) : Grow F H F H := ⟨.refl _, s, .refl _, fun _ _ h => .inl h⟩
theorem Grow.trans {F H F1 H1 F2 H2 : Hp} (a : Grow F H F1 H1) (b : Grow F1 H1 F2 H2) : Grow F H F2 H2 :=
  ⟨a.f.trans b.f, b.fh, a.h.trans b.h, fun c o e => by
    rcases b.new c o e with h | h
    · exact a.new c o h
    · exact .inr (a.h.none h)⟩
/-- a new thing, shared -/
theorem Grow.put {F H : Hp} (s : Sub F H) {p : Addr} {o : HO} (h : H p = none) : Grow F H (upd F p o) (upd H p o) :=
  ⟨Sub.upd_new (s.none h), s.upd_both, Sub.upd_new h, fun a u e => by
    by_cases q : a = p
    · subst q; exact .inr h
    · rw [upd_ne q] at e; exact .inl e⟩
/-- .. not shared -/
theorem Grow.lay {F H : Hp} (s : Sub F H) {p : Addr} {o : HO} (h : H p = none) : Grow F H F (upd H p o) :=
  ⟨.refl _, s.trans (Sub.upd_new h), Sub.upd_new h, fun a u e => .inl e⟩
/-- an answer: shared (never where fr is so), or a new thing at p -/
def Res (K : PySem.W.Frag) (F H : Hp) (fr : Bool) (v : Ev.PV) (z : V) (H' : Hp) : Prop :=
  ∃ F1 H1, Grow F H F1 H1 ∧ ((H' = H1 ∧ Rep K F1 v z ∧ fr = false) ∨ ∃ p o, z = .ref p ∧ H1 p = none ∧ H' = upd H1 p o ∧ ORep K F1 o v)
theorem Res.old {F H : Hp} {v : Ev.PV} {z : V} {fr : Bool} (s : Sub F H) (h : Rep K F v z) (hf : fr = false) : Res K F H fr v z H := ⟨F, H, .refl s, .inl ⟨rfl, h, hf⟩⟩
theorem Res.mk {F H : Hp} {v : Ev.PV} {p : Addr} {o : HO} {fr : Bool} (s : Sub F H) (n : H p = none) (h : ORep K F o v) : Res K F H fr v (.ref p) (upd H p o) := ⟨F, H, .refl s, .inr ⟨p, o, rfl, n, rfl, h⟩⟩
end
end Sd
end
section
set_option Elab.async false
set_option linter.all false
set_option maxRecDepth 100000
set_option maxHeartbeats 4000000
set_option autoImplicit false
namespace Sd
open PySem PySem.Spec PyProof.Rows L2
abbrev okT (s : Ev.Txt) : Prop := s.all (fun c => decide (c < 1114112)) = true
/-! ### data, for == -/
mutual
def toPD : Ev.PV → PyData
  | .non => .none
  | .bl b => .bool b
  | .int i => .int i
  | .str s => .str ⟨s.toArray⟩
  | .tup xs => .tuple (toPDs xs)
  | .lst xs => .list (toPDs xs)
  | _ => .none
def toPDs : List Ev.PV → List PyData
  | [] => []
  | x :: xs => toPD x :: toPDs xs
end
mutual
theorem eqv_toPD : ∀ (p q : Ev.PV), Ev.plain p = true → Ev.plain q = true → PyData.eqv (toPD p) (toPD q) = Ev.eqv p q
  | .non, q, h, k => by cases q <;> first | rfl | (simp [Ev.plain] at k)
  | .bl b, q, h, k => by cases q <;> first | rfl | (simp [Ev.plain] at k)
  | .int i, q, h, k => by cases q <;> first | rfl | (simp [Ev.plain] at k)
  | .str s, q, h, k => by
    cases q <;> first | rfl | (simp [Ev.plain] at k; done) | skip
    rename_i t
    show ((⟨s.toArray⟩ : Str) == ⟨t.toArray⟩) = (s == t)
    rw [Bool.eq_iff_iff]
    simp
  | .tup xs, q, h, k => by
    cases q <;> first | rfl | (simp [Ev.plain] at k; done) | skip
    exact eqvs_toPD xs _ (by simpa [Ev.plain] using h) (by simpa [Ev.plain] using k)
  | .lst xs, q, h, k => by
    cases q <;> first | rfl | (simp [Ev.plain] at k; done) | skip
    exact eqvs_toPD xs _ (by simpa [Ev.plain] using h) (by simpa [Ev.plain] using k)
  | .dic _ _, q, h, k => by simp [Ev.plain] at h
  | .obj _, q, h, k => by simp [Ev.plain] at h
  | .fn _, q, h, k => by simp [Ev.plain] at h
theorem eqvs_toPD : ∀ (p q : List Ev.PV), Ev.plains p = true → Ev.plains q = true → PyData.eqvAll (toPDs p) (toPDs q) = Ev.eqvs p q
  | [], [], _, _ => rfl
  | [], _ :: _, _, _ => rfl
  | _ :: _, [], _, _ => rfl
  | x :: xs, y :: ys, h, k => by
    rw [Ev.plains, Bool.and_eq_true] at h k
    show (PyData.eqv (toPD x) (toPD y) && PyData.eqvAll (toPDs xs) (toPDs ys)) = (Ev.eqv x y && Ev.eqvs xs ys)
    rw [eqv_toPD x y h.1 k.1, eqvs_toPD xs ys h.2 k.2]
end
mutual
theorem depth_toPD : ∀ (p : Ev.PV), Ev.plain p = true → (toPD p).depth = Ev.depth p
  | .non, _ => rfl
  | .bl _, _ => rfl
  | .int _, _ => rfl
  | .str _, _ => rfl
  | .tup xs, h => by
    show PyData.depthAll (toPDs xs) + 1 = Ev.depths xs + 1
    rw [depths_toPD xs (by simpa [Ev.plain] using h)]
  | .lst xs, h => by
    show PyData.depthAll (toPDs xs) + 1 = Ev.depths xs + 1
    rw [depths_toPD xs (by simpa [Ev.plain] using h)]
  | .dic _ _, h => by simp [Ev.plain] at h
  | .obj _, h => by simp [Ev.plain] at h
  | .fn _, h => by simp [Ev.plain] at h
theorem depths_toPD : ∀ (p : List Ev.PV), Ev.plains p = true → PyData.depthAll (toPDs p) = Ev.depths p
  | [], _ => rfl
  | x :: xs, h => by
    rw [Ev.plains, Bool.and_eq_true] at h
    show max (toPD x).depth (PyData.depthAll (toPDs xs)) = max (Ev.depth x) (Ev.depths xs)
    rw [depth_toPD x h.1, depths_toPD xs h.2]
end
section
variable {K : PySem.W.Frag}
mutual
theorem rep_data {F : Hp} : ∀ (p : Ev.PV) (x : V), Rep K F p x → Ev.plain p = true → Dp K F x (toPD p) ∧ (toPD p).canLay0 = true
  | .non, x, h, _ => by obtain rfl := h; exact ⟨.non, rfl⟩
  | .bl b, x, h, _ => by obtain rfl := h; exact ⟨.bl _, rfl⟩
  | .int i, x, h, _ => by obtain rfl := h; exact ⟨.int _, rfl⟩
  | .str s, x, h, _ => by
    obtain ⟨rfl, ho⟩ := h
    refine ⟨.str _, ?_⟩
    show PyData.strOk ⟨s.toArray⟩ = true
    unfold PyData.strOk
    simpa using ho
  | .tup xs, x, h, k => by
    obtain ⟨a, vs, rfl, hs, r⟩ := h
    obtain ⟨h1, h2⟩ := reps_data xs vs r (by simpa [Ev.plain] using k)
    exact ⟨.tup hs h1, h2⟩
  | .lst xs, x, h, k => by
    obtain ⟨a, vs, rfl, hs, r⟩ := h
    obtain ⟨h1, h2⟩ := reps_data xs vs r (by simpa [Ev.plain] using k)
    exact ⟨.lst hs h1, h2⟩
  | .dic _ _, _, _, h => by simp [Ev.plain] at h
  | .obj _, _, _, h => by simp [Ev.plain] at h
  | .fn _, _, _, h => by simp [Ev.plain] at h
theorem reps_data {F : Hp} : ∀ (p : List Ev.PV) (x : List V), Reps K F p x → Ev.plains p = true → DpAll K F x (toPDs p) ∧ PyData.canLayAll0 (toPDs p) = true
  | [], [], _, _ => ⟨.nil, rfl⟩
  | [], _ :: _, h, _ => h.elim
  | _ :: _, [], h, _ => h.elim
  | p :: ps, x :: xs, ⟨h, r⟩, k => by
    rw [Ev.plains, Bool.and_eq_true] at k
    obtain ⟨a1, a2⟩ := rep_data p x h k.1
    obtain ⟨b1, b2⟩ := reps_data ps xs r k.2
    refine ⟨.cons a1 b1, ?_⟩
    show ((toPD p).canLay0 && PyData.canLayAll0 (toPDs ps)) = true
    rw [a2, b2]; rfl
end
theorem brep_data {F H : Hp} (s : Sub F H) {p : Ev.PV} {x : V} (h : BRep K F H p x) (k : Ev.plain p = true) : Dp K H x (toPD p) ∧ (toPD p).canLay0 = true := by
  rcases h with h | ⟨a, o, rfl, e, r, b⟩
  · exact rep_data p x (h.mono s) k
  · cases o <;> cases p <;> first | exact absurd r id | skip
    · obtain ⟨h1, h2⟩ := reps_data _ _ (Reps.mono s r) (by simpa [Ev.plain] using k)
      exact ⟨.lst (SqL.of e) h1, h2⟩
    · obtain ⟨h1, h2⟩ := reps_data _ _ (Reps.mono s r) (by simpa [Ev.plain] using k)
      exact ⟨.tup (SqT.of e) h1, h2⟩
    · simp [Ev.plain] at k
end
/-! ### rules for operators -/
theorem OpR_imp {X : Cx} {f : Value → Value → Sem Value} {r r' : R2} (h : OpR X f r) (k : ∀ x y H Q, r' x y H Q → r x y H Q) : OpR X f r' :=
  fun pins s σ H x y v u Q I rx ry q => h pins s σ H x y v u Q I rx ry (k x y H Q q)
/-- two operands, lent; an answer -/
def rS2 (K : PySem.W.Frag) (b : Ev.Blt) : R2 := fun x y H Q => ∃ F p q v, Sub F H ∧ BRep K F H p x ∧ BRep K F H q y ∧ Ev.sem b [p, q] = some v ∧ ∀ z H', Res K F H (Ev.freshB b v) v z H' → Q z H'
theorem sizeLine_le {n : Nat} (h : n ≤ Ev.sizeTop) : n ≤ sizeLine := by rw [sizeLine_eq]; exact h
theorem str_app (s t : Ev.Txt) : ((⟨s.toArray⟩ : Str) ++ ⟨t.toArray⟩ : Str) = ⟨(s ++ t).toArray⟩ := by
  show Str.mk (s.toArray ++ t.toArray) = _
  simp
theorem str_len (s : Ev.Txt) : (⟨s.toArray⟩ : Str).length = s.length := by simp [Str.length]
theorem op_catL {X : Cx} : OpR X (binaryOp .Add) (fun x y H Q => ∃ l b xs zs, x = .ref l ∧ y = .ref b ∧ SqL X.K H l xs ∧ SqL X.K H b zs ∧ xs.length + zs.length ≤ sizeLine ∧ ∀ p, H p = none → Q (.ref p) (upd H p (.lst (xs ++ zs)))) := by
  intro pins s σ H x y v u Q I rx ry h
  obtain ⟨l, b, xs, zs, rfl, rfl, hH, hB, hz, q⟩ := h
  cases rx
  cases ry
  obtain ⟨its, r, ⟨⟨cls, dd, data, sl⟩, n, ho, hc, hn, hd⟩, hl⟩ := I.list hH
  obtain ⟨its2, r2, ⟨⟨cls2, dd2, data2, sl2⟩, n2, ho2, hc2, hn2, hd2⟩, hl2⟩ := I.list hB
  simp only at hc hd hc2 hd2
  subst hc hd hc2 hd2
  have ea : its.toArray ++ its2.toArray = (its ++ its2).toArray := by simp
  have z1 := r.length
  have z2 := r2.length
  refine concat_meets ⟨_, ho, rfl⟩ ⟨_, ho2, rfl⟩ noFill_list_add seq_list_add PySem.F.slot_list_add PySem.F.entry_list_add (PySem.F.args_list_add_2 _ _) (list_addW l b its.toArray its2.toArray n n2 dd dd2 sl sl2 (by rw [List.size_toArray, List.size_toArray]; omega)) ⟨ho, ho2, ?_⟩
  rw [ea]
  exact ⟨.ref _, _, I.lnew (t' := s.toks) (r.append r2) (by rw [List.length_append]; omega), rfl, q _ I.fresh⟩
theorem sop_add {X : Cx} : OpR X (binaryOp .Add) (rS2 X.K .add) := by
  refine OpR_imp (OpR.or op_add (OpR.or op_add_str (OpR.or op_catL op_catA))) ?_
  rintro x y H Q ⟨F, p, q, v, s, hp, hq, e, k⟩
  change Ev.sAdd [p, q] = some v at e
  cases p <;> cases q <;> simp [Ev.sAdd] at e
  · subst e
    exact .inl ⟨_, _, hp.int, hq.int, k _ _ (.old s rfl rfl)⟩
  · obtain ⟨hz, rfl⟩ := e
    obtain ⟨h1, o1⟩ := hp.str
    obtain ⟨h2, o2⟩ := hq.str
    refine .inr (.inl ⟨_, _, h1, h2, by rw [str_len, str_len]; exact sizeLine_le hz, k _ _ (.old s ?_ rfl)⟩)
    rw [str_app]
    exact ⟨rfl, by rw [List.all_append, o1, o2]; rfl⟩
  · obtain ⟨hz, rfl⟩ := e
    obtain ⟨a, vs, e1, h1, r1⟩ := hp.tupT s
    obtain ⟨b, ws, e2, h2, r2⟩ := hq.tupT s
    have l1 := r1.length
    have l2 := r2.length
    refine .inr (.inr (.inr ⟨a, b, vs, ws, e1, e2, h1, h2, by rw [← l1, ← l2]; exact sizeLine_le hz, fun h0 => k _ _ ?_, fun h0 h3 => k _ _ ?_, fun _ _ p np => k _ _ (.mk s np (Reps.append r1 r2))⟩))
    · rw [h0] at l1
      rw [List.eq_nil_of_length_eq_zero l1, ← e2]
      exact .old s hq.tup rfl
    · rw [h3] at l2
      rw [List.eq_nil_of_length_eq_zero l2, List.append_nil, ← e1]
      exact .old s hp.tup rfl
  · obtain ⟨hz, rfl⟩ := e
    obtain ⟨a, vs, e1, h1, r1⟩ := hp.lstL s
    obtain ⟨b, ws, e2, h2, r2⟩ := hq.lstL s
    have l1 := r1.length
    have l2 := r2.length
    exact .inr (.inr (.inl ⟨a, b, vs, ws, e1, e2, h1, h2, by rw [← l1, ← l2]; exact sizeLine_le hz, fun p np => k _ _ (.mk s np (Reps.append r1 r2))⟩))
theorem sop_sub {X : Cx} : OpR X (binaryOp .Sub) (rS2 X.K .sub) := by
  refine OpR_imp op_sub ?_
  rintro x y H Q ⟨F, p, q, v, s, hp, hq, e, k⟩
  change Ev.sSub [p, q] = some v at e
  cases p <;> cases q <;> simp [Ev.sSub] at e
  subst e
  exact ⟨_, _, hp.int, hq.int, k _ _ (.old s rfl rfl)⟩
theorem big_lt {i : Int} (h : Ev.big i = true) : -(2 ^ 64) < i ∧ i < 2 ^ 64 := by
  unfold Ev.big at h
  have := of_decide_eq_true h
  omega
theorem wide_lt' {i : Int} (h : Ev.wide i = true) : i.natAbs < 2 ^ 4096 := by
  unfold Ev.wide at h
  exact of_decide_eq_true h
theorem sop_fdiv {X : Cx} : OpR X (binaryOp .FloorDiv) (rS2 X.K .fdiv) := by
  refine OpR_imp op_fdivW ?_
  rintro x y H Q ⟨F, p, q, v, s, hp, hq, e, k⟩
  change Ev.sFdiv [p, q] = some v at e
  cases p <;> cases q <;> simp [Ev.sFdiv] at e
  obtain ⟨⟨h0, hw⟩, rfl⟩ := e
  exact ⟨_, _, hp.int, hq.int, wide_div h0 (wide_lt' hw) (by decide) (by decide), k _ _ (.old s rfl rfl)⟩
theorem sop_mod {X : Cx} : OpR X (binaryOp .Mod) (rS2 X.K .mod) := by
  refine OpR_imp op_mod ?_
  rintro x y H Q ⟨F, p, q, v, s, hp, hq, e, k⟩
  change Ev.sMod [p, q] = some v at e
  cases p <;> cases q <;> simp [Ev.sMod] at e
  obtain ⟨h0, rfl⟩ := e
  exact ⟨_, _, hp.int, hq.int, h0, k _ _ (.old s rfl rfl)⟩
theorem sop_pow {X : Cx} : OpR X (binaryOp .Pow) (rS2 X.K .pow) := by
  refine OpR_imp op_pow ?_
  rintro x y H Q ⟨F, p, q, v, s, hp, hq, e, k⟩
  change Ev.sPow [p, q] = some v at e
  cases p <;> cases q <;> simp [Ev.sPow] at e
  obtain ⟨⟨⟨h0, h1⟩, h2⟩, rfl⟩ := e
  refine ⟨_, _, hp.int, hq.int, ⟨h0, by omega, ?_⟩, k _ _ (.old s rfl rfl)⟩
  unfold Ev.big at h2
  exact of_decide_eq_true h2
theorem sop_eq {X : Cx} (hu : X.A.units + 64 < cLine) : OpR X (compareOp .Eq) (rS2 X.K .eq) := by
  intro pins s σ H x y v u Q I rx ry h
  obtain ⟨F, p, q, r, sb, hp, hq, e, k⟩ := h
  change Ev.sEq [p, q] = some r at e
  simp only [Ev.sEq] at e
  split at e <;> cases e
  rename_i ok
  simp only [Ev.eqOk, Bool.and_eq_true, decide_eq_true_eq] at ok
  obtain ⟨⟨p1, p2⟩, dp⟩ := ok
  obtain ⟨d1, l1⟩ := brep_data sb hp p1
  obtain ⟨d2, l2⟩ := brep_data sb hq p2
  obtain ⟨as, r1⟩ := Dp.reads I _ x v d1 rx
  obtain ⟨bs, r2⟩ := Dp.reads I _ y u d2 ry
  refine SeqAt.compareEq_reads r1 r2 l1 l2 (by rw [depth_toPD p p1, depth_toPD q p2]; omega) ⟨.bl _, H, I, rfl, ?_⟩
  rw [eqv_toPD p q p1 p2]
  exact k _ _ (.old sb rfl rfl)
theorem sop_ne {X : Cx} (hu : X.A.units + 64 < cLine) : OpR X (compareOp .NotEq) (rS2 X.K .ne) := by
  intro pins s σ H x y v u Q I rx ry h
  obtain ⟨F, p, q, r, sb, hp, hq, e, k⟩ := h
  change Ev.sNe [p, q] = some r at e
  simp only [Ev.sNe] at e
  split at e <;> cases e
  rename_i ok
  simp only [Ev.eqOk, Bool.and_eq_true, decide_eq_true_eq] at ok
  obtain ⟨⟨p1, p2⟩, dp⟩ := ok
  obtain ⟨d1, l1⟩ := brep_data sb hp p1
  obtain ⟨d2, l2⟩ := brep_data sb hq p2
  obtain ⟨as, r1⟩ := Dp.reads I _ x v d1 rx
  obtain ⟨bs, r2⟩ := Dp.reads I _ y u d2 ry
  refine SeqAt.compareNe_reads r1 r2 l1 l2 (by rw [depth_toPD p p1, depth_toPD q p2]; omega) ⟨.bl _, H, I, rfl, ?_⟩
  rw [eqv_toPD p q p1 p2]
  exact k _ _ (.old sb rfl rfl)
theorem ltT_cps : ∀ s t : Ev.Txt, Ev.ltT s t = decide (s < t)
  | [], [] => by simp [Ev.ltT]
  | [], _ :: _ => by simp [Ev.ltT]
  | _ :: _, [] => by simp [Ev.ltT]
  | a :: s, b :: t => by
    rw [Ev.ltT, Bool.eq_iff_iff]
    simp only [decide_eq_true_eq, List.cons_lt_cons_iff]
    by_cases h : a = b
    · subst h
      simp [ltT_cps s t]
    · simp [h]
theorem sop_lt {X : Cx} : OpR X (compareOp .Lt) (rS2 X.K .lt) := by
  refine OpR_imp (OpR.or op_lt op_lt_str) ?_
  rintro x y H Q ⟨F, p, q, v, s, hp, hq, e, k⟩
  change Ev.sLt [p, q] = some v at e
  cases p <;> cases q <;> simp [Ev.sLt, Ev.cmpI] at e
  · subst e
    exact .inl ⟨_, _, hp.int, hq.int, k _ _ (.old s rfl rfl)⟩
  · subst e
    refine .inr ⟨_, _, hp.str.1, hq.str.1, k _ _ (.old s ?_ rfl)⟩
    rw [ltT_cps]
    rfl
theorem sop_le {X : Cx} : OpR X (compareOp .LtE) (rS2 X.K .le) := by
  refine OpR_imp op_le ?_
  rintro x y H Q ⟨F, p, q, v, s, hp, hq, e, k⟩
  change Ev.sLe [p, q] = some v at e
  cases p <;> cases q <;> simp [Ev.sLe, Ev.cmpI] at e
  subst e
  exact ⟨_, _, hp.int, hq.int, k _ _ (.old s rfl rfl)⟩
theorem sop_gt {X : Cx} : OpR X (compareOp .Gt) (rS2 X.K .gt) := by
  refine OpR_imp op_gt ?_
  rintro x y H Q ⟨F, p, q, v, s, hp, hq, e, k⟩
  change Ev.sGt [p, q] = some v at e
  cases p <;> cases q <;> simp [Ev.sGt, Ev.cmpI] at e
  subst e
  exact ⟨_, _, hp.int, hq.int, k _ _ (.old s rfl rfl)⟩
theorem sop_ge {X : Cx} : OpR X (compareOp .GtE) (rS2 X.K .ge) := by
  refine OpR_imp op_ge ?_
  rintro x y H Q ⟨F, p, q, v, s, hp, hq, e, k⟩
  change Ev.sGe [p, q] = some v at e
  cases p <;> cases q <;> simp [Ev.sGe, Ev.cmpI] at e
  subst e
  exact ⟨_, _, hp.int, hq.int, k _ _ (.old s rfl rfl)⟩
end Sd
end
section
set_option Elab.async false
set_option linter.all false
set_option maxRecDepth 100000
set_option maxHeartbeats 4000000
set_option autoImplicit false
namespace Sd
open PySem PySem.Spec PyProof.Rows L2
/-! ### the relation between the state of a frame and the evaluator's -/
/-- F: what is shared; H0, F0: the entry of the def; P: what is put aside meanwhile -/
structure Gh where
  F : Hp
  H0 : Hp
  F0 : Hp
  P : Hp
def SVR (K : PySem.W.Frag) (g : Gh) (H : Hp) : Ev.SV → V → Prop
  | .val p, x => Rep K g.F p x
  | .own p, x => ∃ a o, x = .ref a ∧ H a = some o ∧ ORep K g.F o p ∧ Ev.isBox p = true ∧ g.F a = none ∧ g.H0 a = none ∧ g.P a = none
structure R (K : PySem.W.Frag) (g : Gh) (σ : L2.St) (H : Hp) (st : Ev.St) : Prop where
  sub : Sub g.F H
  len : st.sl.length = σ.length
  slot : ∀ i v, st.get i = some v → ∃ x, σ[i]? = some (some x) ∧ SVR K g H v x
  dis : ∀ i j v w x, st.get i = some (.own v) → st.get j = some (.own w) → σ[i]? = some (some x) → σ[j]? = some (some x) → i = j
  old : Sub g.H0 H
  f0 : Sub g.F0 g.F
  new : ∀ a o, g.F a = some o → g.F0 a = some o ∨ g.H0 a = none
  ob : st.ob = []
  psub : Sub g.P H
  pf : ∀ a o, g.P a = some o → g.F a = none ∧ g.H0 a = none
section
variable {K : PySem.W.Frag} {g g' : Gh} {σ : L2.St} {H H1 F1 : Hp} {st : Ev.St}
theorem R.grow (r : R K g σ H st) (w : Grow g.F H F1 H1) : R K { g with F := F1 } σ H1 st where
  sub := w.fh
  len := r.len
  slot := fun i v e => by
    obtain ⟨x, h1, h2⟩ := r.slot i v e
    refine ⟨x, h1, ?_⟩
    cases v with
    | val p => exact Rep.mono w.f h2
    | own p =>
      obtain ⟨a, o, e1, e2, e3, e4, e5, e6⟩ := h2
      refine ⟨a, o, e1, w.h a o e2, e3.mono w.f, e4, ?_, e6⟩
      show F1 a = none
      cases q : F1 a with
      | none => rfl
      | some u =>
        rcases w.new a u q with z | z
        · rw [e5] at z; cases z
        · rw [e2] at z; cases z
  dis := r.dis
  old := r.old.trans w.h
  f0 := r.f0.trans w.f
  new := fun a o e => by
    rcases w.new a o e with z | z
    · exact r.new a o z
    · exact .inr (r.old.none z)
  ob := r.ob
  psub := r.psub.trans w.h
  pf := fun a o e => by
    refine ⟨?_, (r.pf a o e).2⟩
    show F1 a = none
    cases q : F1 a with
    | none => rfl
    | some u =>
      rcases w.new a u q with z | z
      · rw [(r.pf a o e).1] at z; cases z
      · rw [r.psub a o e] at z; cases z
end
/-- from one state of a frame to a later one -/
structure Ext (g : Gh) (H : Hp) (g' : Gh) (H' : Hp) (nm : Bool) : Prop where
  f : Sub g.F g'.F
  h0 : g'.H0 = g.H0
  f0 : g'.F0 = g.F0
  p : g'.P = g.P
  h : nm = true → Sub H H'
theorem Ext.refl {g : Gh} {H : Hp} {nm : Bool} : Ext g H g H nm := ⟨.refl _, rfl, rfl, rfl, fun _ => .refl _⟩
theorem Ext.trans {g g1 g2 : Gh} {H H1 H2 : Hp} {n1 n2 n : Bool} (a : Ext g H g1 H1 n1) (b : Ext g1 H1 g2 H2 n2) (h1 : n = true → n1 = true) (h2 : n = true → n2 = true) : Ext g H g2 H2 n :=
  ⟨a.f.trans b.f, b.h0.trans a.h0, b.f0.trans a.f0, b.p.trans a.p, fun z => (a.h (h1 z)).trans (b.h (h2 z))⟩
theorem Grow.ext {g : Gh} {H F1 H1 : Hp} {nm : Bool} (w : Grow g.F H F1 H1) : Ext g H { g with F := F1 } H1 nm := ⟨w.f, rfl, rfl, rfl, fun _ => w.h⟩
/-- the evaluator ends so -/
def wpO {α : Type} (o : Ev.Out α) (Q : α → Ev.St → Prop) : Prop :=
  match o with
  | .ok a s => Q a s
  | _ => False
theorem wpO_bind {α β : Type} {o : Ev.Out α} {f : α → Ev.St → Ev.Out β} {Q : β → Ev.St → Prop} : wpO (o.bind f) Q ↔ wpO o fun a s => wpO (f a s) Q := by
  cases o <;> exact Iff.rfl
theorem wpO_mono {α : Type} {o : Ev.Out α} {Q Q' : α → Ev.St → Prop} (h : wpO o Q) (k : ∀ a s, Q a s → Q' a s) : wpO o Q' := by
  cases o with
  | ok a s => exact k a s h
  | exc e s => exact h
  | no => exact h
theorem wpO_opt {α : Type} {o : Option α} {s : Ev.St} {Q : α → Ev.St → Prop} : wpO (Ev.Out.ofOpt o s) Q ↔ ∃ a, o = some a ∧ Q a s := by
  cases o with
  | none => exact ⟨fun h => h.elim, fun ⟨_, e, _⟩ => nomatch e⟩
  | some a => exact ⟨fun h => ⟨a, rfl, h⟩, fun ⟨_, e, h⟩ => by cases e; exact h⟩
/-- the reading of a computation of the evaluator: RR ties its answer to the machine's -/
abbrev RRel (α β : Type) := Gh → L2.St → Hp → Ev.St → α → β → Prop
def TX (K : PySem.W.Frag) {α β : Type} (m : Ev.St → Ev.Out α) (nm : Bool) (RR : RRel α β) : L2.St → Hp → (β → Hp → Prop) → Prop :=
  fun σ H Q => ∃ g st, R K g σ H st ∧ wpO (m st) fun a st' => ∀ x H' g', R K g' σ H' st' → Ext g H g' H' nm → RR g' σ H' st' a x → Q x H'
theorem PE_imp {X : L2.Cx} {e : Expr} {t t' : TE} (h : PE X e t) (k : ∀ σ H Q, t' σ H Q → t σ H Q) : PE X e t' :=
  ⟨fun pins s σ H Q I q => h.run pins s σ H Q I (k σ H Q q)⟩
theorem PT_imp {X : L2.Cx} {e : Expr} {t t' : TT} (h : PT X e t) (k : ∀ σ H Q, t' σ H Q → t σ H Q) : PT X e t' :=
  ⟨fun pins s σ H Q I q => h.run pins s σ H Q I (k σ H Q q)⟩
section
variable {K : PySem.W.Frag}
/-- shared -/
def RV (K : PySem.W.Frag) : RRel Ev.PV V := fun g _ _ _ p x => Rep K g.F p x
/-- lent -/
def RB (K : PySem.W.Frag) (cr : Bool) : RRel Ev.PV V := fun g _ H _ p x => BRep K g.F H p x ∧ (cr = false → Rep K g.F p x)
/-- a new thing that none has -/
def Raw (K : PySem.W.Frag) (g : Gh) (σ : L2.St) (H : Hp) (st : Ev.St) (p : Ev.PV) (x : V) : Prop :=
  ∃ a o, x = .ref a ∧ H a = some o ∧ ORep K g.F o p ∧ g.F a = none ∧ g.H0 a = none ∧ g.P a = none ∧ ∀ i w, st.get i = some (.own w) → σ[i]? ≠ some (some x)
/-- new, or shared where fr is not so -/
def RW (K : PySem.W.Frag) (fr : Ev.PV → Bool) : RRel Ev.PV V := fun g σ H st p x => (Rep K g.F p x ∧ fr p = false) ∨ Raw K g σ H st p x
/-- .. told by the mark -/
def RF (K : PySem.W.Frag) : RRel Ev.SV V := fun g σ H st r x => match r with
  | .val p => Rep K g.F p x
  | .own p => Ev.isBox p = true ∧ Raw K g σ H st p x
/-- what is new is shared -/
theorem Raw.share {g : Gh} {σ : L2.St} {H : Hp} {st : Ev.St} {p : Ev.PV} {x : V} (r : R K g σ H st) (h : Raw K g σ H st p x) :
    ∃ g', R K g' σ H st ∧ Ext g H g' H true ∧ Rep K g'.F p x := by
  obtain ⟨a, o, e1, e2, e3, e4, e5, ep, e6⟩ := h
  have sb : Sub (upd g.F a o) H := fun b u e => by
    by_cases q : b = a
    · subst q; rw [upd_same] at e; cases e; exact e2
    · rw [upd_ne q] at e; exact r.sub b u e
  have up : Sub g.F (upd g.F a o) := Sub.upd_new e4
  refine ⟨{ g with F := upd g.F a o }, ⟨sb, r.len, fun i v e => ?_, r.dis, r.old, r.f0.trans up, fun b u e => ?_, r.ob, r.psub, fun b u e => ?_⟩, ⟨up, rfl, rfl, rfl, fun _ => .refl _⟩, ?_⟩
  · obtain ⟨y, h1, h2⟩ := r.slot i v e
    refine ⟨y, h1, ?_⟩
    cases v with
    | val q => exact Rep.mono up h2
    | own q =>
      obtain ⟨b, u, f1, f2, f3, f4, f5, f6⟩ := h2
      refine ⟨b, u, f1, f2, f3.mono up, f4, ?_, f6⟩
      show upd g.F a o b = none
      rw [upd_ne]
      · exact f5
      · intro z
        subst z
        exact e6 i q e (by rw [h1, f1, e1])
  · by_cases q : b = a
    · subst q; exact .inr e5
    · have e' : upd g.F a o b = some u := e
      rw [upd_ne q] at e'
      exact r.new b u e'
  · refine ⟨?_, (r.pf b u e).2⟩
    show upd g.F a o b = none
    rw [upd_ne]
    · exact (r.pf b u e).1
    · intro z
      subst z
      rw [ep] at e; cases e
  · rw [e1]
    exact (e3.mono up).rep upd_same
theorem TX_imp {α β : Type} {m : Ev.St → Ev.Out α} {nm : Bool} {RR RR' : RRel α β} {σ : L2.St} {H : Hp} {Q : β → Hp → Prop} (h : TX K m nm RR σ H Q)
    (k : ∀ g σ H st a x, R K g σ H st → RR' g σ H st a x → ∃ g', R K g' σ H st ∧ Ext g H g' H true ∧ RR g' σ H st a x) : TX K m nm RR' σ H Q := by
  obtain ⟨g, st, r, w⟩ := h
  refine ⟨g, st, r, wpO_mono w fun a st' z x H' g' r' e rr => ?_⟩
  obtain ⟨g2, r2, e2, rr2⟩ := k g' σ H' st' a x r' rr
  exact z x H' g2 r2 (e.trans e2 id fun _ => rfl) rr2
/-- raw answers, shared at once -/
theorem pe_share {X : L2.Cx} {e : Expr} {m : Ev.St → Ev.Out Ev.PV} {nm : Bool} {fr : Ev.PV → Bool} (h : PE X e (TX K m nm (RW K fr))) : PE X e (TX K m nm (RV K)) :=
  PE_imp h fun σ H Q q => TX_imp q fun g σ H st a x r z => by
    rcases z with z | z
    · exact ⟨g, r, .refl, z.1⟩
    · exact z.share r
theorem pe_lend {X : L2.Cx} {e : Expr} {m : Ev.St → Ev.Out Ev.PV} {nm cr : Bool} (h : PE X e (TX K m nm (RV K))) : PE X e (TX K m nm (RB K cr)) :=
  PE_imp h fun σ H Q q => TX_imp q fun g σ H st a x r z => ⟨g, r, .refl, .inl z, fun _ => z⟩
/-- a computation in two parts: what is left behind the first -/
theorem TX_split {α β γ δ : Type} {m : Ev.St → Ev.Out α} {f : α → Ev.St → Ev.Out β} {nm nm1 : Bool} {RR : RRel β δ} {RR1 : RRel α γ} {σ : L2.St} {H : Hp} {Q : δ → Hp → Prop} {Q1 : γ → Hp → Prop}
    (h : TX K (fun s => (m s).bind f) nm RR σ H Q)
    (k : ∀ g a x H1 g1 st1, R K g1 σ H1 st1 → Ext g H g1 H1 nm1 → RR1 g1 σ H1 st1 a x → wpO (f a st1) (fun b st' => ∀ y H' g', R K g' σ H' st' → Ext g H g' H' nm → RR g' σ H' st' b y → Q y H') → (∃ st, m st = .ok a st1) → Q1 x H1) :
    TX K m nm1 RR1 σ H Q1 := by
  obtain ⟨g, st, r, w⟩ := h
  refine ⟨g, st, r, ?_⟩
  change wpO ((m st).bind f) _ at w
  cases e : m st with
  | ok a st1 =>
    rw [e] at w
    exact fun x H1 g1 r1 e1 rr1 => k g a x H1 g1 st1 r1 e1 rr1 w ⟨st, e⟩
  | exc a st1 => rw [e] at w; exact w.elim
  | no => rw [e] at w; exact w.elim
/-- the end of an operation -/
theorem Res.raw {g : Gh} {σ : L2.St} {H H' : Hp} {st : Ev.St} {fr : Bool} {v : Ev.PV} {z : V} (r : R K g σ H st) (h : Res K g.F H fr v z H') :
    ∃ g', R K g' σ H' st ∧ Ext g H g' H' true ∧ ((Rep K g'.F v z ∧ fr = false) ∨ Raw K g' σ H' st v z) := by
  obtain ⟨F1, H1, w, h⟩ := h
  have r1 := r.grow w
  rcases h with ⟨rfl, h, hf⟩ | ⟨p, o, rfl, hp, rfl, h⟩
  · exact ⟨_, r1, w.ext, .inl ⟨h, hf⟩⟩
  · have w2 : Grow F1 H1 F1 (upd H1 p o) := .lay w.fh hp
    refine ⟨_, r1.grow w2, (w.trans w2).ext, .inr ⟨p, o, rfl, upd_same, h, w.fh.none hp, r.old.none (w.h.none hp), r.psub.none (w.h.none hp), fun i q e => ?_⟩⟩
    intro z
    obtain ⟨x, h1, a, u, e1, e2, _⟩ := r1.slot i _ e
    rw [z] at h1
    cases h1
    cases e1
    rw [hp] at e2; cases e2
end
end Sd
end
section
set_option Elab.async false
set_option linter.all false
set_option maxRecDepth 100000
set_option maxHeartbeats 4000000
set_option autoImplicit false
namespace Sd
open PySem PySem.Spec PyProof.Rows L2
/-- an operand -/
def evalA1 (Γ : Ev.Cx) (c : Ev.CE) (cr : Bool) (s : Ev.St) : Ev.Out Ev.PV :=
  match c with
  | .var i => match s.get i with
    | some v => .ok v.v (if cr then s else s.freeze i)
    | none => .no
  | c => Ev.evalE Γ c s
theorem evalAs_cons (Γ : Ev.Cx) (c : Ev.CE) (r : List Ev.CE) (s : Ev.St) :
    Ev.evalAs Γ (c :: r) s = (evalA1 Γ c (Ev.calms r) s).bind fun v s' => (Ev.evalAs Γ r s').bind fun vs s'' => .ok (v :: vs) s'' := by
  cases c <;> first | rfl | (simp only [Ev.evalAs, evalA1])
theorem bind_assoc {α β γ : Type} (o : Ev.Out α) (f : α → Ev.St → Ev.Out β) (h : β → Ev.St → Ev.Out γ) : (o.bind f).bind h = o.bind fun a s => (f a s).bind h := by
  cases o <;> rfl
theorem bind_ok {α β : Type} (a : α) (s : Ev.St) (f : α → Ev.St → Ev.Out β) : (Ev.Out.ok a s).bind f = f a s := rfl
/-- a test's reading -/
def RT : RRel Bool Bool := fun _ _ _ _ b c => c = b
/-- an expression is what its core code says -/
structure EOk (X : L2.Cx) (Γ : Ev.Cx) (e : Expr) (c : Ev.CE) : Prop where
  raw : PE X e (TX X.K (Ev.evalE Γ c) (Ev.calm c) (RW X.K (Ev.freshE c)))
  fr : PE X e (TX X.K (Ev.evalF Γ c) (Ev.calm c) (RF X.K))
  lent : ∀ cr, PE X e (TX X.K (fun s => evalA1 Γ c cr s) (Ev.calm c) (RB X.K cr))
section
variable {X : L2.Cx} {Γ : Ev.Cx} {e : Expr} {c : Ev.CE}
theorem EOk.val (h : EOk X Γ e c) : PE X e (TX X.K (Ev.evalE Γ c) (Ev.calm c) (RV X.K)) := pe_share h.raw
def simpleC : Ev.CE → Bool
  | .var _ => false
  | .call _ _ => false
  | _ => true
theorem EOk.of_raw (h : PE X e (TX X.K (Ev.evalE Γ c) (Ev.calm c) (RW X.K (Ev.freshE c)))) (hs : simpleC c = true)
    (hb : ∀ v, Ev.freshE c v = true → Ev.isBox v = true) : EOk X Γ e c := by
  refine ⟨h, ?_, fun cr => ?_⟩
  · refine PE_imp h fun σ H Q ⟨g, st, r, w⟩ => ⟨g, st, r, ?_⟩
    have e : Ev.evalF Γ c st = (Ev.evalE Γ c st).bind fun v s' => .ok (Ev.mark (Ev.freshE c v) v) s' := by
      cases c <;> first | rfl | exact absurd hs Bool.false_ne_true
    rw [e, wpO_bind] at w
    refine wpO_mono w fun v st' z x H' g' r' ex rw' => ?_
    rcases rw' with ⟨a, b⟩ | a
    · exact z x H' g' r' ex (by rw [b]; exact a)
    · by_cases hf : Ev.freshE c v = true
      · exact z x H' g' r' ex (by rw [hf]; exact ⟨hb v hf, a⟩)
      · obtain ⟨g2, r2, e2, q2⟩ := a.share r'
        refine z x H' g2 r2 (ex.trans e2 id fun _ => rfl) ?_
        rw [show Ev.freshE c v = false by simpa using hf]
        exact q2
  · have e : (fun s => evalA1 Γ c cr s) = Ev.evalE Γ c := by
      funext s
      cases c <;> first | rfl | exact absurd hs Bool.false_ne_true
    rw [e]
    exact pe_lend (pe_share h)
end
section
variable {X : L2.Cx} {Γ : Ev.Cx} {pos : Pos}
/-- a slot's container is shared from now on -/
theorem R.freeze {K : PySem.W.Frag} {g : Gh} {σ : L2.St} {H : Hp} {st : Ev.St} (r : R K g σ H st) (i : Nat) :
    ∃ g', R K g' σ H (st.freeze i) ∧ Ext g H g' H true ∧ ∀ v x, st.get i = some v → σ[i]? = some (some x) → Rep K g'.F v.v x := by
  cases e : st.get i with
  | none => exact ⟨g, by unfold Ev.St.freeze; rw [e]; exact r, .refl, fun v x h => nomatch h⟩
  | some v =>
    obtain ⟨x, h1, h2⟩ := r.slot i v e
    cases v with
    | val p =>
      refine ⟨g, by unfold Ev.St.freeze; rw [e]; exact r, .refl, fun v y h h' => ?_⟩
      cases h
      rw [h1] at h'; cases h'
      exact h2
    | own p =>
      obtain ⟨a, o, e1, e2, e3, e4, e5, e6⟩ := h2
      have hi : i < st.sl.length := by
        unfold Ev.St.get at e
        cases q : st.sl[i]? with
        | none => rw [q] at e; cases e
        | some u => exact (List.getElem?_eq_some_iff.mp q).1
      have gi : ∀ j, (st.put i (.val p)).get j = if j = i then some (.val p) else st.get j := fun j => by
        unfold Ev.St.get Ev.St.put
        by_cases hj : j = i
        · subst hj; simp [hi]
        · rw [if_neg hj, List.getElem?_set_ne (Ne.symm hj)]
      have sb : Sub (upd g.F a o) H := fun b u e => by
        by_cases q : b = a
        · subst q; rw [upd_same] at e; cases e; exact e2
        · rw [upd_ne q] at e; exact r.sub b u e
      have up : Sub g.F (upd g.F a o) := Sub.upd_new e5
      have rp : Rep K (upd g.F a o) p x := by rw [e1]; exact (e3.mono up).rep upd_same
      refine ⟨{ g with F := upd g.F a o }, ?_, ⟨up, rfl, rfl, rfl, fun _ => .refl _⟩, fun v y h h' => ?_⟩
      · unfold Ev.St.freeze
        rw [e]
        refine ⟨sb, by unfold Ev.St.put; rw [List.length_set]; exact r.len, fun j v q => ?_, fun j k v w y q1 q2 q3 q4 => ?_, r.old, r.f0.trans up, fun b u q => ?_, r.ob, r.psub, fun b u q => ?_⟩
        · rw [gi] at q
          by_cases hj : j = i
          · subst hj
            rw [if_pos rfl] at q; cases q
            exact ⟨x, h1, rp⟩
          · rw [if_neg hj] at q
            obtain ⟨y, h3, h4⟩ := r.slot j v q
            refine ⟨y, h3, ?_⟩
            cases v with
            | val q => exact Rep.mono up h4
            | own q =>
              obtain ⟨b, u, f1, f2, f3, f4, f5, f6⟩ := h4
              refine ⟨b, u, f1, f2, f3.mono up, f4, ?_, f6⟩
              show upd g.F a o b = none
              rw [upd_ne]
              · exact f5
              · intro z
                subst z
                exact hj (r.dis j i _ _ x ‹_› e (by rw [h3, f1, e1]) h1)
        · rw [gi] at q1 q2
          by_cases hj : j = i
          · rw [if_pos hj] at q1; cases q1
          · by_cases hk : k = i
            · rw [if_pos hk] at q2; cases q2
            · rw [if_neg hj] at q1
              rw [if_neg hk] at q2
              exact r.dis j k v w y q1 q2 q3 q4
        · by_cases z : b = a
          · subst z; exact .inr e6.1
          · have q' : upd g.F a o b = some u := q
            rw [upd_ne z] at q'
            exact r.new b u q'
        · refine ⟨?_, (r.pf b u q).2⟩
          show upd g.F a o b = none
          rw [upd_ne]
          · exact (r.pf b u q).1
          · intro z
            subst z
            rw [e6.2] at q; cases q
      · cases h
        rw [h1] at h'; cases h'
        exact rp
/-- a name of a slot -/
theorem eok_var {i : Nat} {x : Str} (hN : X.N[i]? = some x) (hv : Vis X.env.scope x) (hd : (x == ("__debug__" : Str)) = false) (hcd : (x == ("__classdict__" : Str)) = false) : EOk X Γ (.Name x pos) (.var i) := by
  have base := pe_var (X := X) (pos := pos) hN hv hd hcd
  have fz : PE X (.Name x pos) (TX X.K (Ev.evalE Γ (.var i)) true (RV X.K)) := by
    refine PE_imp base fun σ H Q ⟨g, st, r, w⟩ => ?_
    simp only [Ev.evalE] at w
    cases e : st.get i with
    | none => rw [e] at w; exact w.elim
    | some v =>
      rw [e] at w
      obtain ⟨y, h1, h2⟩ := r.slot i v e
      obtain ⟨g', r', ex, k⟩ := r.freeze i
      exact ⟨y, h1, w y H g' r' ex (k v y e h1)⟩
  refine ⟨?_, ?_, fun cr => ?_⟩
  · refine PE_imp fz fun σ H Q q => TX_imp q fun g σ H st a x r z => ?_
    exact ⟨g, r, .refl, .inl ⟨z, rfl⟩⟩
  · refine PE_imp fz fun σ H Q ⟨g, st, r, w⟩ => ⟨g, st, r, ?_⟩
    have e : Ev.evalF Γ (.var i) st = (Ev.evalE Γ (.var i) st).bind fun v s' => .ok (Ev.mark (Ev.freshE (.var i) v) v) s' := rfl
    rw [e, wpO_bind] at w
    exact wpO_mono w fun v st' z => z
  · cases cr with
    | false =>
      have e : (fun s => evalA1 Γ (.var i) false s) = Ev.evalE Γ (.var i) := by
        funext s
        simp only [evalA1, Ev.evalE]
        rfl
      rw [e]
      exact pe_lend fz
    | true =>
      refine PE_imp base fun σ H Q ⟨g, st, r, w⟩ => ?_
      simp only [evalA1] at w
      cases e : st.get i with
      | none => rw [e] at w; exact w.elim
      | some v =>
        rw [e] at w
        obtain ⟨y, h1, h2⟩ := r.slot i v e
        refine ⟨y, h1, w y H g r .refl ⟨?_, fun h => nomatch h⟩⟩
        cases v with
        | val p => exact .inl h2
        | own p =>
          obtain ⟨a, o, e1, e2, e3, e4, e5, e6⟩ := h2
          exact .inr ⟨a, o, e1, e2, e3, e4⟩
theorem eok_lit {e : Expr} {v : V} {p : Ev.PV} (h : PE X e (tC v)) (hr : ∀ F, Rep X.K F p v) : EOk X Γ e (.lit p) := by
  refine .of_raw (PE_imp h fun σ H Q ⟨g, st, r, w⟩ => ?_) rfl fun v h => nomatch h
  exact w v H g r .refl (.inl ⟨hr _, rfl⟩)
/-- two operands, one behind the other -/
theorem rd2 {b : Ev.Blt} {ca cb : Ev.CE} {nm : Bool} {σ : L2.St} {H : Hp} {Q : VK} (hn : nm = true → Ev.calm ca = true ∧ Ev.calm cb = true)
    (h : TX X.K (Ev.evalE Γ (.bi b [ca, cb])) nm (RW X.K (Ev.freshE (.bi b [ca, cb]))) σ H Q) :
    tOp (rS2 X.K b) (TX X.K (fun s => evalA1 Γ ca (Ev.calm cb) s) (Ev.calm ca) (RB X.K (Ev.calm cb))) (TX X.K (fun s => evalA1 Γ cb true s) (Ev.calm cb) (RB X.K true)) σ H Q := by
  have e : Ev.evalE Γ (.bi b [ca, cb]) = fun s => (evalA1 Γ ca (Ev.calm cb) s).bind fun v s1 => (evalA1 Γ cb true s1).bind fun w s2 => Ev.Out.ofOpt (Ev.sem b [v, w]) s2 := by
    funext s
    simp only [Ev.evalE, evalAs_cons, Ev.calms, Bool.and_true, Ev.evalAs, bind_assoc, bind_ok]
  rw [e] at h
  refine TX_split h fun g p x H1 g1 st1 r1 e1 b1 w _ => ⟨g1, st1, r1, ?_⟩
  rw [wpO_bind] at w
  refine wpO_mono w fun q st2 w y H2 g2 r2 e2 b2 => ?_
  rw [wpO_opt] at w
  obtain ⟨v, ev, k⟩ := w
  have bx : BRep X.K g2.F H2 p x := by
    cases hc : Ev.calm cb with
    | true => exact b1.1.mono e2.f (e2.h hc)
    | false => exact .inl ((b1.2 hc).mono e2.f)
  refine ⟨g2.F, p, q, v, r2.sub, bx, b2.1, ev, fun z H' rs => ?_⟩
  obtain ⟨g', r', ex, d⟩ := Res.raw r2 rs
  exact k z H' g' r' ((e1.trans e2 (fun n => (hn n).1) fun n => (hn n).2).trans ex id fun _ => rfl) d
theorem freshB_box {b : Ev.Blt} {v : Ev.PV} (h : Ev.freshB b v = true) : Ev.isBox v = true := by
  unfold Ev.freshB at h
  rw [Bool.and_eq_true] at h
  exact h.2
theorem calm2 {b : Ev.Blt} {ca cb : Ev.CE} (h : Ev.calm (.bi b [ca, cb]) = true) : Ev.calm ca = true ∧ Ev.calm cb = true := by
  simpa [Ev.calm, Ev.calms] using h
theorem eok_op {op : Operator} {b : Ev.Blt} {ea eb : Expr} {ca cb : Ev.CE} (ho : OpR X (binaryOp op) (rS2 X.K b)) (ha : EOk X Γ ea ca) (hb : EOk X Γ eb cb) : EOk X Γ (.BinOp ea op eb pos) (.bi b [ca, cb]) :=
  .of_raw (PE_imp (pe_op ho (ha.lent (Ev.calm cb)) (hb.lent true)) fun σ H Q h => rd2 calm2 h) rfl fun v h => freshB_box h
theorem eok_cmp {op : CmpOp} {b : Ev.Blt} {ea eb : Expr} {ca cb : Ev.CE} (ho : OpR X (compareOp op) (rS2 X.K b)) (ha : EOk X Γ ea ca) (hb : EOk X Γ eb cb) (hm : behindInMarks op eb = false) : EOk X Γ (.Compare ea [op] [eb] pos) (.bi b [ca, cb]) :=
  .of_raw (PE_imp (pe_cmpR ho (ha.lent (Ev.calm cb)) (hb.lent true) hm) fun σ H Q h => rd2 calm2 h) rfl fun v h => freshB_box h
end
end Sd
end
section
set_option Elab.async false
set_option linter.all false
set_option maxRecDepth 100000
set_option maxHeartbeats 4000000
set_option autoImplicit false
namespace Sd
open PySem PySem.Spec PyProof.Rows L2
def notStar : Expr → Bool
  | .Starred _ _ => false
  | _ => true
theorem star_cons {e : Expr} {es : List Expr} {env : Env} (h : notStar e = true) : starEach (e :: es) env = (false, eval e env) :: starEach es env := by
  cases e <;> first | rfl | exact absurd h Bool.false_ne_true
/-- expressions, one by one -/
inductive EOks (X : L2.Cx) (Γ : Ev.Cx) : List Expr → List Ev.CE → Prop
  | nil : EOks X Γ [] []
  | cons {e : Expr} {c : Ev.CE} {es : List Expr} {cs : List Ev.CE} : EOk X Γ e c → notStar e = true → EOks X Γ es cs → EOks X Γ (e :: es) (c :: cs)
/-- lent, shared values of a list -/
def RBs (K : PySem.W.Frag) : RRel (List Ev.PV) (List V) := fun g _ H _ ps xs => BReps K g.F H ps xs
def RVs (K : PySem.W.Frag) : RRel (List Ev.PV) (List V) := fun g _ _ _ ps xs => Reps K g.F ps xs
section
variable {X : L2.Cx} {Γ : Ev.Cx} {pos : Pos}
theorem PA_imp {es : List Expr} {t t' : TA} (h : PA X es t) (k : ∀ σ H Q, t' σ H Q → t σ H Q) : PA X es t' :=
  ⟨fun pos pins s σ H Q I q => h.run pos pins s σ H Q I (k σ H Q q)⟩
theorem EOks.star {es : List Expr} {cs : List Ev.CE} (h : EOks X Γ es cs) (env : Env) : (starEach es env).any (·.1) = false := by
  induction h with
  | nil => rfl
  | cons h n _ ih => rw [star_cons n, List.any_cons, ih]; rfl
theorem back_any {pos : Pos} {l : List (Bool × Sem Value)} (h : l.any (·.1) = false) : (backTo pos l).any (·.1) = false := by
  induction l with
  | nil => rfl
  | cons a r ih =>
    rw [List.any_cons, Bool.or_eq_false_iff] at h
    show ((a.1, _) :: backTo pos r).any (·.1) = false
    rw [List.any_cons, ih h.2, h.1]; rfl
theorem pa_lent {es : List Expr} {cs : List Ev.CE} (h : EOks X Γ es cs) : PA X es (TX X.K (Ev.evalAs Γ cs) (Ev.calms cs) (RBs X.K)) := by
  induction h with
  | nil =>
    refine PA_imp pa_nil fun σ H Q ⟨g, st, r, w⟩ => ?_
    exact w [] H g r .refl trivial
  | @cons e c es cs h n hs ih =>
    refine PA_imp (pa_cons (h.lent (Ev.calms cs)) ih (star_cons n)) fun σ H Q q => ?_
    have e : Ev.evalAs Γ (c :: cs) = fun s => (evalA1 Γ c (Ev.calms cs) s).bind fun v s' => (Ev.evalAs Γ cs s').bind fun vs s'' => .ok (v :: vs) s'' := by
      funext s
      rw [evalAs_cons]
    rw [e] at q
    refine TX_split q fun g p x H1 g1 st1 r1 e1 b1 w _ => ⟨g1, st1, r1, ?_⟩
    rw [wpO_bind] at w
    refine wpO_mono w fun ps st2 w xs H2 g2 r2 e2 b2 => ?_
    refine w (x :: xs) H2 g2 r2 (e1.trans e2 (fun z => ?_) fun z => ?_) ⟨?_, b2⟩
    · simp only [Ev.calms, Bool.and_eq_true] at z; exact z.1
    · simp only [Ev.calms, Bool.and_eq_true] at z; exact z.2
    · cases hc : Ev.calms cs with
      | true => exact b1.1.mono e2.f (e2.h hc)
      | false => exact .inl ((b1.2 hc).mono e2.f)
theorem pa_vals {es : List Expr} {cs : List Ev.CE} (h : EOks X Γ es cs) : PA X es (TX X.K (Ev.evalVs Γ cs) (Ev.calms cs) (RVs X.K)) := by
  induction h with
  | nil =>
    refine PA_imp pa_nil fun σ H Q ⟨g, st, r, w⟩ => ?_
    exact w [] H g r .refl trivial
  | @cons e c es cs h n hs ih =>
    refine PA_imp (pa_cons h.val ih (star_cons n)) fun σ H Q q => ?_
    have e : Ev.evalVs Γ (c :: cs) = fun s => (Ev.evalE Γ c s).bind fun v s' => (Ev.evalVs Γ cs s').bind fun vs s'' => .ok (v :: vs) s'' := by
      funext s
      rw [Ev.evalVs]
    rw [e] at q
    refine TX_split q fun g p x H1 g1 st1 r1 e1 b1 w _ => ⟨g1, st1, r1, ?_⟩
    rw [wpO_bind] at w
    refine wpO_mono w fun ps st2 w xs H2 g2 r2 e2 b2 => ?_
    refine w (x :: xs) H2 g2 r2 (e1.trans e2 (fun z => ?_) fun z => ?_) ⟨Rep.mono e2.f b1, b2⟩
    · simp only [Ev.calms, Bool.and_eq_true] at z; exact z.1
    · simp only [Ev.calms, Bool.and_eq_true] at z; exact z.2
/-! ### displays -/
theorem evalVs_len : ∀ (cs : List Ev.CE) (s : Ev.St) (vs : List Ev.PV) (s' : Ev.St), Ev.evalVs Γ cs s = .ok vs s' → vs.length = cs.length
  | [], s, vs, s', h => by
    simp only [Ev.evalVs] at h
    cases h; rfl
  | c :: cs, s, vs, s', h => by
    simp only [Ev.evalVs] at h
    cases e : Ev.evalE Γ c s with
    | ok v s1 =>
      rw [e] at h
      simp only [Ev.Out.bind] at h
      cases e2 : Ev.evalVs Γ cs s1 with
      | ok ws s3 =>
        rw [e2] at h
        cases h
        rw [List.length_cons, List.length_cons, evalVs_len cs s1 ws _ e2]
      | exc _ _ => rw [e2] at h; cases h
      | no => rw [e2] at h; cases h
    | exc _ _ => rw [e] at h; cases h
    | no => rw [e] at h; cases h
theorem eok_tup {es : List Expr} {cs : List Ev.CE} {k : Nat} (h : EOks X Γ es cs) (hz : cs.length ≤ Ev.sizeTop) : EOk X Γ (.Tuple es k pos) (.tup cs) := by
  refine .of_raw (PE_imp (pe_tup (pa_vals h)) fun σ H Q q => ?_) rfl fun v h => nomatch h
  have e : Ev.evalE Γ (.tup cs) = fun s => (Ev.evalVs Γ cs s).bind fun vs s' => .ok (.tup vs) s' := by
    funext s
    rw [Ev.evalE]
  rw [e] at q
  refine TX_split q fun g ps xs H1 g1 st1 r1 e1 b1 w ⟨st, em⟩ => ⟨?_, fun p hp => ?_⟩
  · rw [← Reps.length b1, evalVs_len cs st ps st1 em]
    exact sizeLine_le hz
  · have b1' : Reps X.K g1.F ps xs := b1
    obtain ⟨g', r', ex, d⟩ := Res.raw r1 (Res.mk (fr := false) (v := .tup ps) r1.sub hp (o := .tup xs) b1')
    exact w _ _ g' r' (e1.trans ex (fun z => z) fun _ => rfl) d
theorem eok_lst {es : List Expr} {cs : List Ev.CE} (h : EOks X Γ es cs) (hz : cs.length ≤ Ev.sizeTop) : EOk X Γ (.List es pos) (.lst cs) := by
  have e : Ev.evalE Γ (.lst cs) = fun s => (Ev.evalVs Γ cs s).bind fun vs s' => .ok (.lst vs) s' := by
    funext s
    rw [Ev.evalE]
  have raw0 : PE X (.List es pos) (TX X.K (Ev.evalE Γ (.lst cs)) (Ev.calm (.lst cs)) (fun g σ H st p x => Ev.isBox p = true ∧ Raw X.K g σ H st p x)) := by
    refine PE_imp (pe_lst (pa_vals h)) fun σ H Q q => ?_
    rw [e] at q
    refine TX_split q fun g ps xs H1 g1 st1 r1 e1 b1 w ⟨st, em⟩ => ⟨?_, fun p hp => ?_⟩
    · rw [← Reps.length b1, evalVs_len cs st ps st1 em]
      exact sizeLine_le hz
    · have b1' : Reps X.K g1.F ps xs := b1
      obtain ⟨g', r', ex, d⟩ := Res.raw r1 (Res.mk (fr := true) (v := .lst ps) r1.sub hp (o := .lst xs) b1')
      refine w _ _ g' r' (e1.trans ex (fun z => z) fun _ => rfl) ⟨rfl, ?_⟩
      rcases d with d | d
      · exact absurd d.2 (by decide)
      · exact d
  have raw1 : PE X (.List es pos) (TX X.K (Ev.evalE Γ (.lst cs)) (Ev.calm (.lst cs)) (RW X.K (Ev.freshE (.lst cs)))) :=
    PE_imp raw0 fun σ H Q q => TX_imp q fun g σ H st a x r z => ⟨g, r, .refl, .inr z.2⟩
  refine ⟨raw1, ?_, fun cr => ?_⟩
  · refine PE_imp raw0 fun σ H Q ⟨g, st, r, w⟩ => ⟨g, st, r, ?_⟩
    have e : Ev.evalF Γ (.lst cs) st = (Ev.evalE Γ (.lst cs) st).bind fun v s' => .ok (Ev.mark true v) s' := rfl
    rw [e, wpO_bind] at w
    exact wpO_mono w fun v st' z => z
  · exact pe_lend (pe_share raw1)
/-! ### and, or, not, if -/
/-- an expression as a test -/
def TOk (X : L2.Cx) (Γ : Ev.Cx) (e : Expr) (c : Ev.CE) : Prop := PT X e (TX X.K (fun s => (Ev.evalE Γ c s).bind fun v s' => Ev.truth v s') (Ev.calm c) RT)
theorem truth_ok {v : Ev.PV} {s : Ev.St} {Q : Bool → Ev.St → Prop} : wpO (Ev.truth v s) Q ↔ ∃ b, v = .bl b ∧ Q b s := by
  cases v <;> simp [Ev.truth, wpO]
/-- a test of a value -/
theorem tok_val {e : Expr} {c : Ev.CE} (h : PE X e (TX X.K (Ev.evalE Γ c) (Ev.calm c) (RV X.K)))
    (he : ∀ whole, isTrue e X.env whole = (do let v ← whole; standAt e.pos; holding [v] (truthy v))) : TOk X Γ e c := by
  refine PT_imp (pt_val h he) fun σ H Q q => ?_
  refine TX_split q fun g p x H1 g1 st1 r1 e1 b1 w _ => ?_
  rw [truth_ok] at w
  obtain ⟨b, rfl, w⟩ := w
  exact ⟨b, b1, w b H1 g1 r1 e1 rfl⟩
theorem eok_and {a : Expr} {rest : List Expr} {ca cb : Ev.CE} (ha : EOk X Γ a ca) (hb : EOk X Γ (.BoolOp .And rest pos) cb) (hr : rest ≠ []) : EOk X Γ (.BoolOp .And (a :: rest) pos) (.and ca cb) := by
  cases rest with
  | nil => exact absurd rfl hr
  | cons b rest =>
    refine .of_raw (PE_imp (pe_and ha.val hb.val) fun σ H Q q => ?_) rfl fun v h => nomatch h
    have e : Ev.evalE Γ (.and ca cb) = fun s => (Ev.evalE Γ ca s).bind fun v s' => (Ev.truth v s').bind fun c s'' => if c then Ev.evalE Γ cb s'' else .ok (.bl false) s'' := by
      funext s
      rw [Ev.evalE]
    rw [e] at q
    refine TX_split q fun g p x H1 g1 st1 r1 e1 b1 w _ => ?_
    rw [wpO_bind, truth_ok] at w
    obtain ⟨b, rfl, w⟩ := w
    refine ⟨b, b1, ?_⟩
    cases b with
    | false => exact w _ H1 g1 r1 (e1.trans .refl (fun z => by simp only [Ev.calm, Bool.and_eq_true] at z; exact z.1) fun _ => rfl) (.inl ⟨rfl, rfl⟩)
    | true =>
      refine ⟨g1, st1, r1, wpO_mono w fun v st2 w y H2 g2 r2 e2 b2 => ?_⟩
      exact w y H2 g2 r2 (e1.trans e2 (fun z => by simp only [Ev.calm, Bool.and_eq_true] at z; exact z.1) fun z => by simp only [Ev.calm, Bool.and_eq_true] at z; exact z.2) (.inl ⟨b2, rfl⟩)
theorem eok_or {a : Expr} {rest : List Expr} {ca cb : Ev.CE} (ha : EOk X Γ a ca) (hb : EOk X Γ (.BoolOp .Or rest pos) cb) (hr : rest ≠ []) : EOk X Γ (.BoolOp .Or (a :: rest) pos) (.or ca cb) := by
  cases rest with
  | nil => exact absurd rfl hr
  | cons b rest =>
    refine .of_raw (PE_imp (pe_or ha.val hb.val) fun σ H Q q => ?_) rfl fun v h => nomatch h
    have e : Ev.evalE Γ (.or ca cb) = fun s => (Ev.evalE Γ ca s).bind fun v s' => (Ev.truth v s').bind fun c s'' => if c then .ok (.bl true) s'' else Ev.evalE Γ cb s'' := by
      funext s
      rw [Ev.evalE]
    rw [e] at q
    refine TX_split q fun g p x H1 g1 st1 r1 e1 b1 w _ => ?_
    rw [wpO_bind, truth_ok] at w
    obtain ⟨b, rfl, w⟩ := w
    refine ⟨b, b1, ?_⟩
    cases b with
    | true => exact w _ H1 g1 r1 (e1.trans .refl (fun z => by simp only [Ev.calm, Bool.and_eq_true] at z; exact z.1) fun _ => rfl) (.inl ⟨rfl, rfl⟩)
    | false =>
      refine ⟨g1, st1, r1, wpO_mono w fun v st2 w y H2 g2 r2 e2 b2 => ?_⟩
      exact w y H2 g2 r2 (e1.trans e2 (fun z => by simp only [Ev.calm, Bool.and_eq_true] at z; exact z.1) fun z => by simp only [Ev.calm, Bool.and_eq_true] at z; exact z.2) (.inl ⟨b2, rfl⟩)
theorem eok_one {op : BoolOp} {a : Expr} {ca : Ev.CE} (ha : EOk X Γ a ca) : EOk X Γ (.BoolOp op [a] pos) ca :=
  ⟨pe_one ha.raw, pe_one ha.fr, fun cr => pe_one (ha.lent cr)⟩
/-- .. as tests -/
def WOk (X : L2.Cx) (Γ : Ev.Cx) (e : Expr) (c : Ev.CE) : Prop := PW X e (TX X.K (fun s => (Ev.evalE Γ c s).bind fun v s' => Ev.truth v s') (Ev.calm c) RT)
theorem PW_imp {e : Expr} {t t' : TT} (h : PW X e t) (k : ∀ σ H Q, t' σ H Q → t σ H Q) : PW X e t' :=
  ⟨fun wh pins s σ H Q I q => h.run wh pins s σ H Q I (k σ H Q q)⟩
theorem wok_and1 {a : Expr} {ca : Ev.CE} (ha : TOk X Γ a ca) : WOk X Γ (.BoolOp .And [a] pos) ca := pw_and1 ha
theorem wok_or1 {a : Expr} {ca : Ev.CE} (ha : TOk X Γ a ca) : WOk X Γ (.BoolOp .Or [a] pos) ca := pw_or1 ha
theorem wok_and {a : Expr} {rest : List Expr} {ca cb : Ev.CE} (ha : TOk X Γ a ca) (hb : WOk X Γ (.BoolOp .And rest pos) cb) (hr : rest ≠ []) : WOk X Γ (.BoolOp .And (a :: rest) pos) (.and ca cb) := by
  cases rest with
  | nil => exact absurd rfl hr
  | cons b rest =>
    refine PW_imp (pw_and ha hb) fun σ H Q q => ?_
    have e : (fun s => (Ev.evalE Γ (.and ca cb) s).bind fun v s' => Ev.truth v s') = fun s => ((Ev.evalE Γ ca s).bind fun v s' => Ev.truth v s').bind fun c s'' => if c then (Ev.evalE Γ cb s'').bind fun v s' => Ev.truth v s' else .ok false s'' := by
      funext s
      rw [Ev.evalE, bind_assoc, bind_assoc]
      congr 1
      funext v s'
      rw [bind_assoc]
      congr 1
      funext c s''
      cases c <;> rfl
    rw [e] at q
    refine TX_split q fun g b c H1 g1 st1 r1 e1 b1 w _ => ?_
    obtain rfl : c = b := b1
    cases c with
    | false => exact w false H1 g1 r1 (e1.trans .refl (fun z => by simp only [Ev.calm, Bool.and_eq_true] at z; exact z.1) fun _ => rfl) rfl
    | true =>
      refine ⟨g1, st1, r1, wpO_mono w fun v st2 w y H2 g2 r2 e2 b2 => ?_⟩
      exact w y H2 g2 r2 (e1.trans e2 (fun z => by simp only [Ev.calm, Bool.and_eq_true] at z; exact z.1) fun z => by simp only [Ev.calm, Bool.and_eq_true] at z; exact z.2) b2
theorem wok_or {a : Expr} {rest : List Expr} {ca cb : Ev.CE} (ha : TOk X Γ a ca) (hb : WOk X Γ (.BoolOp .Or rest pos) cb) (hr : rest ≠ []) : WOk X Γ (.BoolOp .Or (a :: rest) pos) (.or ca cb) := by
  cases rest with
  | nil => exact absurd rfl hr
  | cons b rest =>
    refine PW_imp (pw_or ha hb) fun σ H Q q => ?_
    have e : (fun s => (Ev.evalE Γ (.or ca cb) s).bind fun v s' => Ev.truth v s') = fun s => ((Ev.evalE Γ ca s).bind fun v s' => Ev.truth v s').bind fun c s'' => if c then .ok true s'' else (Ev.evalE Γ cb s'').bind fun v s' => Ev.truth v s' := by
      funext s
      rw [Ev.evalE, bind_assoc, bind_assoc]
      congr 1
      funext v s'
      rw [bind_assoc]
      congr 1
      funext c s''
      cases c <;> rfl
    rw [e] at q
    refine TX_split q fun g b c H1 g1 st1 r1 e1 b1 w _ => ?_
    obtain rfl : c = b := b1
    cases c with
    | true => exact w true H1 g1 r1 (e1.trans .refl (fun z => by simp only [Ev.calm, Bool.and_eq_true] at z; exact z.1) fun _ => rfl) rfl
    | false =>
      refine ⟨g1, st1, r1, wpO_mono w fun v st2 w y H2 g2 r2 e2 b2 => ?_⟩
      exact w y H2 g2 r2 (e1.trans e2 (fun z => by simp only [Ev.calm, Bool.and_eq_true] at z; exact z.1) fun z => by simp only [Ev.calm, Bool.and_eq_true] at z; exact z.2) b2
theorem tok_w {e : Expr} {c : Ev.CE} (h : WOk X Γ e c) : TOk X Γ e c := h.pt
theorem calm1 {b : Ev.Blt} {ca : Ev.CE} (h : Ev.calm (.bi b [ca]) = true) : Ev.calm ca = true := by
  simpa [Ev.calm, Ev.calms] using h
theorem eval1 {b : Ev.Blt} {ca : Ev.CE} : Ev.evalE Γ (.bi b [ca]) = fun s => (evalA1 Γ ca true s).bind fun v s1 => Ev.Out.ofOpt (Ev.sem b [v]) s1 := by
  funext s
  simp only [Ev.evalE, evalAs_cons, Ev.calms, Ev.evalAs, bind_assoc, bind_ok]
theorem eok_not {a : Expr} {ca : Ev.CE} (ha : EOk X Γ a ca) : EOk X Γ (.UnaryOp .Not a pos) (.bi .not [ca]) := by
  refine .of_raw (PE_imp (pe_not (ha.lent true)) fun σ H Q q => ?_) rfl fun v h => freshB_box h
  rw [eval1] at q
  refine TX_split q fun g p x H1 g1 st1 r1 e1 b1 w _ => ?_
  rw [wpO_opt] at w
  obtain ⟨v, ev, w⟩ := w
  change Ev.sNot [p] = some v at ev
  cases p <;> simp [Ev.sNot] at ev
  subst ev
  exact ⟨_, b1.1.bl, w _ H1 g1 r1 (e1.trans .refl calm1 fun _ => rfl) (.inl ⟨rfl, rfl⟩)⟩
theorem tok_not {a : Expr} {ca : Ev.CE} (ha : TOk X Γ a ca) (hs : simpleC ca = true) : TOk X Γ (.UnaryOp .Not a pos) (.bi .not [ca]) := by
  refine PT_imp (pt_not ha) fun σ H Q q => ?_
  have e : (fun s => (Ev.evalE Γ (.bi .not [ca]) s).bind fun v s' => Ev.truth v s') = fun s => ((Ev.evalE Γ ca s).bind fun v s' => Ev.truth v s').bind fun c s'' => .ok (!c) s'' := by
    funext s
    rw [eval1]
    have e1 : evalA1 Γ ca true s = Ev.evalE Γ ca s := by cases ca <;> first | rfl | exact absurd hs Bool.false_ne_true
    simp only [e1, bind_assoc]
    congr 1
    funext v s'
    cases v <;> rfl
  rw [e] at q
  refine TX_split q fun g b c H1 g1 st1 r1 e1 b1 w _ => ?_
  obtain rfl : c = b := b1
  exact w _ H1 g1 r1 (e1.trans .refl calm1 fun _ => rfl) rfl
theorem eok_neg {a : Expr} {ca : Ev.CE} (ha : EOk X Γ a ca) : EOk X Γ (.UnaryOp .USub a pos) (.bi .neg [ca]) := by
  refine .of_raw (PE_imp (pe_un un_neg (ha.lent true)) fun σ H Q q => ?_) rfl fun v h => freshB_box h
  rw [eval1] at q
  refine TX_split q fun g p x H1 g1 st1 r1 e1 b1 w _ => ?_
  rw [wpO_opt] at w
  obtain ⟨v, ev, w⟩ := w
  change Ev.sNeg [p] = some v at ev
  cases p <;> simp [Ev.sNeg] at ev
  subst ev
  exact ⟨_, b1.1.int, w _ H1 g1 r1 (e1.trans .refl calm1 fun _ => rfl) (.inl ⟨rfl, rfl⟩)⟩
theorem eok_ife {t a b : Expr} {ct ca cb : Ev.CE} (ht : TOk X Γ t ct) (ha : EOk X Γ a ca) (hb : EOk X Γ b cb) : EOk X Γ (.IfExp t a b pos) (.ife ct ca cb) := by
  refine .of_raw (PE_imp (pe_ifExp ht ha.val hb.val) fun σ H Q q => ?_) rfl fun v h => nomatch h
  have e : Ev.evalE Γ (.ife ct ca cb) = fun s => ((Ev.evalE Γ ct s).bind fun v s' => Ev.truth v s').bind fun k s'' => if k then Ev.evalE Γ ca s'' else Ev.evalE Γ cb s'' := by
    funext s
    rw [Ev.evalE, bind_assoc]
  rw [e] at q
  refine TX_split q fun g b c H1 g1 st1 r1 e1 b1 w _ => ?_
  obtain rfl : c = b := b1
  cases c with
  | true =>
    refine ⟨g1, st1, r1, wpO_mono w fun v st2 w y H2 g2 r2 e2 b2 => ?_⟩
    exact w y H2 g2 r2 (e1.trans e2 (fun z => by simp only [Ev.calm, Bool.and_eq_true] at z; exact z.1.1) fun z => by simp only [Ev.calm, Bool.and_eq_true] at z; exact z.1.2) (.inl ⟨b2, rfl⟩)
  | false =>
    refine ⟨g1, st1, r1, wpO_mono w fun v st2 w y H2 g2 r2 e2 b2 => ?_⟩
    exact w y H2 g2 r2 (e1.trans e2 (fun z => by simp only [Ev.calm, Bool.and_eq_true] at z; exact z.1.1) fun z => by simp only [Ev.calm, Bool.and_eq_true] at z; exact z.2) (.inl ⟨b2, rfl⟩)
/-- a comparison as a test -/
theorem tok_cmp {op : CmpOp} {b : Ev.Blt} {ea eb : Expr} {ca cb : Ev.CE} (ho : OpR X (compareOp op) (rS2 X.K b)) (ha : EOk X Γ ea ca) (hb : EOk X Γ eb cb) (hm : behindInMarks op eb = false) : TOk X Γ (.Compare ea [op] [eb] pos) (.bi b [ca, cb]) := by
  refine PT_imp (pt_cmpR ho (ha.lent (Ev.calm cb)) (hb.lent true) hm) fun σ H Q q => ?_
  obtain ⟨g, st, r, w⟩ := q
  rw [wpO_bind] at w
  refine rd2 (nm := Ev.calm (.bi b [ca, cb])) calm2 ⟨g, st, r, wpO_mono w fun v st' w x H' g' r' ex rw' => ?_⟩
  rw [truth_ok] at w
  obtain ⟨k, rfl, w⟩ := w
  rcases rw' with z | ⟨a, o, e1, e2, e3, _⟩
  · exact ⟨k, z.1, w k H' g' r' ex rfl⟩
  · cases o <;> exact absurd e3 id
end
end Sd
end
section
set_option Elab.async false
set_option linter.all false
set_option maxRecDepth 100000
set_option maxHeartbeats 4000000
set_option autoImplicit false
namespace Sd
open PySem PySem.Spec PyProof.Rows L2
/-! ### what a def promises: the evaluator's answer -/
/-- an answer handed back, from (F, H) to (F', H') -/
structure Back (K : PySem.W.Frag) (F H F' H' : Hp) : Prop where
  f : Sub F F'
  fh : Sub F' H'
  h : Sub H H'
  new : ∀ a o, F' a = some o → F a = some o ∨ H a = none
def RetV (K : PySem.W.Frag) (H F' H' : Hp) (r : Ev.SV) (x : V) : Prop :=
  match r with
  | .val p => Rep K F' p x
  | .own p => ∃ a o, x = .ref a ∧ H' a = some o ∧ ORep K F' o p ∧ Ev.isBox p = true ∧ F' a = none ∧ H a = none
def spOf (K : PySem.W.Frag) (cf : List Ev.PV → Option Ev.SV) (np : Nat) : Sp := fun vs H Q _ =>
  ∃ F ps r, Sub F H ∧ Reps K F ps vs ∧ ps.length = np ∧ cf ps = some r ∧ ∀ x F' H', Back K F H F' H' → RetV K H F' H' r x → Q x H'
/-- what a def's name gives where it is called -/
structure CallOk (X : L2.Cx) (cf : List Ev.PV → Option Ev.SV) (x : Str) (np : Nat) : Prop where
  ex : ∃ (k : Nat) (f : Addr) (fd : FuncData) (ps : List Str), FnOk X.prog X.w X.K X.mg X.base CX0 k f fd ps (spOf X.K cf np) ∧ Room k X.A ∧ X.mg x = some (.ref f) ∧ PySem.W.keepIn X.K (.ref f) = true ∧ Binds X.K fd ps []
theorem pass0' {X : L2.Cx} : Passes CX0 X (fun _ _ _ => False) := fun _ _ _ _ _ _ _ h => h.elim
section
variable {X : L2.Cx} {Γ : Ev.Cx} {pos p : Pos}
/-- behind a call: the frame's state -/
theorem Back.ret {K : PySem.W.Frag} {g : Gh} {σ : L2.St} {H F' H' : Hp} {st : Ev.St} {r : Ev.SV} {x : V} (rr : R K g σ H st) (b : Back K g.F H F' H') (h : RetV K H F' H' r x) :
    ∃ g', R K g' σ H' st ∧ Ext g H g' H' true ∧ RF K g' σ H' st r x := by
  have w : Grow g.F H F' H' := ⟨b.f, b.fh, b.h, b.new⟩
  have r1 := rr.grow w
  refine ⟨_, r1, w.ext, ?_⟩
  cases r with
  | val p => exact h
  | own p =>
    obtain ⟨a, o, rfl, e1, e2, e3, e4, e5⟩ := h
    refine ⟨e3, a, o, rfl, e1, e2, e4, rr.old.none e5, rr.psub.none e5, fun i q e z => ?_⟩
    obtain ⟨y, h1, a', u, f1, f2, _⟩ := rr.slot i _ e
    rw [z] at h1; cases h1
    cases f1
    rw [e5] at f2; cases f2
theorem rf_rw {K : PySem.W.Frag} {g : Gh} {σ : L2.St} {H : Hp} {st : Ev.St} {r : Ev.SV} {x : V} (h : RF K g σ H st r x) : RW K (fun _ => false) g σ H st r.v x := by
  cases r with
  | val p => exact .inl ⟨h, rfl⟩
  | own p => exact .inr h.2
/-- f(e, ..) -/
theorem eok_call {f np : Nat} {x : Str} {es : List Expr} {cs : List Ev.CE} (F : CallOk X (Γ.call f) x np) (hg : Gl X x) (hdb : (x == ("__debug__" : Str)) = false) (h : EOks X Γ es cs) (hl : cs.length = np) (hne : es ≠ []) :
    EOk X Γ (.Call (.Name x p) es [] pos) (.call f cs) := by
  obtain ⟨k, fa, fd, ps, F1, hr, hm, hk, hb⟩ := F.ex
  have ff : PE X (.Call (.Name x p) es [] pos) (TX X.K (Ev.evalF Γ (.call f cs)) (Ev.calm (.call f cs)) (RF X.K)) := by
    cases es with
    | nil => exact absurd rfl hne
    | cons e es =>
      cases h with
      | cons he hn hes =>
        rename_i c cs
        have hpl : (backTo pos (starEach es X.env)).any (·.1) = false := back_any (hes.star _)
        refine PE_imp (pe_call F1 hr hg hm hk hb .nil pass0' (pa_vals (.cons he hn hes)) hdb (star_cons hn) hpl) fun σ H Q q => ?_
        have e1 : Ev.evalF Γ (.call f (c :: cs)) = fun s => (Ev.evalVs Γ (c :: cs) s).bind fun vs s' => Ev.Out.ofOpt (Γ.call f vs) s' := rfl
        rw [e1] at q
        refine TX_split q fun g qs xs H1 g1 st1 r1 e1 b1 w ⟨st, em⟩ => ?_
        rw [wpO_opt] at w
        obtain ⟨r, er, w⟩ := w
        rw [List.append_nil]
        refine ⟨g1.F, qs, r, r1.sub, b1, by rw [evalVs_len _ _ _ _ em]; exact hl, er, fun z F' H' bk rv => ?_⟩
        obtain ⟨g', r', ex, d⟩ := bk.ret r1 rv
        exact w z H' g' r' (e1.trans ex (fun z => z) fun _ => rfl) d
  have raw : PE X (.Call (.Name x p) es [] pos) (TX X.K (Ev.evalE Γ (.call f cs)) (Ev.calm (.call f cs)) (RW X.K (Ev.freshE (.call f cs)))) := by
    refine PE_imp ff fun σ H Q ⟨g, st, r, w⟩ => ⟨g, st, r, ?_⟩
    have e1 : Ev.evalE Γ (.call f cs) st = (Ev.evalF Γ (.call f cs) st).bind fun r s'' => .ok r.v s'' := by
      show (Ev.evalVs Γ cs st).bind _ = ((Ev.evalVs Γ cs st).bind _).bind _
      rw [bind_assoc]
    rw [e1, wpO_bind] at w
    exact wpO_mono w fun v st' z y H' g' r' ex rf => z y H' g' r' ex (rf_rw rf)
  exact ⟨raw, ff, fun cr => pe_lend (pe_share raw)⟩
/-! ### statements -/
/-- a statement's (a block's) reading -/
def TXS (K : PySem.W.Frag) (m : Ev.St → Ev.Out Ev.Fl) : TS := fun D σ H => ∃ g st, R K g σ H st ∧ wpO (m st) fun fl st' =>
  match fl with
  | .nx => ∀ σ' H' g', R K g' σ' H' st' → Ext g H g' H' false → D.nx σ' H'
  | .brk => ∀ σ' H' g', R K g' σ' H' st' → Ext g H g' H' false → D.bk σ' H'
  | .ret r => ∀ x σ' H' g', R K g' σ' H' st' → Ext g H g' H' false → RF K g' σ' H' st' r x → D.rt x H'
theorem PS_imp {st : Stmt} {t t' : TS} (h : PS X st t) (k : ∀ D σ H, t' D σ H → t D σ H) : PS X st t' :=
  ⟨fun pins s σ H D I q => h.run pins s σ H D I (k D σ H q)⟩
theorem PSs_imp {st : List Stmt} {t t' : TS} (h : PSs X st t) (k : ∀ D σ H, t' D σ H → t D σ H) : PSs X st t' :=
  ⟨fun pins s σ H D I q => h.run pins s σ H D I (k D σ H q)⟩
def SOk (X : L2.Cx) (Γ : Ev.Cx) (s : Stmt) (c : Ev.CS) : Prop := PS X s (TXS X.K (Ev.exec Γ c))
def SOks (X : L2.Cx) (Γ : Ev.Cx) (s : List Stmt) (c : List Ev.CS) : Prop := PSs X s (TXS X.K (Ev.execs Γ c))
theorem soks_nil : SOks X Γ [] [] := by
  refine PSs_imp pss_nil fun D σ H ⟨g, st, r, w⟩ => ?_
  exact w σ H g r .refl
theorem soks_cons {s : Stmt} {c : Ev.CS} {ss : List Stmt} {cs : List Ev.CS} (h : SOk X Γ s c) (hs : SOks X Γ ss cs) : SOks X Γ (s :: ss) (c :: cs) := by
  refine PSs_imp (pss_cons h hs) fun D σ H ⟨g, st, r, w⟩ => ⟨g, st, r, ?_⟩
  simp only [Ev.execs] at w
  rw [wpO_bind] at w
  refine wpO_mono w fun fl st1 w => ?_
  cases fl with
  | nx =>
    intro σ1 H1 g1 r1 e1
    refine ⟨g1, st1, r1, wpO_mono w fun fl st2 w => ?_⟩
    cases fl with
    | nx => exact fun σ2 H2 g2 r2 e2 => w σ2 H2 g2 r2 (e1.trans e2 (fun z => nomatch z) fun z => nomatch z)
    | brk => exact fun σ2 H2 g2 r2 e2 => w σ2 H2 g2 r2 (e1.trans e2 (fun z => nomatch z) fun z => nomatch z)
    | ret v => exact fun x σ2 H2 g2 r2 e2 => w x σ2 H2 g2 r2 (e1.trans e2 (fun z => nomatch z) fun z => nomatch z)
  | brk => exact w
  | ret v => exact w
theorem sok_pass : SOk X Γ (.Pass pos) .pass := by
  refine PS_imp ps_pass fun D σ H ⟨g, st, r, w⟩ => ?_
  exact w σ H g r .refl
theorem sok_brk : SOk X Γ (.Break pos) .brk := by
  refine PS_imp ps_break fun D σ H ⟨g, st, r, w⟩ => ?_
  exact w σ H g r .refl
theorem sok_ex {e : Expr} {c : Ev.CE} (h : EOk X Γ e c) (hs : swapsWith e none pos.line X.env = pure false) : SOk X Γ (.Expr e pos) (.ex c) := by
  refine PS_imp (ps_expr h.val hs) fun D σ H ⟨g, st, r, w⟩ => ⟨g, st, r, ?_⟩
  simp only [Ev.exec] at w
  rw [wpO_bind] at w
  exact wpO_mono w fun v st1 w x H1 g1 r1 e1 _ => w σ H1 g1 r1 (e1.trans .refl (fun z => nomatch z) fun z => rfl)
theorem sok_ret {e : Expr} {c : Ev.CE} (h : EOk X Γ e c) (hs : simpleC c = true ∨ ∃ f cs, c = .call f cs) : SOk X Γ (.Return (some e) pos) (.ret c) := by
  refine PS_imp (ps_ret h.fr) fun D σ H ⟨g, st, r, w⟩ => ⟨g, st, r, ?_⟩
  simp only [Ev.exec] at w
  rw [wpO_bind] at w
  have e : Ev.evalR Γ c st = Ev.evalF Γ c st := by
    rcases hs with hs | ⟨f, cs, rfl⟩
    · cases c <;> first | rfl | exact absurd hs Bool.false_ne_true
    · rfl
  rw [e] at w
  exact wpO_mono w fun v st1 w x H1 g1 r1 e1 rf => w x σ H1 g1 r1 (e1.trans .refl (fun z => nomatch z) fun z => rfl) rf
theorem R.get_lt {K : PySem.W.Frag} {g : Gh} {σ : L2.St} {H : Hp} {st : Ev.St} {i : Nat} {v : Ev.SV} (r : R K g σ H st) (e : st.get i = some v) : i < st.sl.length := by
  unfold Ev.St.get at e
  cases q : st.sl[i]? with
  | none => rw [q] at e; cases e
  | some u => exact (List.getElem?_eq_some_iff.mp q).1
theorem get_drop {st : Ev.St} {i j : Nat} : (st.drop i).get j = if j = i then none else st.get j := by
  unfold Ev.St.get Ev.St.drop
  by_cases hj : j = i
  · subst hj
    rw [if_pos rfl]
    simp only [List.getElem?_set_self']
    cases st.sl[j]? <;> rfl
  · rw [if_neg hj, List.getElem?_set_ne (Ne.symm hj)]
/-- a slot is forgotten -/
theorem R.drop {K : PySem.W.Frag} {g : Gh} {σ : L2.St} {H : Hp} {st : Ev.St} (r : R K g σ H st) (i : Nat) : R K g σ H (st.drop i) where
  sub := r.sub
  len := by unfold Ev.St.drop; rw [List.length_set]; exact r.len
  slot := fun j v e => by
    rw [get_drop] at e
    split at e
    · cases e
    · exact r.slot j v e
  dis := fun j k v w x e1 e2 h1 h2 => by
    rw [get_drop] at e1 e2
    split at e1
    · cases e1
    · split at e2
      · cases e2
      · exact r.dis j k v w x e1 e2 h1 h2
  old := r.old
  f0 := r.f0
  new := r.new
  ob := r.ob
  psub := r.psub
  pf := r.pf
/-- return x: the slot's own container goes along -/
theorem sok_retVar {i : Nat} {x : Str} {p : Pos} (hN : X.N[i]? = some x) (hv : Vis X.env.scope x) (hd : (x == ("__debug__" : Str)) = false) (hcd : (x == ("__classdict__" : Str)) = false) : SOk X Γ (.Return (some (.Name x p)) pos) (.ret (.var i)) := by
  refine PS_imp (ps_ret (pe_var hN hv hd hcd)) fun D σ H ⟨g, st, r, w⟩ => ?_
  simp only [Ev.exec, Ev.evalR] at w
  cases e : st.get i with
  | none => rw [e] at w; exact w.elim
  | some v =>
    rw [e] at w
    obtain ⟨y, h1, h2⟩ := r.slot i v e
    refine ⟨y, h1, ?_⟩
    refine w y σ H g (r.drop i) .refl ?_
    cases v with
    | val p => exact h2
    | own p =>
      obtain ⟨a, o, e1, e2, e3, e4, e5, e6, e7⟩ := h2
      refine ⟨e4, a, o, e1, e2, e3, e5, e6, e7, fun j q q1 q2 => ?_⟩
      rw [get_drop] at q1
      split at q1
      · cases q1
      · rename_i hj
        exact hj (r.dis j i _ _ y q1 e q2 h1)
/-! ### stores -/
theorem get_put {st : Ev.St} {i j : Nat} {v : Ev.SV} (hi : i < st.sl.length) : (st.put i v).get j = if j = i then some v else st.get j := by
  unfold Ev.St.get Ev.St.put
  by_cases hj : j = i
  · subst hj; simp [hi]
  · rw [if_neg hj, List.getElem?_set_ne (Ne.symm hj)]
/-- a shared value is put into a slot -/
theorem R.putV {K : PySem.W.Frag} {g : Gh} {σ : L2.St} {H : Hp} {st : Ev.St} {i : Nat} {p : Ev.PV} {x : V} (r : R K g σ H st) (hi : i < st.sl.length) (h : Rep K g.F p x) : R K g (σ.set i (some x)) H (st.put i (.val p)) where
  sub := r.sub
  len := by unfold Ev.St.put; rw [List.length_set, List.length_set]; exact r.len
  slot := fun j v e => by
    rw [get_put hi] at e
    split at e
    · rename_i hj
      subst hj
      cases e
      exact ⟨x, by rw [List.getElem?_set_self (by rw [← r.len]; exact hi)], h⟩
    · rename_i hj
      rw [List.getElem?_set_ne (Ne.symm hj)]
      exact r.slot j v e
  dis := fun j k v w y e1 e2 h1 h2 => by
    rw [get_put hi] at e1 e2
    split at e1
    · cases e1
    · rename_i hj
      split at e2
      · cases e2
      · rename_i hk
        rw [List.getElem?_set_ne (Ne.symm hj)] at h1
        rw [List.getElem?_set_ne (Ne.symm hk)] at h2
        exact r.dis j k v w y e1 e2 h1 h2
  old := r.old
  f0 := r.f0
  new := r.new
  ob := r.ob
  psub := r.psub
  pf := r.pf
/-- a new container is put into a slot -/
theorem R.putO {K : PySem.W.Frag} {g : Gh} {σ : L2.St} {H : Hp} {st : Ev.St} {i : Nat} {p : Ev.PV} {x : V} (r : R K g σ H st) (hi : i < st.sl.length) (hb : Ev.isBox p = true) (h : Raw K g σ H st p x) : R K g (σ.set i (some x)) H (st.put i (.own p)) where
  sub := r.sub
  len := by unfold Ev.St.put; rw [List.length_set, List.length_set]; exact r.len
  slot := fun j v e => by
    rw [get_put hi] at e
    split at e
    · rename_i hj
      subst hj
      cases e
      obtain ⟨a, o, e1, e2, e3, e4, e5, ep, e6⟩ := h
      exact ⟨x, by rw [List.getElem?_set_self (by rw [← r.len]; exact hi)], a, o, e1, e2, e3, hb, e4, e5, ep⟩
    · rename_i hj
      rw [List.getElem?_set_ne (Ne.symm hj)]
      exact r.slot j v e
  dis := fun j k v w y e1 e2 h1 h2 => by
    obtain ⟨a, o, _, _, _, _, _, _, e6⟩ := h
    have hiσ : i < σ.length := by rw [← r.len]; exact hi
    rw [get_put hi] at e1 e2
    by_cases hj : j = i
    · subst hj
      rw [List.getElem?_set_self hiσ] at h1
      cases h1
      by_cases hk : k = j
      · exact hk.symm
      · rw [if_neg hk] at e2
        rw [List.getElem?_set_ne (Ne.symm hk)] at h2
        exact absurd h2 (e6 k w e2)
    · rw [if_neg hj] at e1
      rw [List.getElem?_set_ne (Ne.symm hj)] at h1
      by_cases hk : k = i
      · subst hk
        rw [List.getElem?_set_self hiσ] at h2
        cases h2
        exact absurd h1 (e6 j v e1)
      · rw [if_neg hk] at e2
        rw [List.getElem?_set_ne (Ne.symm hk)] at h2
        exact r.dis j k v w y e1 e2 h1 h2
  old := r.old
  f0 := r.f0
  new := r.new
  ob := r.ob
  psub := r.psub
  pf := r.pf
theorem R.putF {K : PySem.W.Frag} {g : Gh} {σ : L2.St} {H : Hp} {st : Ev.St} {i : Nat} {v : Ev.SV} {x : V} (r : R K g σ H st) (hi : i < st.sl.length) (h : RF K g σ H st v x) : R K g (σ.set i (some x)) H (st.put i v) := by
  cases v with
  | val p => exact r.putV hi h
  | own p => exact r.putO hi h.1 h.2
/-- x = e -/
theorem sok_asg {i : Nat} {x : Str} {e : Expr} {c : Ev.CE} {p : Pos} (h : EOk X Γ e c) (hN : X.N.Nodup) (hi : X.N[i]? = some x) (hx : Loc X.env.scope x) (hf : X.fn x = true ∨ X.env.scope.names.lookup x = some .local)
    (hs : swapsWithSole [.Name x p] e pos.line X.env = pure false) (hw : swappedStores [.Name x p] e X.env = pure none) : SOk X Γ (.Assign [.Name x p] e pos) (.asg i c) := by
  refine PS_imp (ps_asg h.val (pg_name hN hi hx hf) hs hw rfl) fun D σ H ⟨g, st, r, w⟩ => ⟨g, st, r, ?_⟩
  simp only [Ev.exec] at w
  rw [wpO_bind] at w
  refine wpO_mono w fun v st1 w y H1 g1 r1 e1 b1 => ?_
  by_cases hl : i < st1.sl.length
  · rw [if_pos hl] at w
    exact w _ H1 g1 (r1.putV hl b1) (e1.trans .refl (fun z => nomatch z) fun z => rfl)
  · rw [if_neg hl] at w
    exact w.elim
theorem sok_asgO {i : Nat} {x : Str} {e : Expr} {c : Ev.CE} {p : Pos} (h : EOk X Γ e c) (hN : X.N.Nodup) (hi : X.N[i]? = some x) (hx : Loc X.env.scope x) (hf : X.fn x = true ∨ X.env.scope.names.lookup x = some .local)
    (hs : swapsWithSole [.Name x p] e pos.line X.env = pure false) (hw : swappedStores [.Name x p] e X.env = pure none) : SOk X Γ (.Assign [.Name x p] e pos) (.asgO i c) := by
  refine PS_imp (ps_asg h.fr (pg_name hN hi hx hf) hs hw rfl) fun D σ H ⟨g, st, r, w⟩ => ⟨g, st, r, ?_⟩
  simp only [Ev.exec] at w
  rw [wpO_bind] at w
  refine wpO_mono w fun v st1 w y H1 g1 r1 e1 b1 => ?_
  by_cases hl : i < st1.sl.length
  · rw [if_pos hl] at w
    exact w _ H1 g1 (r1.putF hl b1) (e1.trans .refl (fun z => nomatch z) fun z => rfl)
  · rw [if_neg hl] at w
    exact w.elim
/-- if -/
theorem sok_ife {t : Expr} {a b : List Stmt} {c : Ev.CE} {ca cb : List Ev.CS} (h : TOk X Γ t c) (ha : SOks X Γ a ca) (hb : SOks X Γ b cb) : SOk X Γ (.If t a b pos) (.ife c ca cb) := by
  refine PS_imp (ps_if h ha hb) fun D σ H ⟨g, st, r, w⟩ => ⟨g, st, r, ?_⟩
  simp only [Ev.exec] at w
  have e : ((Ev.evalE Γ c st).bind fun v s' => (Ev.truth v s').bind fun k s'' => if k = true then Ev.execs Γ ca s'' else Ev.execs Γ cb s'') = ((Ev.evalE Γ c st).bind fun v s' => Ev.truth v s').bind fun k s'' => if k = true then Ev.execs Γ ca s'' else Ev.execs Γ cb s'' := by
    rw [bind_assoc]
  rw [e, wpO_bind] at w
  refine wpO_mono w fun k st1 w y H1 g1 r1 e1 b1 => ?_
  obtain rfl : y = k := b1
  have fin : ∀ {m : List Ev.CS}, wpO (Ev.execs Γ m st1) (fun fl st' => match fl with
      | .nx => ∀ σ' H' g', R X.K g' σ' H' st' → Ext g H g' H' false → D.nx σ' H'
      | .brk => ∀ σ' H' g', R X.K g' σ' H' st' → Ext g H g' H' false → D.bk σ' H'
      | .ret r => ∀ x σ' H' g', R X.K g' σ' H' st' → Ext g H g' H' false → RF X.K g' σ' H' st' r x → D.rt x H') → TXS X.K (Ev.execs Γ m) D σ H1 := fun {m} w =>
    ⟨g1, st1, r1, wpO_mono w fun fl st2 w => by
      cases fl with
      | nx => exact fun σ2 H2 g2 r2 e2 => w σ2 H2 g2 r2 (e1.trans e2 (fun z => nomatch z) fun z => nomatch z)
      | brk => exact fun σ2 H2 g2 r2 e2 => w σ2 H2 g2 r2 (e1.trans e2 (fun z => nomatch z) fun z => nomatch z)
      | ret v => exact fun x σ2 H2 g2 r2 e2 => w x σ2 H2 g2 r2 (e1.trans e2 (fun z => nomatch z) fun z => nomatch z)⟩
  cases y with
  | true => exact fin (m := ca) w
  | false => exact fin (m := cb) w
end
end Sd
end
section
set_option Elab.async false
set_option linter.all false
set_option maxRecDepth 100000
set_option maxHeartbeats 4000000
set_option autoImplicit false
namespace Sd
open PySem PySem.Spec PyProof.Rows L2
/-! ### targets -/
mutual
def slotsT : Ev.TG → List Nat
  | .nm i => [i]
  | .tp ts => slotsTs ts
def slotsTs : List Ev.TG → List Nat
  | [] => []
  | t :: ts => slotsT t ++ slotsTs ts
end
theorem wipe_get {σ : L2.St} {i : Nat} : ∀ {vs : List Nat}, (wipe σ vs)[i]? = if i ∈ vs then (σ[i]?).map (fun _ => none) else σ[i]?
  | [] => by simp [wipe]
  | v :: vs => by
    unfold wipe
    by_cases h : v = i
    · subst h
      simp only [List.mem_cons, true_or, if_true, List.getElem?_set_self']
      rw [wipe_get (vs := vs)]
      split <;> cases σ[v]? <;> rfl
    · rw [List.getElem?_set_ne h, wipe_get (vs := vs)]
      have hm : (i ∈ v :: vs) ↔ (i ∈ vs) := by
        simp only [List.mem_cons]
        constructor
        · rintro (q | q)
          · exact absurd q.symm h
          · exact q
        · exact .inr
      by_cases hi : i ∈ vs
      · rw [if_pos hi, if_pos (hm.mpr hi)]
      · rw [if_neg hi, if_neg fun z => hi (hm.mp z)]
/-- the slots vs alone are touched -/
def Only (vs : List Nat) (σ σ' : L2.St) : Prop := σ'.length = σ.length ∧ ∀ i, i ∉ vs → σ'[i]? = σ[i]?
theorem Only.refl {vs : List Nat} {σ : L2.St} : Only vs σ σ := ⟨rfl, fun _ _ => rfl⟩
theorem Only.trans {vs us : List Nat} {σ σ1 σ2 : L2.St} (a : Only vs σ σ1) (b : Only us σ1 σ2) : Only (vs ++ us) σ σ2 :=
  ⟨b.1.trans a.1, fun i h => by
    rw [List.mem_append, not_or] at h
    rw [b.2 i h.2, a.2 i h.1]⟩
theorem Only.wipe {vs ws : List Nat} {σ σ' : L2.St} (o : Only vs σ σ') (h : ∀ i ∈ vs, i ∈ ws) : wipe σ' ws = wipe σ ws := by
  apply List.ext_getElem?
  intro i
  rw [wipe_get, wipe_get]
  by_cases hi : i ∈ ws
  · rw [if_pos hi, if_pos hi]
    by_cases hl : i < σ.length
    · rw [List.getElem?_eq_getElem hl, List.getElem?_eq_getElem (by rw [o.1]; exact hl)]; rfl
    · have hl' : σ'.length ≤ i := by rw [o.1]; omega
      rw [List.getElem?_eq_none hl', List.getElem?_eq_none (by omega)]
  · rw [if_neg hi, if_neg hi]
    exact o.2 i fun z => hi (h i z)
theorem Only.set {σ : L2.St} {i : Nat} {x : Option V} : Only [i] σ (σ.set i x) :=
  ⟨List.length_set, fun j h => by rw [List.getElem?_set_ne (by simpa [eq_comm] using h)]⟩
mutual
/-- an expression that is a target of names -/
inductive TGOk (X : L2.Cx) : Expr → Ev.TG → Prop
  | nm {i : Nat} {x : Str} {p : Pos} : X.N[i]? = some x → Loc X.env.scope x → (X.fn x = true ∨ X.env.scope.names.lookup x = some .local) → TGOk X (.Name x p) (.nm i)
  | tp {es : List Expr} {k : Nat} {p : Pos} {ts : List Ev.TG} : TGsOk X es ts → TGOk X (.Tuple es k p) (.tp ts)
inductive TGsOk (X : L2.Cx) : List Expr → List Ev.TG → Prop
  | nil : TGsOk X [] []
  | cons {e : Expr} {es : List Expr} {t : Ev.TG} {ts : List Ev.TG} : TGOk X e t → TGsOk X es ts → TGsOk X (e :: es) (t :: ts)
end
/-- a target's reading -/
def gTX (K : PySem.W.Frag) (t : Ev.TG) : TG := fun v σ H Q => ∃ g st p st', R K g σ H st ∧ Rep K g.F p v ∧ Ev.bindT t p st = some st' ∧ ∀ σ', R K g σ' H st' → Only (slotsT t) σ σ' → Q σ' H
def gTXs (K : PySem.W.Frag) (ts : List Ev.TG) : TGs := fun vs σ H Q => ∃ g st ps st', R K g σ H st ∧ Reps K g.F ps vs ∧ Ev.bindTs ts ps st = some st' ∧ ∀ σ', R K g σ' H st' → Only (slotsTs ts) σ σ' → Q σ' H
section
variable {X : L2.Cx}
theorem TGOk.notStar {e : Expr} {t : Ev.TG} (h : TGOk X e t) : ∀ (es : List Expr), assignEach (e :: es) X.env = (false, assign e X.env) :: assignEach es X.env := fun es => by
  cases h <;> rfl
theorem TGsOk.len {es : List Expr} {ts : List Ev.TG} (h : TGsOk X es ts) : (assignEach es X.env).length = ts.length ∧ (assignEach es X.env).findIdx? (·.1) = none := by
  induction es generalizing ts with
  | nil => cases h; exact ⟨rfl, rfl⟩
  | cons e es ih =>
    cases h with
    | cons h1 h2 =>
      obtain ⟨a, b⟩ := ih h2
      rw [h1.notStar]
      refine ⟨by rw [List.length_cons, List.length_cons, a], ?_⟩
      rw [List.findIdx?_cons, b]
      rfl
theorem bindTs_len : ∀ (ts : List Ev.TG) (ps : List Ev.PV) (s s' : Ev.St), Ev.bindTs ts ps s = some s' → ps.length = ts.length
  | [], [], _, _, _ => rfl
  | [], _ :: _, _, _, h => by simp [Ev.bindTs] at h
  | _ :: _, [], _, _, h => by simp [Ev.bindTs] at h
  | t :: ts, p :: ps, s, s', h => by
    simp only [Ev.bindTs] at h
    cases e : Ev.bindT t p s with
    | none => rw [e] at h; cases h
    | some s1 =>
      rw [e] at h
      rw [List.length_cons, List.length_cons, bindTs_len ts ps s1 s' h]
mutual
theorem pg_ok (hc : X.calm = true) (hN : X.N.Nodup) : ∀ {e : Expr} {t : Ev.TG}, TGOk X e t → PG X e (gTX X.K t)
  | _, _, .nm (i := i) (x := x) (p := p) h1 h2 h3 => by
    refine ⟨fun pins s σ H v u Q I r h => ?_⟩
    obtain ⟨g, st, q, st', rr, rp, eb, k⟩ := h
    simp only [Ev.bindT] at eb
    split at eb <;> cases eb
    rename_i hl
    exact (pg_name (pos := p) hN h1 h2 h3).run pins s σ H v u Q I r (k _ (rr.putV hl rp) .set)
  | _, _, .tp (es := es) (k := k0) (p := p) (ts := ts) hs => by
    refine ⟨fun pins s σ H v u Q I r h => ?_⟩
    obtain ⟨g, st, q, st', rr, rp, eb, k⟩ := h
    cases q <;> simp only [Ev.bindT] at eb <;> first | cases eb | skip
    rename_i ps
    obtain ⟨a, vs, rfl, hq, rs⟩ := rp
    obtain ⟨l1, l2⟩ := hs.len
    refine (pg_tup (k := k0) (pos := p) (n := ts.length) hc (pgs_ok hc hN hs) l1 l2).run pins s σ H _ u Q I r ⟨a, vs, rfl, rr.sub.seqT hq, ?_, g, st, ps, st', rr, rs, eb, k⟩
    rw [← rs.length]
    exact bindTs_len ts ps st st' eb
theorem pgs_ok (hc : X.calm = true) (hN : X.N.Nodup) : ∀ {es : List Expr} {ts : List Ev.TG}, TGsOk X es ts → PGs X es (gTXs X.K ts)
  | _, _, .nil => by
    refine ⟨fun pins s σ H vs us Q I r h => ?_⟩
    obtain ⟨g, st, ps, st', rr, rp, eb, k⟩ := h
    cases ps with
    | cons p ps => simp [Ev.bindTs] at eb
    | nil =>
      simp only [Ev.bindTs] at eb
      cases eb
      cases vs with
      | cons v vs => exact rp.elim
      | nil => exact pgs_nil.run pins s σ H [] us Q I r ⟨rfl, k σ rr .refl⟩
  | _, _, .cons (e := e) (es := es) (t := t) (ts := ts) h hs => by
    refine ⟨fun pins s σ H vs us Q I r q => ?_⟩
    obtain ⟨g, st, ps, st', rr, rp, eb, k⟩ := q
    cases ps with
    | nil => simp [Ev.bindTs] at eb
    | cons p ps =>
      cases vs with
      | nil => exact rp.elim
      | cons v vs =>
        simp only [Ev.bindTs] at eb
        cases e1 : Ev.bindT t p st with
        | none => rw [e1] at eb; cases eb
        | some st1 =>
          rw [e1] at eb
          have hst : (assignEach (e :: es) X.env).map (·.2) = assign e X.env :: (assignEach es X.env).map (·.2) := by rw [h.notStar]; rfl
          exact (pgs_cons (pg_ok hc hN h) (pgs_ok hc hN hs) hst).run pins s σ H _ us Q I r ⟨v, vs, rfl, g, st, p, st1, rr, rp.1, e1, fun σ1 r1 o1 => ⟨g, st1, ps, st', r1, rp.2, eb, fun σ2 r2 o2 => k σ2 r2 (o1.trans o2)⟩⟩
end
end
end Sd
end
section
set_option Elab.async false
set_option linter.all false
set_option maxRecDepth 100000
set_option maxHeartbeats 4000000
set_option autoImplicit false
namespace Sd
open PySem PySem.Spec PyProof.Rows L2
/-! ### what is walked -/
/-- J gives xs, as long as what is shared stays (and, where it is lent, all that stood) -/
def ItOk (K : PySem.W.Frag) (F H : Hp) (lent : Bool) (xs : List Ev.PV) (J : It) : Prop :=
  ∀ F' H', Sub F F' → Sub F' H' → (lent = true → Sub H H') → J.stop xs.length H' ∧ ∀ i, i < xs.length → J.go i H' ∧ ∀ x H'', J.yld i H' x H'' → ∃ F'' p, Grow F' H' F'' H'' ∧ xs[i]? = some p ∧ Rep K F'' p x
def RI (K : PySem.W.Frag) (lent : Bool) : RRel (List Ev.PV) It := fun g _ H _ xs J => ItOk K g.F H lent xs J
def srcM (Γ : Ev.Cx) (b : Bool) (sk : Ev.SK) (src : List Ev.CE) (s : Ev.St) : Ev.Out (List Ev.PV) :=
  (if b then Ev.evalAs Γ src s else Ev.evalVs Γ src s).bind fun vs s' => Ev.Out.ofOpt (Ev.items sk vs) s'
/-- operands of a source: lent or shared -/
def RLs (K : PySem.W.Frag) (b : Bool) : RRel (List Ev.PV) (List V) := fun g _ H _ ps xs => BReps K g.F H ps xs ∧ (b = false → Reps K g.F ps xs)
section
variable {X : L2.Cx} {Γ : Ev.Cx} {tg : Expr}
theorem pa_src {es : List Expr} {cs : List Ev.CE} (b : Bool) (h : EOks X Γ es cs) : PA X es (TX X.K (fun s => if b then Ev.evalAs Γ cs s else Ev.evalVs Γ cs s) (Ev.calms cs) (RLs X.K b)) := by
  cases b with
  | true => exact PA_imp (pa_lent h) fun σ H Q q => TX_imp q fun g σ H st a x r z => ⟨g, r, .refl, z, fun h => nomatch h⟩
  | false => exact PA_imp (pa_vals h) fun σ H Q q => TX_imp q fun g σ H st a x r z => ⟨g, r, .refl, Reps.lent z, fun _ => z⟩
theorem PI_imp {e : Expr} {t t' : TI} (h : PI X tg e t) (k : ∀ σ H R, t' σ H R → t σ H R) : PI X tg e t' :=
  ⟨fun pins s σ H R I q => h.run pins s σ H R I (k σ H R q)⟩
theorem evalAs_len : ∀ (cs : List Ev.CE) (s : Ev.St) (vs : List Ev.PV) (s' : Ev.St), Ev.evalAs Γ cs s = .ok vs s' → vs.length = cs.length
  | [], s, vs, s', h => by
    simp only [Ev.evalAs] at h
    cases h; rfl
  | c :: cs, s, vs, s', h => by
    rw [evalAs_cons] at h
    cases e : evalA1 Γ c (Ev.calms cs) s with
    | ok v s1 =>
      rw [e] at h
      simp only [Ev.Out.bind] at h
      cases e2 : Ev.evalAs Γ cs s1 with
      | ok ws s3 =>
        rw [e2] at h
        cases h
        rw [List.length_cons, List.length_cons, evalAs_len cs s1 ws _ e2]
      | exc _ _ => rw [e2] at h; cases h
      | no => rw [e2] at h; cases h
    | exc _ _ => rw [e] at h; cases h
    | no => rw [e] at h; cases h
/-- a source by its operands -/
theorem pi_of {e : Expr} {cs : List Ev.CE} {sk : Ev.SK} {b : Bool} {t : TI} (h : PI X tg e t)
    (k : ∀ σ H R, (TX X.K (fun s => if b then Ev.evalAs Γ cs s else Ev.evalVs Γ cs s) (Ev.calms cs) (RLs X.K b) σ H fun vs H1 => ∃ g ps xs, Sub g H1 ∧ BReps X.K g H1 ps vs ∧ (b = false → Reps X.K g ps vs) ∧ ps.length = cs.length ∧ Ev.items sk ps = some xs ∧ ∀ J, ItOk X.K g H1 b xs J → R J H1) → t σ H R) :
    PI X tg e (TX X.K (srcM Γ b sk cs) (Ev.calms cs) (RI X.K b)) := by
  refine PI_imp h fun σ H R q => k σ H R ?_
  refine TX_split q fun g ps vs H1 g1 st1 r1 e1 b1 w ⟨st, em⟩ => ?_
  rw [wpO_opt] at w
  obtain ⟨xs, ex, w⟩ := w
  refine ⟨g1.F, ps, xs, r1.sub, b1.1, b1.2, ?_, ex, fun J hJ => w J H1 g1 r1 e1 hJ⟩
  cases b with
  | true => exact evalAs_len _ _ _ _ em
  | false => exact evalVs_len _ _ _ _ em
theorem TX_post {K : PySem.W.Frag} {α β : Type} {m : Ev.St → Ev.Out α} {nm : Bool} {RR : RRel α β} {σ : L2.St} {H : Hp} {Q Q' : β → Hp → Prop} (h : TX K m nm RR σ H Q) (k : ∀ x H', Q x H' → Q' x H') : TX K m nm RR σ H Q' := by
  obtain ⟨g, st, r, w⟩ := h
  exact ⟨g, st, r, wpO_mono w fun a st1 w x H1 g1 r1 e1 b1 => k x H1 (w x H1 g1 r1 e1 b1)⟩
theorem brep1 {K : PySem.W.Frag} {F H : Hp} {p : Ev.PV} {vs : List V} (h : BReps K F H [p] vs) : ∃ x, vs = [x] ∧ BRep K F H p x := by
  match vs, h with
  | [x], h => exact ⟨x, rfl, h.1⟩
theorem brep2 {K : PySem.W.Frag} {F H : Hp} {p q : Ev.PV} {vs : List V} (h : BReps K F H [p, q] vs) : ∃ x y, vs = [x, y] ∧ BRep K F H p x ∧ BRep K F H q y := by
  match vs, h with
  | [x, y], h => exact ⟨x, y, rfl, h.1, h.2.1⟩
theorem brep3 {K : PySem.W.Frag} {F H : Hp} {p q r : Ev.PV} {vs : List V} (h : BReps K F H [p, q, r] vs) : ∃ x y z, vs = [x, y, z] ∧ BRep K F H p x ∧ BRep K F H q y ∧ BRep K F H r z := by
  match vs, h with
  | [x, y, z], h => exact ⟨x, y, z, rfl, h.1, h.2.1, h.2.2.1⟩
/-- a list or tuple that is to be walked: its items stay -/
theorem stay_list {K : PySem.W.Frag} {F H : Hp} {b : Bool} {ps : List Ev.PV} {x : V} (s : Sub F H) (h : BRep K F H (.lst ps) x) (hb : b = false → Rep K F (.lst ps) x) :
    ∃ a vs, x = .ref a ∧ Reps K F ps vs ∧ SqL K H a vs ∧ ∀ F' H', Sub F F' → Sub F' H' → (b = true → Sub H H') → SqL K H' a vs := by
  cases b with
  | true =>
    obtain ⟨a, vs, e, h1, h2⟩ := h.lstL s
    exact ⟨a, vs, e, h2, h1, fun F' H' _ _ k => (k rfl).seqL h1⟩
  | false =>
    obtain ⟨a, vs, e, h1, h2⟩ := hb rfl
    exact ⟨a, vs, e, h2, s.seqL h1, fun F' H' k1 k2 _ => (k1.trans k2).seqL h1⟩
theorem stay_tup {K : PySem.W.Frag} {F H : Hp} {ps : List Ev.PV} {x : V} (s : Sub F H) (h : BRep K F H (.tup ps) x) :
    ∃ a vs, x = .ref a ∧ Reps K F ps vs ∧ SqT K H a vs ∧ ∀ F' H', Sub F F' → Sub F' H' → SqT K H' a vs := by
  obtain ⟨a, vs, e, h1, h2⟩ := h.tup
  exact ⟨a, vs, e, h2, s.seqT h1, fun F' H' k1 k2 => (k1.trans k2).seqT h1⟩
theorem it_list {K : PySem.W.Frag} {F H : Hp} {b : Bool} {ps : List Ev.PV} {a : Addr} {vs : List V} (h : Reps K F ps vs) (k : ∀ F' H', Sub F F' → Sub F' H' → (b = true → Sub H H') → SqL K H' a vs) : ItOk K F H b ps (Itl K a) := fun F' H' s1 s2 s3 => by
  have hl := h.length
  have q := k F' H' s1 s2 s3
  refine ⟨⟨vs, q, by omega⟩, fun i hi => ⟨⟨vs, vs[i]'(by omega), q, by simp [show i < vs.length by omega]⟩, fun x H'' y => ?_⟩⟩
  obtain ⟨e, y⟩ := y
  subst e
  obtain ⟨x', h1, h2⟩ := h.get (i := i) (p := ps[i]) (by simp [hi])
  have := y vs q
  rw [h1] at this; cases this
  exact ⟨F', ps[i], .refl s2, by simp [hi], h2.mono s1⟩
theorem it_tup {K : PySem.W.Frag} {F H : Hp} {b : Bool} {ps : List Ev.PV} {a : Addr} {vs : List V} (h : Reps K F ps vs) (k : ∀ F' H', Sub F F' → Sub F' H' → SqT K H' a vs) : ItOk K F H b ps (Itt K a) := fun F' H' s1 s2 s3 => by
  have hl := h.length
  have q := k F' H' s1 s2
  refine ⟨⟨vs, q, by omega⟩, fun i hi => ⟨⟨vs, vs[i]'(by omega), q, by simp [show i < vs.length by omega]⟩, fun x H'' y => ?_⟩⟩
  obtain ⟨e, y⟩ := y
  subst e
  obtain ⟨x', h1, h2⟩ := h.get (i := i) (p := ps[i]) (by simp [hi])
  have := y vs q
  rw [h1] at this; cases this
  exact ⟨F', ps[i], .refl s2, by simp [hi], h2.mono s1⟩
/-- the iterator of a sequence that is at hand -/
theorem iter_seq {l : Expr} {tl : TE} (hl : PE X l tl) : PI X tg l (fun σ H R => tl σ H fun x H1 => (∃ z, x = .str z ∧ R (Its z) H1) ∨ ∃ a, x = .ref a ∧ ((∃ xs, SqL X.K H1 a xs ∧ R (Itl X.K a) H1) ∨ ∃ xs, SqT X.K H1 a xs ∧ R (Itt X.K a) H1)) := by
  refine ⟨fun pins s σ H R I h => thn (hl.run pins s σ H _ I h) fun v s1 ⟨x, H1, I1, r1, q⟩ => ?_⟩
  rcases q with ⟨z, rfl, q⟩ | ⟨a, rfl, q⟩
  · obtain ⟨t, rfl⟩ := r1
    cases ha : z.cps.all (· < 128)
    · exact wpAny_pyIter_wide ha (pi_one (tk := s1.toks) I1 _ (turn_str _ z t _ (.inr rfl)) ⟨_, Heap.get?_push_size _ rfl, rfl, rfl⟩ q)
    · exact wpAny_pyIter_ascii ha (pi_one (tk := s1.toks) I1 _ (turn_str _ z t _ (.inl rfl)) ⟨_, Heap.get?_push_size _ rfl, rfl, rfl⟩ q)
  · cases r1
    rcases q with ⟨xs, hq, q⟩ | ⟨xs, hq, q⟩
    · obtain ⟨its, _, pl, _⟩ := I1.list hq
      exact wpAny_pyIter_list pl.isList (pi_one (tk := s1.toks) I1 _ (turn_list a _) ⟨_, Heap.get?_push_size _ rfl, rfl, rfl⟩ q)
    · obtain ⟨its, _, pl, _⟩ := I1.tuple hq
      exact wpAny_pyIter_tuple (show s1.heap.IsTuple a its.toArray from pl) (pi_one (tk := s1.toks) I1 _ (turn_tuple a _) ⟨_, Heap.get?_push_size _ rfl, rfl, rfl⟩ q)
theorem it_str {K : PySem.W.Frag} {F H : Hp} {b : Bool} {s : Ev.Txt} (ho : okT s) : ItOk K F H b (s.map fun c => .str [c]) (Its ⟨s.toArray⟩) := fun F' H' s1 s2 s3 => by
  refine ⟨by simp [Its], fun i hi => ⟨by simpa [Its] using hi, fun x H'' y => ?_⟩⟩
  obtain ⟨e, c, h1, h2⟩ := y
  subst e h2
  have h3 : s[i]? = some c := by simpa using h1
  refine ⟨F', .str [c], .refl s2, by simp [h3], rfl, ?_⟩
  have : c ∈ s := List.mem_of_getElem? h3
  simp only [List.all_cons, List.all_nil, Bool.and_true]
  exact List.all_eq_true.mp ho c this
def notText : Ev.PV → Bool
  | .str _ => false
  | _ => true
/-- an operand alone -/
theorem pe_src {e : Expr} {c : Ev.CE} (b : Bool) (h : EOk X Γ e c) : PE X e (TX X.K (fun s => if b then Ev.evalAs Γ [c] s else Ev.evalVs Γ [c] s) (Ev.calms [c]) (fun g σ H st ps x => RLs X.K b g σ H st ps [x])) := by
  cases b with
  | true =>
    refine PE_imp (h.lent true) fun σ H Q q => ?_
    have e1 : (fun s => if true = true then Ev.evalAs Γ [c] s else Ev.evalVs Γ [c] s) = fun s => (evalA1 Γ c true s).bind fun v s' => .ok [v] s' := by
      funext s
      rw [if_pos rfl, evalAs_cons]
      simp only [Ev.calms, Ev.evalAs, bind_ok]
    rw [e1] at q
    refine TX_split q fun g p x H1 g1 st1 r1 e1 b1 w _ => ?_
    exact w x H1 g1 r1 (e1.trans .refl (fun z => by simpa [Ev.calms] using z) fun _ => rfl) ⟨⟨b1.1, trivial⟩, fun z => nomatch z⟩
  | false =>
    refine PE_imp h.val fun σ H Q q => ?_
    have e1 : (fun s => if false = true then Ev.evalAs Γ [c] s else Ev.evalVs Γ [c] s) = fun s => (Ev.evalE Γ c s).bind fun v s' => .ok [v] s' := by
      funext s
      rw [if_neg (by decide)]
      simp only [Ev.evalVs, bind_ok]
    rw [e1] at q
    refine TX_split q fun g p x H1 g1 st1 r1 e1 b1 w _ => ?_
    exact w x H1 g1 r1 (e1.trans .refl (fun z => by simpa [Ev.calms] using z) fun _ => rfl) ⟨⟨.inl b1, trivial⟩, fun z => ⟨b1, trivial⟩⟩
/-- for x in e: a list, a tuple, a text -/
theorem pi_seq {e : Expr} {c : Ev.CE} (b : Bool) (h : EOk X Γ e c) : PI X tg e (TX X.K (srcM Γ b .seq [c]) (Ev.calms [c]) (RI X.K b)) := by
  refine PI_imp (iter_seq (tg := tg) (pe_src b h)) fun σ H R q => ?_
  refine TX_split q fun g ps x H1 g1 st1 r1 e1 b1 w _ => ?_
  rw [wpO_opt] at w
  obtain ⟨xs, ex, w⟩ := w
  obtain ⟨bl, bs⟩ := b1
  match ps, bl, bs, ex with
  | [p], bl, bs, ex =>
    have bp : BRep X.K g1.F H1 p x := bl.1
    have bp' : b = false → Rep X.K g1.F p x := fun z => (bs z).1
    cases p <;> simp only [Ev.items] at ex <;> first | cases ex | skip
    · rename_i s
      obtain ⟨e2, ho⟩ := bp.str
      exact .inl ⟨_, e2, w _ H1 g1 r1 e1 (it_str ho)⟩
    · obtain ⟨a, vs, e2, rs, hq, k⟩ := stay_tup r1.sub bp
      exact .inr ⟨a, e2, .inr ⟨vs, hq, w _ H1 g1 r1 e1 (it_tup rs k)⟩⟩
    · obtain ⟨a, vs, e2, rs, hq, k⟩ := stay_list r1.sub bp bp'
      exact .inr ⟨a, e2, .inl ⟨vs, hq, w _ H1 g1 r1 e1 (it_list rs k)⟩⟩
theorem bnd_ok {i : Int} (h : Ev.bnd i = true) : -(2 ^ 62) ≤ i ∧ i < 2 ^ 62 := by
  unfold Ev.bnd at h
  rw [Bool.and_eq_true] at h
  exact ⟨of_decide_eq_true h.1, of_decide_eq_true h.2⟩
theorem it_rng {K : PySem.W.Frag} {F H : Hp} {b : Bool} {lo hi : Int} : ItOk K F H b (Ev.rngL lo hi) (Itr lo (hi - lo).toNat) := fun F' H' s1 s2 s3 => by
  have hl : (Ev.rngL lo hi).length = (hi - lo).toNat := by simp [Ev.rngL]
  refine ⟨by rw [hl]; exact Nat.le_refl _, fun i h => ?_⟩
  rw [hl] at h
  refine ⟨h, fun x H'' y => ?_⟩
  obtain ⟨e, y⟩ := y
  subst e y
  exact ⟨F', .int (lo + i), .refl s2, by simp [Ev.rngL, h], rfl⟩
theorem pi_rng1 {a : Expr} {c : Ev.CE} {p pos : Pos} (b : Bool) (hg : Gl X "range") (hm : X.mg "range" = none) (h : EOk X Γ a c) (hn : notStar a = true) : PI X tg (.Call (.Name "range" p) [a] [] pos) (TX X.K (srcM Γ b .rng [c]) (Ev.calms [c]) (RI X.K b)) := by
  refine pi_of (pi_range1 hg hm (pa_src b (.cons h hn .nil)) (star_cons hn)) fun σ H R q => TX_post q fun vs H1 w => ?_
  obtain ⟨F, qs, xs, sb, bl, bs, hl, ex, k⟩ := w
  match qs, bl, hl, ex with
  | [p], bl, hl, ex =>
    obtain ⟨x, rfl, bx⟩ := brep1 bl
    cases p <;> simp [Ev.items] at ex
    obtain ⟨hb, rfl⟩ := ex
    obtain ⟨h1, h2⟩ := bnd_ok hb
    refine ⟨_, by rw [bx.int], h1, h2, k _ ?_⟩
    have := it_rng (K := X.K) (F := F) (H := H1) (b := b) (lo := 0) (hi := ‹Int›)
    rwa [Int.sub_zero] at this
theorem pi_rng2 {a a2 : Expr} {c c2 : Ev.CE} {p pos : Pos} (b : Bool) (hg : Gl X "range") (hm : X.mg "range" = none) (h : EOk X Γ a c) (hn : notStar a = true) (h2 : EOk X Γ a2 c2) (hn2 : notStar a2 = true) : PI X tg (.Call (.Name "range" p) [a, a2] [] pos) (TX X.K (srcM Γ b .rng [c, c2]) (Ev.calms [c, c2]) (RI X.K b)) := by
  refine pi_of (pi_range2 hg hm (pa_src b (.cons h hn (.cons h2 hn2 .nil))) (by rw [star_cons hn, star_cons hn2]; rfl) (star_cons hn2)) fun σ H R q => TX_post q fun vs H1 w => ?_
  obtain ⟨F, qs, xs, sb, bl, bs, hl, ex, k⟩ := w
  match qs, bl, hl, ex with
  | [p, q], bl, hl, ex =>
    obtain ⟨x, y, rfl, bx, bY⟩ := brep2 bl
    cases p <;> cases q <;> simp [Ev.items] at ex
    obtain ⟨⟨hb, hb2⟩, rfl⟩ := ex
    obtain ⟨u1, u2⟩ := bnd_ok hb
    obtain ⟨u3, u4⟩ := bnd_ok hb2
    exact ⟨_, _, by rw [bx.int, bY.int], ⟨u1, u2, u3, u4⟩, k _ it_rng⟩
/-- new pairs of two sequences' items -/
theorem it_pair {K : PySem.W.Frag} {F H : Hp} {b : Bool} {ps qs : List Ev.PV} {vs ws : List V} {J : It} (h1 : Reps K F ps vs) (h2 : Reps K F qs ws)
    (k : ∀ F' H', Sub F F' → Sub F' H' → (b = true → Sub H H') → J.stop (min vs.length ws.length) H' ∧ ∀ i, i < min vs.length ws.length → J.go i H' ∧ ∀ x H'', J.yld i H' x H'' → ∃ T x1 y1, x = .ref T ∧ H' T = none ∧ H'' = upd H' T (.tup [x1, y1]) ∧ vs[i]? = some x1 ∧ ws[i]? = some y1) :
    ItOk K F H b ((ps.zip qs).map fun p => .tup [p.1, p.2]) J := fun F' H' s1 s2 s3 => by
  have l1 := h1.length
  have l2 := h2.length
  have hl : ((ps.zip qs).map fun p => Ev.PV.tup [p.1, p.2]).length = min vs.length ws.length := by simp [l1, l2]
  obtain ⟨k1, k2⟩ := k F' H' s1 s2 s3
  rw [hl]
  refine ⟨k1, fun i hi => ⟨(k2 i hi).1, fun x H'' y => ?_⟩⟩
  obtain ⟨T, x1, y1, rfl, hT, rfl, e1, e2⟩ := (k2 i hi).2 x H'' y
  have i1 : i < ps.length := by omega
  have i2 : i < qs.length := by omega
  obtain ⟨x1', e1', m1⟩ := h1.get (i := i) (p := ps[i]) (by simp [i1])
  obtain ⟨y1', e2', m2⟩ := h2.get (i := i) (p := qs[i]) (by simp [i2])
  rw [e1] at e1'; cases e1'
  rw [e2] at e2'; cases e2'
  have w : Grow F' H' (upd F' T (.tup [x1, y1])) (upd H' T (.tup [x1, y1])) := .put s2 hT
  have hz : (ps.zip qs)[i]? = some (ps[i], qs[i]) := by
    rw [List.getElem?_zip_eq_some]
    exact ⟨by simp [i1], by simp [i2]⟩
  exact ⟨_, .tup [ps[i], qs[i]], w, by rw [List.getElem?_map, hz]; rfl, T, [x1, y1], rfl, SqT.of upd_same, m1.mono (s1.trans w.f), m2.mono (s1.trans w.f), trivial⟩
theorem pi_zip2 {es : List Expr} {kk : Nat} {tpos : Pos} {a a2 : Expr} {c c2 : Ev.CE} {p pos : Pos} (b : Bool) (hg : Gl X "zip") (hm : X.mg "zip" = none) (h : EOk X Γ a c) (hn : notStar a = true) (h2 : EOk X Γ a2 c2) (hn2 : notStar a2 = true) :
    PI X (.Tuple es kk tpos) (.Call (.Name "zip" p) [a, a2] [] pos) (TX X.K (srcM Γ b .zip [c, c2]) (Ev.calms [c, c2]) (RI X.K b)) := by
  have hst : EOks X Γ [a2] [c2] := .cons h2 hn2 .nil
  refine pi_of (RZ.pi_zipA (kk := kk) (tpos := tpos) (elts := es) hg hm (pa_src b (.cons h hn hst)) (star_cons hn) (back_any (hst.star _))) fun σ H R q => TX_post q fun vs H1 w => ?_
  obtain ⟨F, qs, xs, sb, bl, bs, hl, ex, k⟩ := w
  match qs, bl, bs, hl, ex with
  | [p, q], bl, bs, hl, ex =>
    obtain ⟨x, y, rfl, bx, bY⟩ := brep2 bl
    cases p <;> cases q <;> simp [Ev.items] at ex
    all_goals subst ex
    · obtain ⟨a1, v1, rfl, r1, q1, k1⟩ := stay_tup sb bx
      obtain ⟨a2', v2, rfl, r2, q2, k2⟩ := stay_tup sb bY
      refine ⟨a1, a2', v1, v2, rfl, .inr ⟨q1, q2, k _ (it_pair r1 r2 fun F' H' s1 s2 s3 => ?_)⟩⟩
      have u1 := k1 F' H' s1 s2
      have u2 := k2 F' H' s1 s2
      refine ⟨⟨v1, v2, u1, u2, by omega⟩, fun i hi => ⟨⟨v1, v2, v1[i]'(by omega), v2[i]'(by omega), u1, u2, by simp [show i < v1.length by omega], by simp [show i < v2.length by omega]⟩, fun x H'' yl => ?_⟩⟩
      obtain ⟨T, x1, y1, e1, e2, e3, e4, e5⟩ := yl
      exact ⟨T, x1, y1, e1, e2, e3, e4 _ u1, e5 _ u2⟩
    · obtain ⟨a1, v1, rfl, r1, q1, k1⟩ := stay_list sb bx fun z => (bs z).1
      obtain ⟨a2', v2, rfl, r2, q2, k2⟩ := stay_list sb bY fun z => (bs z).2.1
      refine ⟨a1, a2', v1, v2, rfl, .inl ⟨q1, q2, k _ (it_pair r1 r2 fun F' H' s1 s2 s3 => ?_)⟩⟩
      have u1 := k1 F' H' s1 s2 s3
      have u2 := k2 F' H' s1 s2 s3
      refine ⟨⟨v1, v2, u1, u2, by omega⟩, fun i hi => ⟨⟨v1, v2, v1[i]'(by omega), v2[i]'(by omega), u1, u2, by simp [show i < v1.length by omega], by simp [show i < v2.length by omega]⟩, fun x H'' yl => ?_⟩⟩
      obtain ⟨T, x1, y1, e1, e2, e3, e4, e5⟩ := yl
      exact ⟨T, x1, y1, e1, e2, e3, e4 _ u1, e5 _ u2⟩
end
end Sd
end
section
set_option Elab.async false
set_option linter.all false
set_option maxRecDepth 100000
set_option maxHeartbeats 4000000
set_option autoImplicit false
namespace Sd
open PySem PySem.Spec PyProof.Rows L2
/-! ### a thing put aside while other code runs -/
section
variable {K : PySem.W.Frag} {g : Gh} {σ : L2.St} {H P0 : Hp} {st : Ev.St} {D : Addr} {o o' : HO}
theorem R.aside (r : R K g σ H st) (n : H D = none) : R K { g with P := upd g.P D o } σ (upd H D o) st := by
  have w : Grow g.F H g.F (upd H D o) := .lay r.sub n
  have r1 := r.grow w
  refine ⟨r1.sub, r1.len, fun i v e => ?_, r1.dis, r1.old, r1.f0, r1.new, r1.ob, r.psub.upd_both, fun a u e => ?_⟩
  · obtain ⟨x, h1, h2⟩ := r1.slot i v e
    refine ⟨x, h1, ?_⟩
    cases v with
    | val p => exact h2
    | own p =>
      obtain ⟨a, u, e1, e2, e3, e4, e5, e6, e7⟩ := h2
      refine ⟨a, u, e1, e2, e3, e4, e5, e6, ?_⟩
      show upd g.P D o a = none
      rw [upd_ne]
      · exact e7
      · intro z
        subst z
        obtain ⟨y, h3, h4⟩ := r.slot i _ e
        obtain ⟨b, u', f1, f2, _⟩ := h4
        rw [h1] at h3; cases h3
        rw [e1] at f1; cases f1
        rw [n] at f2; cases f2
  · by_cases q : a = D
    · subst q
      exact ⟨r.sub.none n, r.old.none n⟩
    · have e' : upd g.P D o a = some u := e
      rw [upd_ne q] at e'
      exact r.pf a u e'
theorem R.redo (r : R K { g with P := upd P0 D o } σ H st) : R K { g with P := upd P0 D o' } σ (upd H D o') st := by
  have hD : g.F D = none ∧ g.H0 D = none := r.pf D o upd_same
  have nD : ∀ {A : Hp} {a : Addr} {u : HO}, A D = none → A a = some u → a ≠ D := fun h e z => by subst z; rw [h] at e; cases e
  refine ⟨fun a u e => ?_, r.len, fun i v e => ?_, r.dis, fun a u e => ?_, r.f0, r.new, r.ob, fun a u e => ?_, fun a u e => ?_⟩
  · rw [upd_ne (nD hD.1 e)]; exact r.sub a u e
  · obtain ⟨x, h1, h2⟩ := r.slot i v e
    refine ⟨x, h1, ?_⟩
    cases v with
    | val p => exact h2
    | own p =>
      obtain ⟨a, u, e1, e2, e3, e4, e5, e6, e7⟩ := h2
      have ha : a ≠ D := fun z => by
        subst z
        have q : upd P0 a o a = none := e7
        rw [upd_same] at q; cases q
      refine ⟨a, u, e1, by rw [upd_ne ha]; exact e2, e3, e4, e5, e6, ?_⟩
      have q : upd P0 D o a = none := e7
      show upd P0 D o' a = none
      rw [upd_ne ha] at q ⊢
      exact q
  · rw [upd_ne (nD hD.2 e)]; exact r.old a u e
  · have e' : upd P0 D o' a = some u := e
    by_cases q : a = D
    · subst q; rw [upd_same] at e' ⊢; exact e'
    · rw [upd_ne q] at e' ⊢
      refine r.psub a u ?_
      show upd P0 D o a = some u
      rw [upd_ne q]; exact e'
  · have e' : upd P0 D o' a = some u := e
    by_cases q : a = D
    · subst q; exact hD
    · rw [upd_ne q] at e'
      refine r.pf a u ?_
      show upd P0 D o a = some u
      rw [upd_ne q]; exact e'
theorem R.take (r : R K { g with P := upd P0 D o } σ H st) (h0 : P0 D = none) {p : Ev.PV} (h : ORep K g.F o p) : R K { g with P := P0 } σ H st ∧ Raw K { g with P := P0 } σ H st p (.ref D) := by
  have hD : g.F D = none ∧ g.H0 D = none := r.pf D o upd_same
  have sp : Sub P0 (upd P0 D o) := Sub.upd_new h0
  refine ⟨⟨r.sub, r.len, fun i v e => ?_, r.dis, r.old, r.f0, r.new, r.ob, sp.trans r.psub, fun a u e => r.pf a u (sp a u e)⟩, D, o, rfl, r.psub D o upd_same, h, hD.1, hD.2, h0, fun i w e z => ?_⟩
  · obtain ⟨x, h1, h2⟩ := r.slot i v e
    refine ⟨x, h1, ?_⟩
    cases v with
    | val p => exact h2
    | own p =>
      obtain ⟨a, u, e1, e2, e3, e4, e5, e6, e7⟩ := h2
      exact ⟨a, u, e1, e2, e3, e4, e5, e6, sp.none e7⟩
  · obtain ⟨x, h1, h2⟩ := r.slot i _ e
    obtain ⟨a, u, e1, e2, e3, e4, e5, e6, e7⟩ := h2
    rw [z] at h1; cases h1
    cases e1
    have q : upd P0 D o D = none := e7
    rw [upd_same] at q; cases q
end
/-! ### loops -/
section
variable {X : L2.Cx} {Γ : Ev.Cx} {pos : Pos}
def notSet : Expr → Bool
  | .Set _ _ _ => false
  | _ => true
theorem folded_not {e : Expr} {env : Env} (h : notSet e = true) (x : Value) : foldedSetIterable e env x = pure x := by
  cases e <;> first | rfl | exact absurd h Bool.false_ne_true
theorem sok_for {tg iter : Expr} {t : Ev.TG} {sk : Ev.SK} {src : List Ev.CE} {body : List Stmt} {cb : List Ev.CS} (hp : PassesOwn (model X.prog X.w) X.A X.env X.xe) (hc : X.calm = true) (hN : X.N.Nodup)
    (hi : PI X tg iter (TX X.K (srcM Γ false sk src) (Ev.calms src) (RI X.K false))) (hg : TGOk X tg t) (hb : SOks X Γ body cb) (hs : notSet iter = true) : SOk X Γ (.For tg iter body [] pos) (.forr t sk src cb) := by
  refine PS_imp (ps_for hp hc hi (pg_ok hc hN hg) hb (folded_not hs)) fun D σ H q => ?_
  obtain ⟨g, st, r, w⟩ := q
  have e0 : Ev.exec Γ (.forr t sk src cb) st = (srcM Γ false sk src st).bind fun xs s1 => Ev.forL (fun x s2 => (Ev.Out.ofOpt (Ev.bindT t x s2) s2).bind fun s3 _ => Ev.execs Γ cb s3) xs s1 := by
    show (Ev.evalVs Γ src st).bind _ = ((if false = true then Ev.evalAs Γ src st else Ev.evalVs Γ src st).bind _).bind _
    rw [if_neg (by decide), bind_assoc]
  rw [e0, wpO_bind] at w
  refine ⟨g, st, r, wpO_mono w fun xs st1 w J H1 g1 r1 e1 b1 => ?_⟩
  refine ⟨fun i m σ' H' => i ≤ xs.length ∧ m = xs.length - i ∧ ∃ g' st', R X.K g' σ' H' st' ∧ Ext g H g' H' false ∧ Sub g1.F g'.F ∧ wpO (Ev.forL (fun x s2 => (Ev.Out.ofOpt (Ev.bindT t x s2) s2).bind fun s3 _ => Ev.execs Γ cb s3) (xs.drop i) st') (fun fl st' =>
      match fl with
      | .nx => ∀ σ' H' g', R X.K g' σ' H' st' → Ext g H g' H' false → D.nx σ' H'
      | .brk => ∀ σ' H' g', R X.K g' σ' H' st' → Ext g H g' H' false → D.bk σ' H'
      | .ret r => ∀ x σ' H' g', R X.K g' σ' H' st' → Ext g H g' H' false → RF X.K g' σ' H' st' r x → D.rt x H'), ⟨_, Nat.zero_le _, rfl, g1, st1, r1, e1.trans .refl (fun z => nomatch z) (fun _ => rfl), .refl _, w⟩, ?_⟩
  rintro i m σ' H' ⟨hi', rfl, g', st', r', e', sf, w'⟩
  obtain ⟨stop, item⟩ := b1 g'.F H' sf r'.sub (fun z => nomatch z)
  by_cases hlt : i < xs.length
  · obtain ⟨go, yl⟩ := item i hlt
    refine .inr ⟨go, _, fun σ2 H2 n2 => ⟨xs.length - (i + 1), by omega, n2⟩, fun x H2 y => ?_⟩
    obtain ⟨F2, p, gr, ep, rp⟩ := yl x H2 y
    have hx : xs[i] = p := by
      rw [List.getElem?_eq_getElem hlt] at ep
      exact Option.some.inj ep
    rw [List.drop_eq_getElem_cons hlt, hx] at w'
    simp only [Ev.forL] at w'
    rw [wpO_bind, wpO_bind, wpO_opt] at w'
    obtain ⟨st2, eb, w'⟩ := w'
    have r2 := r'.grow gr
    refine ⟨_, st', p, st2, r2, rp, eb, fun σ3 r3 o3 => ⟨_, st2, r3, wpO_mono w' fun fl st3 w3 => ?_⟩⟩
    have e2 : Ext g H { g' with F := F2 } H2 false := e'.trans gr.ext (fun z => z) fun z => z
    cases fl with
    | nx => exact fun σ4 H4 g4 r4 e4 => ⟨by omega, rfl, g4, st3, r4, e2.trans e4 (fun z => z) (fun z => z), (sf.trans gr.f).trans e4.f, w3⟩
    | brk => exact fun σ4 H4 g4 r4 e4 => w3 σ4 H4 g4 r4 (e2.trans e4 (fun z => z) fun z => z)
    | ret v => exact fun x σ4 H4 g4 r4 e4 => w3 x σ4 H4 g4 r4 (e2.trans e4 (fun z => z) fun z => z)
  · have hi2 : i = xs.length := by omega
    subst hi2
    rw [List.drop_length] at w'
    exact .inl ⟨stop, w' σ' H' g' r' e'⟩
theorem sok_whl {t : Expr} {c : Ev.CE} {body : List Stmt} {cb : List Ev.CS} (hp : PassesOwn (model X.prog X.w) X.A X.env X.xe) (ht : TOk X Γ t c) (hb : SOks X Γ body cb) : SOk X Γ (.While t body [] pos) (.whl c cb) := by
  refine PS_imp (ps_while hp ht hb) fun D σ H ⟨g, st, r, w⟩ => ?_
  simp only [Ev.exec] at w
  refine ⟨fun m σ' H' => ∃ g' st', R X.K g' σ' H' st' ∧ Ext g H g' H' false ∧ wpO (Ev.whileN (fun s => (Ev.evalE Γ c s).bind fun v s' => Ev.truth v s') (fun s => Ev.execs Γ cb s) m st') (fun fl st' =>
      match fl with
      | .nx => ∀ σ' H' g', R X.K g' σ' H' st' → Ext g H g' H' false → D.nx σ' H'
      | .brk => ∀ σ' H' g', R X.K g' σ' H' st' → Ext g H g' H' false → D.bk σ' H'
      | .ret r => ∀ x σ' H' g', R X.K g' σ' H' st' → Ext g H g' H' false → RF X.K g' σ' H' st' r x → D.rt x H'), ⟨Γ.turns, g, st, r, .refl, w⟩, ?_⟩
  rintro m σ' H' ⟨g', st', r', e', w'⟩
  cases m with
  | zero => exact w'.elim
  | succ m =>
    simp only [Ev.whileN] at w'
    rw [wpO_bind] at w'
    refine ⟨g', st', r', wpO_mono w' fun b st2 w2 y H2 g2 r2 e2 b2 => ?_⟩
    obtain rfl : y = b := b2
    have e3 : Ext g H g2 H2 false := e'.trans e2 (fun z => z) fun z => nomatch z
    cases y with
    | false => exact w2 σ' H2 g2 r2 e3
    | true =>
      rw [if_pos rfl]
      simp only [if_true] at w2
      rw [wpO_bind] at w2
      refine ⟨_, fun σ4 H4 n4 => ⟨m, Nat.lt_succ_self m, n4⟩, g2, st2, r2, wpO_mono w2 fun fl st3 w3 => ?_⟩
      cases fl with
      | nx => exact fun σ4 H4 g4 r4 e4 => ⟨g4, st3, r4, e3.trans e4 (fun z => z) (fun z => z), w3⟩
      | brk => exact fun σ4 H4 g4 r4 e4 => w3 σ4 H4 g4 r4 (e3.trans e4 (fun z => z) fun z => z)
      | ret v => exact fun x σ4 H4 g4 r4 e4 => w3 x σ4 H4 g4 r4 (e3.trans e4 (fun z => z) fun z => z)
end
end Sd
end
section
set_option Elab.async false
set_option linter.all false
set_option maxRecDepth 100000
set_option maxHeartbeats 4000000
set_option autoImplicit false
namespace Sd
open PySem PySem.Spec PyProof.Rows L2
/-! ### a block's own slots -/
theorem foldr_set_len {α : Type} (f : Nat → α) : ∀ (vs : List Nat) (l : List α), (vs.foldr (fun i l => l.set i (f i)) l).length = l.length
  | [], l => rfl
  | v :: vs, l => by rw [List.foldr_cons, List.length_set, foldr_set_len f vs l]
theorem foldr_set_get {α : Type} (f : Nat → α) : ∀ (vs : List Nat) (l : List α) (i : Nat), (vs.foldr (fun i l => l.set i (f i)) l)[i]? = if i ∈ vs then (l[i]?).map (fun _ => f i) else l[i]?
  | [], l, i => by simp
  | v :: vs, l, i => by
    rw [List.foldr_cons]
    by_cases h : v = i
    · subst h
      rw [if_pos List.mem_cons_self]
      simp only [List.getElem?_set_self']
      rw [foldr_set_get f vs l v]
      split <;> cases l[v]? <;> rfl
    · rw [List.getElem?_set_ne h, foldr_set_get f vs l i]
      have hm : (i ∈ v :: vs) ↔ (i ∈ vs) := by
        simp only [List.mem_cons]
        exact ⟨fun q => q.elim (fun q => absurd q.symm h) id, .inr⟩
      by_cases hi : i ∈ vs
      · rw [if_pos hi, if_pos (hm.mpr hi)]
      · rw [if_neg hi, if_neg fun z => hi (hm.mp z)]
theorem get_wipe {st : Ev.St} {vs : List Nat} {i : Nat} : (st.wipe vs).get i = if i ∈ vs then none else st.get i := by
  unfold Ev.St.get Ev.St.wipe
  show (Option.join _) = _
  rw [foldr_set_get (fun _ => none) vs st.sl i]
  split
  · cases st.sl[i]? <;> rfl
  · rfl
theorem len_wipe {st : Ev.St} {vs : List Nat} : (st.wipe vs).sl.length = st.sl.length := foldr_set_len (fun _ => none) vs st.sl
theorem get_back {st s0 : Ev.St} {vs : List Nat} {i : Nat} (h : st.sl.length = s0.sl.length) : (st.back vs s0).get i = if i ∈ vs then Ev.valOf (s0.get i) else st.get i := by
  unfold Ev.St.back
  show (Option.join _) = _
  rw [foldr_set_get (fun i => Ev.valOf (s0.get i)) vs st.sl i]
  split
  · by_cases hl : i < st.sl.length
    · rw [List.getElem?_eq_getElem hl]; rfl
    · rw [List.getElem?_eq_none (by omega)]
      unfold Ev.St.get
      rw [List.getElem?_eq_none (by omega)]
      rfl
  · rfl
theorem len_back {st s0 : Ev.St} {vs : List Nat} : (st.back vs s0).sl.length = st.sl.length := foldr_set_len (fun i => Ev.valOf (s0.get i)) vs st.sl
section
variable {K : PySem.W.Frag} {g g1 : Gh} {σ : L2.St} {H H1 P0 : Hp} {st st1 : Ev.St} {D : Addr} {o o' : HO}
theorem R.wipe (r : R K g σ H st) (vs : List Nat) : R K g (L2.wipe σ vs) H (st.wipe vs) where
  sub := r.sub
  len := by rw [len_wipe, wipe_length]; exact r.len
  slot := fun i v e => by
    rw [get_wipe] at e
    split at e
    · cases e
    · rename_i hi
      rw [wipe_get, if_neg hi]
      exact r.slot i v e
  dis := fun i j v w x e1 e2 h1 h2 => by
    rw [get_wipe] at e1 e2
    split at e1
    · cases e1
    · rename_i hi
      split at e2
      · cases e2
      · rename_i hj
        rw [wipe_get, if_neg hi] at h1
        rw [wipe_get, if_neg hj] at h2
        exact r.dis i j v w x e1 e2 h1 h2
  old := r.old
  f0 := r.f0
  new := r.new
  ob := r.ob
  psub := r.psub
  pf := r.pf
theorem R.back {vs : List Nat} (r : R K g (L2.wipe σ vs) H st) (r1 : R K g1 σ H1 st1) (s : Sub g1.F g.F) : R K g σ H (st.back vs st1) := by
  have hl : st.sl.length = st1.sl.length := by rw [r.len, r1.len, wipe_length]
  have ow : ∀ {i v}, (st.back vs st1).get i = some (.own v) → i ∉ vs ∧ st.get i = some (.own v) := fun {i v} e => by
    rw [get_back hl] at e
    by_cases hi : i ∈ vs
    · rw [if_pos hi] at e
      unfold Ev.valOf at e
      split at e <;> cases e
    · rw [if_neg hi] at e
      exact ⟨hi, e⟩
  have sl : ∀ {i}, i ∉ vs → (L2.wipe σ vs)[i]? = σ[i]? := fun {i} hi => by rw [wipe_get, if_neg hi]
  refine ⟨r.sub, by rw [len_back, hl, r1.len], fun i v e => ?_, fun i j v w x e1 e2 h1 h2 => ?_, r.old, r.f0, r.new, r.ob, r.psub, r.pf⟩
  · rw [get_back hl] at e
    by_cases hi : i ∈ vs
    · rw [if_pos hi] at e
      unfold Ev.valOf at e
      split at e <;> cases e
      rename_i p ep
      obtain ⟨x, h1, h2⟩ := r1.slot i _ ep
      exact ⟨x, h1, Rep.mono s h2⟩
    · rw [if_neg hi] at e
      obtain ⟨x, h1, h2⟩ := r.slot i _ e
      rw [sl hi] at h1
      exact ⟨x, h1, h2⟩
  · obtain ⟨hi, e1⟩ := ow e1
    obtain ⟨hj, e2⟩ := ow e2
    exact r.dis i j v w x e1 e2 (by rw [sl hi]; exact h1) (by rw [sl hj]; exact h2)
theorem Raw.back {vs : List Nat} {p : Ev.PV} {x : V} (r : R K g (L2.wipe σ vs) H st) (r1 : R K g1 σ H1 st1) (h : Raw K g (L2.wipe σ vs) H st p x) : Raw K g σ H (st.back vs st1) p x := by
  have hl : st.sl.length = st1.sl.length := by rw [r.len, r1.len, wipe_length]
  obtain ⟨a, o, e1, e2, e3, e4, e5, e6, e7⟩ := h
  refine ⟨a, o, e1, e2, e3, e4, e5, e6, fun i w e z => ?_⟩
  rw [get_back hl] at e
  by_cases hi : i ∈ vs
  · rw [if_pos hi] at e
    unfold Ev.valOf at e
    split at e <;> cases e
  · rw [if_neg hi] at e
    exact e7 i w e (by rw [wipe_get, if_neg hi]; exact z)
theorem R.redo' (r : R K g σ H st) (hP : g.P = upd P0 D o) (o' : HO) : R K { g with P := upd P0 D o' } σ (upd H D o') st := by
  cases g
  cases hP
  exact R.redo r
theorem R.take' (r : R K g σ H st) (hP : g.P = upd P0 D o) (h0 : P0 D = none) {p : Ev.PV} (h : ORep K g.F o p) : R K { g with P := P0 } σ H st ∧ Raw K { g with P := P0 } σ H st p (.ref D) := by
  cases g
  cases hP
  exact R.take r h0 h
end
theorem wipe_idem {σ : L2.St} {vs : List Nat} : wipe (wipe σ vs) vs = wipe σ vs := by
  apply List.ext_getElem?
  intro i
  rw [wipe_get]
  split
  · rw [wipe_get, if_pos ‹_›]
    cases σ[i]? <;> rfl
  · rfl
theorem Sub.upd_out {A B : Hp} (s : Sub A B) {D : Addr} {o : HO} (h : A D = Option.none) : Sub A (upd B D o) := fun a u e => by
  rw [upd_ne (fun z => by subst z; rw [h] at e; cases e)]
  exact s a u e
/-! ### list comprehensions -/
def bodyL (Γ : Ev.Cx) (e : Ev.CE) (t : Ev.TG) (cs : List Ev.CE) (own : List Nat) (x : Ev.PV) (s2 : Ev.St) : Ev.Out (Option Ev.PV) :=
  (Ev.Out.ofOpt (Ev.bindT t x s2) s2).bind fun s3 _ => (Ev.tests Γ cs s3).bind fun k s4 => if k then (Ev.evalE Γ e s4).bind fun v s5 => .ok (some v) (s5.wipe own) else .ok none (s4.wipe own)
/-- a new container -/
def RBox (K : PySem.W.Frag) : RRel Ev.PV V := fun g σ H st p x => Ev.isBox p = true ∧ Raw K g σ H st p x
theorem wpO_ok {α : Type} {a : α} {s : Ev.St} {Q : α → Ev.St → Prop} : wpO (Ev.Out.ok a s) Q ↔ Q a s := Iff.rfl
theorem lc_read {K : PySem.W.Frag} {Γ : Ev.Cx} {b nm : Bool} {e : Ev.CE} {t : Ev.TG} {sk : Ev.SK} {src cs : List Ev.CE} {own : List Nat} {σ : L2.St} {H : Hp} {Q : VK}
    (hb : b = (Ev.calm e && Ev.calms cs)) (hv : ∀ i ∈ slotsT t, i ∈ own) (hn : nm = true → Ev.calms src = true ∧ Ev.calm e = true ∧ Ev.calms cs = true)
    (h : TX K (Ev.evalE Γ (.comp own e t sk src cs)) nm (RBox K) σ H Q) :
    L2.tLc (TX K (srcM Γ b sk src) (Ev.calms src) (RI K b)) (gTX K t) (TX K (Ev.tests Γ cs) (Ev.calms cs) RT) (TX K (Ev.evalE Γ e) (Ev.calm e) (RV K)) own σ H Q := by
  have e0 : Ev.evalE Γ (.comp own e t sk src cs) = fun s => (srcM Γ b sk src s).bind fun xs s1 => if xs.length ≤ Ev.sizeTop then (Ev.loopL (bodyL Γ e t cs own) xs (s1.wipe own)).bind fun ys s6 => .ok (.lst ys) (s6.back own s1) else .no := by
    funext s
    rw [Ev.evalE]
    unfold srcM
    rw [hb, bind_assoc]
    rfl
  rw [e0] at h
  refine TX_split h fun g xs J H1 g1 st1 r1 e1 b1 w _ => ?_
  intro D hD
  by_cases hl : xs.length ≤ Ev.sizeTop
  case neg => rw [if_neg hl] at w; exact w.elim
  rw [if_pos hl, wpO_bind] at w
  refine ⟨fun i m H' => m = xs.length - i ∧ i ≤ xs.length ∧ ∃ g' st' acc ps, R K g' (L2.wipe σ own) H' st' ∧ g'.P = upd g1.P D (.lst acc) ∧ g'.H0 = g1.H0 ∧ g'.F0 = g1.F0 ∧ Reps K g'.F ps acc ∧ ps.length ≤ i ∧ Sub g1.F g'.F ∧
      ((Ev.calm e && Ev.calms cs) = true → Sub H1 H') ∧ wpO (Ev.loopL (bodyL Γ e t cs own) (xs.drop i) st') (fun ys st6 => ∀ x H'' g'', R K g'' σ H'' (st6.back own st1) → Ext g H g'' H'' nm → RBox K g'' σ H'' (st6.back own st1) (.lst (ps ++ ys)) x → Q x H''),
    ⟨_, rfl, Nat.zero_le _, { g1 with P := upd g1.P D (.lst []) }, st1.wipe own, [], [], (r1.aside hD).wipe own, rfl, rfl, rfl, trivial, Nat.zero_le _, .refl _, fun _ => Sub.upd_new hD, w⟩, ?_⟩
  rintro i m H' ⟨rfl, hi, g', st', acc, ps, r', hP, hH0, hF0, rs, hpl, sf, sh, w'⟩
  obtain ⟨stop, item⟩ := b1 g'.F H' sf r'.sub (fun z => sh (by rw [← hb]; exact z))
  by_cases hlt : i < xs.length
  · obtain ⟨go, yl⟩ := item i hlt
    refine .inr ⟨go, _, fun H2 n2 => ⟨xs.length - (i + 1), by omega, n2⟩, fun x H2 y => ?_⟩
    obtain ⟨F2, p, gr, ep, rp⟩ := yl x H2 y
    have hx : xs[i] = p := by
      rw [List.getElem?_eq_getElem hlt] at ep
      exact Option.some.inj ep
    rw [List.drop_eq_getElem_cons hlt, hx] at w'
    simp only [Ev.loopL] at w'
    rw [wpO_bind] at w'
    unfold bodyL at w'
    rw [wpO_bind, wpO_opt] at w'
    obtain ⟨st2, eb, w'⟩ := w'
    rw [wpO_bind] at w'
    refine ⟨_, st', p, st2, r'.grow gr, rp, eb, fun σ3 r3 o3 => ⟨(o3.wipe hv).trans wipe_idem, _, st2, r3, wpO_mono w' fun k st3 w3 y3 H3 g3 r3' e3 b3 => ?_⟩⟩
    have hw3 : L2.wipe σ3 own = L2.wipe σ own := (o3.wipe hv).trans wipe_idem
    obtain rfl : y3 = k := b3
    have P3 : g3.P = upd g1.P D (.lst acc) := e3.p.trans hP
    cases y3 with
    | false =>
      refine ⟨rfl, by omega, g3, st3.wipe own, acc, ps, ?_, P3, e3.h0.trans hH0, e3.f0.trans hF0, (rs.mono gr.f).mono e3.f, by omega, (sf.trans gr.f).trans e3.f, fun z => ?_, ?_⟩
      · rw [← hw3]; exact r3'.wipe own
      · exact ((sh z).trans gr.h).trans (e3.h (by rw [Bool.and_eq_true] at z; exact z.2))
      · rw [if_neg (by decide), wpO_ok, wpO_bind] at w3
        exact w3
    | true =>
      rw [if_pos rfl, wpO_bind] at w3
      refine ⟨g3, st3, r3', wpO_mono w3 fun v st4 w4 z H4 g4 r4 e4 b4 => ?_⟩
      have P4 : g4.P = upd g1.P D (.lst acc) := e4.p.trans P3
      refine ⟨acc, r4.psub D _ (by rw [P4]; exact upd_same), ?_, rfl, by omega, { g4 with P := upd g1.P D (.lst (acc ++ [z])) }, st4.wipe own, acc ++ [z], ps ++ [v], ?_, rfl, e4.h0.trans (e3.h0.trans hH0), e4.f0.trans (e3.f0.trans hF0), (((rs.mono gr.f).mono e3.f).mono e4.f).append ⟨b4, trivial⟩, by rw [List.length_append]; simp; omega, ((sf.trans gr.f).trans e3.f).trans e4.f, fun z' => ?_, ?_⟩
      · have := rs.length
        have hs := sizeLine_le hl
        omega
      · rw [← hw3]; exact (r4.redo' P4 _).wipe own
      · rw [Bool.and_eq_true] at z'
        exact ((((sh (by rw [Bool.and_eq_true]; exact z')).trans gr.h).trans (e3.h z'.2)).trans (e4.h z'.1)).upd_out hD
      · rw [wpO_ok, wpO_bind] at w4
        refine wpO_mono w4 fun ys st6 w6 => ?_
        rw [List.append_assoc]
        exact w6
  · have hi2 : i = xs.length := by omega
    subst hi2
    rw [List.drop_length] at w'
    simp only [Ev.loopL] at w'
    obtain ⟨q1, q2⟩ := r'.take' hP (r1.psub.none hD) (p := .lst ps) (show ORep K g'.F (.lst acc) (.lst ps) from rs)
    refine .inl ⟨stop, ?_⟩
    have q3 : R K { g' with P := g1.P } σ H' (st'.back own st1) := q1.back r1 sf
    have w2 := w' (.ref D) H' { g' with P := g1.P } q3
    rw [List.append_nil] at w2
    refine w2 ⟨e1.f.trans sf, hH0.trans e1.h0, hF0.trans e1.f0, e1.p, fun z => ?_⟩ ⟨rfl, q2.back q1 r1⟩
    obtain ⟨n1, n2, n3⟩ := hn z
    exact (e1.h n1).trans (sh (by rw [n2, n3]; rfl))
theorem wpO_ex {α : Type} {o : Ev.Out α} {Q : α → Ev.St → Prop} (h : wpO o Q) : ∃ a s, Q a s := by
  cases o with
  | ok a s => exact ⟨a, s, h⟩
  | exc e s => exact h.elim
  | no => exact h.elim
theorem wipe_sub {σ : L2.St} {vs ws : List Nat} (h : ∀ i ∈ vs, i ∈ ws) : wipe (wipe σ vs) ws = wipe σ ws := by
  apply List.ext_getElem?
  intro i
  rw [wipe_get, wipe_get, wipe_get]
  by_cases hi : i ∈ ws
  · rw [if_pos hi, if_pos hi]
    split
    · cases σ[i]? <;> rfl
    · rfl
  · rw [if_neg hi, if_neg hi, if_neg fun z => hi (h i z)]
/-- two clauses -/
def body2 (Γ : Ev.Cx) (e : Ev.CE) (t : Ev.TG) (own2 : List Nat) (y : Ev.PV) (s6 : Ev.St) : Ev.Out (Option Ev.PV) :=
  (Ev.Out.ofOpt (Ev.bindT t y s6) s6).bind fun s7 _ => (Ev.evalE Γ e s7).bind fun v s8 => .ok (some v) (s8.wipe own2)
def bodyS (Γ : Ev.Cx) (e : Ev.CE) (t t2 : Ev.TG) (sk2 : Ev.SK) (src2 : List Ev.CE) (own own2 : List Nat) (x : Ev.PV) (s2 : Ev.St) : Ev.Out (List Ev.PV) :=
  (Ev.Out.ofOpt (Ev.bindT t x s2) s2).bind fun s3 _ => (srcM Γ false sk2 src2 s3).bind fun zs s5 => (Ev.loopL (body2 Γ e t2 own2) zs (s5.wipe own2)).bind fun us s9 => .ok us (s9.wipe own)
theorem yes_read {σ : L2.St} {H : Hp} {A B : Hp → Prop} (h : A H) : tYes σ H (fun b H3 => if b = true then A H3 else B H3) := by
  show (if true = true then A H else B H)
  rw [if_pos rfl]; exact h
theorem lc2_read {K : PySem.W.Frag} {Γ : Ev.Cx} {b nm : Bool} {e : Ev.CE} {t t2 : Ev.TG} {sk sk2 : Ev.SK} {src src2 : List Ev.CE} {own own2 : List Nat} {σ : L2.St} {H : Hp} {Q : VK}
    (hb : b = (Ev.calm e && Ev.calms src2)) (hv : ∀ i ∈ slotsT t, i ∈ own) (hv2 : ∀ i ∈ slotsT t2, i ∈ own2) (hvv : ∀ i ∈ own2, i ∈ own) (hn : nm = true → Ev.calms src = true ∧ Ev.calm e = true ∧ Ev.calms src2 = true)
    (h : TX K (Ev.evalE Γ (.comp2 own own2 e t sk src t2 sk2 src2)) nm (RBox K) σ H Q) :
    L2.tLc2 (TX K (srcM Γ b sk src) (Ev.calms src) (RI K b)) (gTX K t) tYes (TX K (srcM Γ false sk2 src2) (Ev.calms src2) (RI K false)) (gTX K t2) tYes (TX K (Ev.evalE Γ e) (Ev.calm e) (RV K)) own own2 σ H Q := by
  have e0 : Ev.evalE Γ (.comp2 own own2 e t sk src t2 sk2 src2) = fun s => (srcM Γ b sk src s).bind fun xs s1 => (Ev.loopS (bodyS Γ e t t2 sk2 src2 own own2) xs (s1.wipe own)).bind fun ys s6 => if ys.length ≤ Ev.sizeTop then .ok (.lst ys) (s6.back own s1) else .no := by
    funext s
    rw [Ev.evalE]
    unfold bodyS srcM
    rw [hb, bind_assoc]
    simp only [bind_assoc]
    rfl
  rw [e0] at h
  refine TX_split h fun g xs J H1 g1 st1 r1 e1 b1 w _ => ?_
  intro D hD
  rw [wpO_bind] at w
  have final : ∀ {ps : List Ev.PV} {st6 : Ev.St}, wpO (if ps.length ≤ Ev.sizeTop then Ev.Out.ok (Ev.PV.lst ps) (st6.back own st1) else .no) (fun a st' => ∀ x H' g', R K g' σ H' st' → Ext g H g' H' nm → RBox K g' σ H' st' a x → Q x H') →
      ps.length ≤ Ev.sizeTop ∧ ∀ x H' g', R K g' σ H' (st6.back own st1) → Ext g H g' H' nm → RBox K g' σ H' (st6.back own st1) (.lst ps) x → Q x H' := fun {ps st6} w => by
    by_cases hl : ps.length ≤ Ev.sizeTop
    · rw [if_pos hl] at w; exact ⟨hl, w⟩
    · rw [if_neg hl] at w; exact w.elim
  refine ⟨fun i m H' => m = xs.length - i ∧ i ≤ xs.length ∧ ∃ g' st' acc ps, R K g' (L2.wipe σ own) H' st' ∧ g'.P = upd g1.P D (.lst acc) ∧ g'.H0 = g1.H0 ∧ g'.F0 = g1.F0 ∧ Reps K g'.F ps acc ∧ Sub g1.F g'.F ∧
      ((Ev.calm e && Ev.calms src2) = true → Sub H1 H') ∧ wpO (Ev.loopS (bodyS Γ e t t2 sk2 src2 own own2) (xs.drop i) st') (fun ys st6 => wpO (if (ps ++ ys).length ≤ Ev.sizeTop then Ev.Out.ok (Ev.PV.lst (ps ++ ys)) (st6.back own st1) else .no) (fun a st' => ∀ x H' g', R K g' σ H' st' → Ext g H g' H' nm → RBox K g' σ H' st' a x → Q x H')),
    ⟨_, rfl, Nat.zero_le _, { g1 with P := upd g1.P D (.lst []) }, st1.wipe own, [], [], (r1.aside hD).wipe own, rfl, rfl, rfl, trivial, .refl _, fun _ => Sub.upd_new hD, w⟩, ?_⟩
  rintro i m H' ⟨rfl, hi, g', st', acc, ps, r', hP, hH0, hF0, rs, sf, sh, w'⟩
  obtain ⟨stop, item⟩ := b1 g'.F H' sf r'.sub (fun z => sh (by rw [← hb]; exact z))
  by_cases hlt : i < xs.length
  · obtain ⟨go, yl⟩ := item i hlt
    refine .inr ⟨go, _, fun H2 n2 => ⟨xs.length - (i + 1), by omega, n2⟩, fun x H2 y => ?_⟩
    obtain ⟨F2, p, gr, ep, rp⟩ := yl x H2 y
    have hx : xs[i] = p := by
      rw [List.getElem?_eq_getElem hlt] at ep
      exact Option.some.inj ep
    rw [List.drop_eq_getElem_cons hlt, hx] at w'
    simp only [Ev.loopS] at w'
    rw [wpO_bind] at w'
    unfold bodyS at w'
    rw [wpO_bind, wpO_opt] at w'
    obtain ⟨st2, eb, w'⟩ := w'
    rw [wpO_bind] at w'
    refine ⟨_, st', p, st2, r'.grow gr, rp, eb, fun σ3 r3 o3 => ?_⟩
    have hw3 : L2.wipe σ3 own = L2.wipe σ own := (o3.wipe hv).trans wipe_idem
    refine ⟨hw3, ?_⟩
    refine yes_read ?_
    refine ⟨_, st2, r3, wpO_mono w' fun zs st3 w3 J1 H3 g3 r3' e3 b3 => ?_⟩
    have P3 : g3.P = upd g1.P D (.lst acc) := e3.p.trans hP
    rw [wpO_bind] at w3
    refine ⟨fun j k H'' => k = zs.length - j ∧ j ≤ zs.length ∧ ∃ g'' st'' acc' us, R K g'' (L2.wipe σ3 own2) H'' st'' ∧ g''.P = upd g1.P D (.lst acc') ∧ g''.H0 = g1.H0 ∧ g''.F0 = g1.F0 ∧ Reps K g''.F (ps ++ us) acc' ∧ Sub g3.F g''.F ∧
      ((Ev.calm e && Ev.calms src2) = true → Sub H1 H'') ∧ wpO (Ev.loopL (body2 Γ e t2 own2) (zs.drop j) st'') (fun us' s9 => wpO (Ev.loopS (bodyS Γ e t t2 sk2 src2 own own2) (xs.drop (i + 1)) (s9.wipe own)) (fun ys st6 => wpO (if (ps ++ ((us ++ us') ++ ys)).length ≤ Ev.sizeTop then Ev.Out.ok (Ev.PV.lst (ps ++ ((us ++ us') ++ ys))) (st6.back own st1) else .no) (fun a st' => ∀ x H' g', R K g' σ H' st' → Ext g H g' H' nm → RBox K g' σ H' st' a x → Q x H'))),
      ⟨_, rfl, Nat.zero_le _, g3, st3.wipe own2, acc, [], r3'.wipe own2, P3, e3.h0.trans hH0, e3.f0.trans hF0, by rw [List.append_nil]; exact (rs.mono gr.f).mono e3.f, .refl _, fun z => ((sh z).trans gr.h).trans (e3.h (by rw [Bool.and_eq_true] at z; exact z.2)), ?_⟩, ?_⟩
    · refine wpO_mono w3 fun us s9 w9 => ?_
      rw [wpO_ok, wpO_bind] at w9
      exact w9
    rintro j k H'' ⟨rfl, hj, g'', st'', acc', us, r'', hP', hH0', hF0', rs', sf', sh2, w''⟩
    obtain ⟨stop1, item1⟩ := b3 g''.F H'' sf' r''.sub (fun z => nomatch z)
    by_cases hlt1 : j < zs.length
    · obtain ⟨go1, yl1⟩ := item1 j hlt1
      refine .inr ⟨go1, _, fun H2 n2 => ⟨zs.length - (j + 1), by omega, n2⟩, fun x1 H5 y1 => ?_⟩
      obtain ⟨F5, p1, gr1, ep1, rp1⟩ := yl1 x1 H5 y1
      have hx1 : zs[j] = p1 := by
        rw [List.getElem?_eq_getElem hlt1] at ep1
        exact Option.some.inj ep1
      rw [List.drop_eq_getElem_cons hlt1, hx1] at w''
      simp only [Ev.loopL] at w''
      rw [wpO_bind] at w''
      unfold body2 at w''
      rw [wpO_bind, wpO_opt] at w''
      obtain ⟨st5, eb1, w''⟩ := w''
      rw [wpO_bind] at w''
      refine ⟨_, st'', p1, st5, r''.grow gr1, rp1, eb1, fun σ4 r4 o4 => ?_⟩
      have hw4 : L2.wipe σ4 own2 = L2.wipe σ3 own2 := (o4.wipe hv2).trans wipe_idem
      refine ⟨hw4, ?_⟩
      refine yes_read ?_
      refine ⟨_, st5, r4, wpO_mono w'' fun v st6 w6 z H6 g6 r6 e6 b6 => ?_⟩
      have P6 : g6.P = upd g1.P D (.lst acc') := e6.p.trans hP'
      have w7 := wpO_bind.mp (wpO_ok.mp w6)
      have hz : acc'.length < sizeLine := by
        obtain ⟨us', s9, q⟩ := wpO_ex w7
        obtain ⟨ys, s10, q⟩ := wpO_ex (wpO_ok.mp q)
        have h1 := sizeLine_le (final q).1
        have h2 := rs'.length
        simp only [Option.toList, List.length_append, List.length_cons, List.length_nil] at h1 h2
        omega
      refine ⟨acc', r6.psub D _ (by rw [P6]; exact upd_same), hz, rfl, by omega, { g6 with P := upd g1.P D (.lst (acc' ++ [z])) }, st6.wipe own2, acc' ++ [z], us ++ [v], ?_, rfl, e6.h0.trans hH0', e6.f0.trans hF0', ?_, (sf'.trans gr1.f).trans e6.f, fun z' => ?_, ?_⟩
      · rw [← hw4]; exact (r6.redo' P6 _).wipe own2
      · rw [← List.append_assoc]
        exact ((rs'.mono gr1.f).mono e6.f).append ⟨b6, trivial⟩
      · have z2 := z'
        rw [Bool.and_eq_true] at z2
        exact (((sh2 z').trans gr1.h).trans (e6.h z2.1)).upd_out hD
      · refine wpO_mono w7 fun us' s9 w9 => ?_
        rw [List.append_assoc us [v] us']
        exact w9
    · have hj2 : j = zs.length := by omega
      subst hj2
      rw [List.drop_length] at w''
      simp only [Ev.loopL] at w''
      have w9 := wpO_ok.mp w''
      refine .inl ⟨stop1, rfl, by omega, g'', st''.wipe own, acc', ps ++ us, ?_, hP', hH0', hF0', rs', ((sf.trans gr.f).trans e3.f).trans sf', sh2, ?_⟩
      · rw [← hw3, ← wipe_sub hvv]; exact r''.wipe own
      · refine wpO_mono w9 fun ys st6 w6 => ?_
        rw [List.append_nil, ← List.append_assoc] at w6
        exact w6
  · have hi2 : i = xs.length := by omega
    subst hi2
    rw [List.drop_length] at w'
    simp only [Ev.loopS] at w'
    obtain ⟨q1, q2⟩ := r'.take' hP (r1.psub.none hD) (p := .lst ps) (show ORep K g'.F (.lst acc) (.lst ps) from rs)
    refine .inl ⟨stop, ?_⟩
    have q3 : R K { g' with P := g1.P } σ H' (st'.back own st1) := q1.back r1 sf
    have w2 := (final (wpO_ok.mp w')).2 (.ref D) H' { g' with P := g1.P } q3
    rw [List.append_nil] at w2
    refine w2 ⟨e1.f.trans sf, hH0.trans e1.h0, hF0.trans e1.f0, e1.p, fun z => ?_⟩ ⟨rfl, q2.back q1 r1⟩
    obtain ⟨n1, n2, n3⟩ := hn z
    exact (e1.h n1).trans (sh (by rw [n2, n3]; rfl))
end Sd
end
section
set_option Elab.async false
set_option linter.all false
set_option maxRecDepth 100000
set_option maxHeartbeats 4000000
set_option autoImplicit false
namespace Sd
open PySem PySem.Spec PyProof.Rows L2
/-! ### keys -/
theorem key_of_rep {K : PySem.W.Frag} {F : Hp} {p : Ev.PV} {y : V} (h : Ev.keyOk p = true) (r : Rep K F p y) : ∃ k : Key, y = kV k ∧ keyPV k = p ∧ okK k := by
  cases p <;> first | exact absurd h Bool.false_ne_true | skip
  · rename_i i
    exact ⟨.inl i, r, rfl, trivial⟩
  · rename_i s
    exact ⟨.inr ⟨s.toArray⟩, r.1, by simp [keyPV], by simpa [okK] using r.2⟩
theorem eqv_key (a b : Key) : Ev.eqv (keyPV a) (keyPV b) = decide (a = b) := by
  cases a with
  | inl i => cases b with
    | inl j =>
      show (i == j) = _
      rw [Bool.eq_iff_iff]; simp
    | inr y => rfl
  | inr x => cases b with
    | inl j => rfl
    | inr y =>
      show (x.cps.toList == y.cps.toList) = _
      rw [Bool.eq_iff_iff]
      cases x; cases y
      simp
theorem hasK_any (k : Key) : ∀ (kvs : List (Key × V)), Ev.hasK (kvs.map fun p => keyPV p.1) (keyPV k) = kvs.any fun kv => decide (kv.1 = k)
  | [] => rfl
  | p :: r => by
    show (Ev.eqv (keyPV p.1) (keyPV k) || Ev.hasK (r.map fun p => keyPV p.1) (keyPV k)) = _
    rw [hasK_any k r, eqv_key]; rfl
theorem look_val {K : PySem.W.Frag} {F : Hp} (k : Key) : ∀ {kvs : List (Key × V)} {ps : List Ev.PV}, Reps K F ps (kvs.map (·.2)) →
    (∀ p, Ev.lookK (kvs.map fun p => keyPV p.1) ps (keyPV k) = some p → ∃ v, valV kvs k = some v ∧ Rep K F p v) ∧ (Ev.lookK (kvs.map fun p => keyPV p.1) ps (keyPV k) = none → valV kvs k = none)
  | [], [], _ => And.intro (fun p e => nomatch (show (none : Option Ev.PV) = some p from e)) (fun _ => rfl)
  | [], _ :: _, h => h.elim
  | q :: r, [], h => h.elim
  | q :: r, p :: ps, h => by
    have ih := look_val k (kvs := r) (ps := ps) h.2
    have e0 : Ev.lookK ((q :: r).map fun p => keyPV p.1) (p :: ps) (keyPV k) = if q.1 = k then some p else Ev.lookK (r.map fun p => keyPV p.1) ps (keyPV k) := by
      show (if Ev.eqv (keyPV q.1) (keyPV k) = true then some p else Ev.lookK (r.map fun p => keyPV p.1) ps (keyPV k)) = _
      rw [eqv_key]
      by_cases e : q.1 = k
      · rw [if_pos (decide_eq_true e), if_pos e]
      · rw [if_neg (by simpa using e), if_neg e]
    rw [e0]
    by_cases e : q.1 = k
    · rw [if_pos e, valV_pos e]
      have h1 : Rep K F p q.2 := h.1
      refine ⟨fun p' e' => ?_, fun e' => nomatch e'⟩
      cases e'
      exact ⟨_, rfl, h1⟩
    · rw [if_neg e, valV_neg e]
      exact ih
theorem putV_map {K : PySem.W.Frag} {F : Hp} {v : Ev.PV} {z : V} (k : Key) (hv : Rep K F v z) : ∀ {kvs : List (Key × V)} {ps : List Ev.PV}, Reps K F ps (kvs.map (·.2)) →
    Reps K F (Ev.putV (kvs.map fun p => keyPV p.1) ps (keyPV k) v) ((kvs.map fun kv => if kv.1 = k then (kv.1, z) else kv).map (·.2))
  | [], [], _ => trivial
  | [], _ :: _, h => h.elim
  | q :: r, [], h => h.elim
  | q :: r, p :: ps, h => by
    refine ⟨?_, putV_map k hv h.2⟩
    rw [eqv_key]
    by_cases e : q.1 = k
    · rw [if_pos (decide_eq_true e)]
      show Rep K F v (if q.1 = k then (q.1, z) else q).2
      rw [if_pos e]; exact hv
    · rw [if_neg (by simpa using e)]
      show Rep K F p (if q.1 = k then (q.1, z) else q).2
      rw [if_neg e]; exact h.1
theorem orep_put {K : PySem.W.Frag} {F : Hp} {kvs : List (Key × V)} {ks ps : List Ev.PV} {v : Ev.PV} {z : V} (k : Key) (hk : okK k) (h : ORep K F (.dK kvs) (.dic ks ps)) (hv : Rep K F v z) :
    ORep K F (.dK (L2.putK kvs k z)) (.dic (Ev.putK ks ps (keyPV k) v).1 (Ev.putK ks ps (keyPV k) v).2) := by
  obtain ⟨⟨rfl, hks⟩, h⟩ := h
  unfold Ev.putK L2.putK
  rw [hasK_any]
  by_cases e : (kvs.any fun kv => decide (kv.1 = k)) = true
  · rw [if_pos e, if_pos e]
    refine ⟨⟨?_, fun p hp => ?_⟩, putV_map k hv h⟩
    · rw [List.map_map]
      apply List.map_congr_left
      intro p hp
      show keyPV p.1 = keyPV (if p.1 = k then (p.1, z) else p).1
      split <;> rfl
    · obtain ⟨q, hq, rfl⟩ := List.mem_map.mp hp
      have : (if q.1 = k then (q.1, z) else q).1 = q.1 := by split <;> rfl
      rw [this]; exact hks q hq
  · rw [if_neg e, if_neg e]
    refine ⟨⟨by rw [List.map_append]; rfl, fun p hp => ?_⟩, ?_⟩
    · rcases List.mem_append.mp hp with hp | hp
      · exact hks p hp
      · rw [List.mem_singleton.mp hp]; exact hk
    rw [List.map_append]
    exact h.append ⟨hv, trivial⟩
/-! ### dict comprehensions -/
def bodyD (Γ : Ev.Cx) (k v : Ev.CE) (t : Ev.TG) (cs : List Ev.CE) (own : List Nat) (x : Ev.PV) (s2 : Ev.St) : Ev.Out (Option (Ev.PV × Ev.PV)) :=
  (Ev.Out.ofOpt (Ev.bindT t x s2) s2).bind fun s3 _ => (Ev.tests Γ cs s3).bind fun b s4 => if b then (Ev.evalE Γ k s4).bind fun kv s5 => (Ev.evalE Γ v s5).bind fun vv s6 => .ok (some (kv, vv)) (s6.wipe own) else .ok none (s4.wipe own)
theorem dc_read {K : PySem.W.Frag} {Γ : Ev.Cx} {b nm : Bool} {k v : Ev.CE} {t : Ev.TG} {sk : Ev.SK} {src cs : List Ev.CE} {own : List Nat} {σ : L2.St} {H : Hp} {Q : VK}
    (hb : b = (Ev.calm k && Ev.calm v && Ev.calms cs)) (hv : ∀ i ∈ slotsT t, i ∈ own) (hn : nm = true → Ev.calms src = true ∧ Ev.calm k = true ∧ Ev.calm v = true ∧ Ev.calms cs = true)
    (h : TX K (Ev.evalE Γ (.dcomp own k v t sk src cs)) nm (RBox K) σ H Q) :
    L2.tDc (TX K (srcM Γ b sk src) (Ev.calms src) (RI K b)) (gTX K t) (TX K (Ev.tests Γ cs) (Ev.calms cs) RT) (TX K (Ev.evalE Γ k) (Ev.calm k) (RV K)) (TX K (Ev.evalE Γ v) (Ev.calm v) (RV K)) own σ H Q := by
  have e0 : Ev.evalE Γ (.dcomp own k v t sk src cs) = fun s => (srcM Γ b sk src s).bind fun xs s1 => if xs.length ≤ Ev.sizeTop then (Ev.loopD (bodyD Γ k v t cs own) xs [] [] (s1.wipe own)).bind fun ys s6 => .ok (.dic ys.1 ys.2) (s6.back own s1) else .no := by
    funext s
    rw [Ev.evalE]
    unfold srcM
    rw [hb, bind_assoc]
    rfl
  rw [e0] at h
  refine TX_split h fun g xs J H1 g1 st1 r1 e1 b1 w _ => ?_
  intro D hD
  by_cases hl : xs.length ≤ Ev.sizeTop
  case neg => rw [if_neg hl] at w; exact w.elim
  rw [if_pos hl, wpO_bind] at w
  refine ⟨fun i m H' => m = xs.length - i ∧ i ≤ xs.length ∧ ∃ g' st' kvs ks ps, R K g' (L2.wipe σ own) H' st' ∧ g'.P = upd g1.P D (.dK kvs) ∧ g'.H0 = g1.H0 ∧ g'.F0 = g1.F0 ∧ ORep K g'.F (.dK kvs) (.dic ks ps) ∧ kvs.length ≤ i ∧ Sub g1.F g'.F ∧
      (b = true → Sub H1 H') ∧ wpO (Ev.loopD (bodyD Γ k v t cs own) (xs.drop i) ks ps st') (fun ys st6 => ∀ x H'' g'', R K g'' σ H'' (st6.back own st1) → Ext g H g'' H'' nm → RBox K g'' σ H'' (st6.back own st1) (.dic ys.1 ys.2) x → Q x H''),
    ⟨_, rfl, Nat.zero_le _, { g1 with P := upd g1.P D (.dK []) }, st1.wipe own, [], [], [], (r1.aside hD).wipe own, rfl, rfl, rfl, ⟨⟨rfl, fun _ h => nomatch h⟩, trivial⟩, Nat.zero_le _, .refl _, fun _ => Sub.upd_new hD, w⟩, ?_⟩
  rintro i m H' ⟨rfl, hi, g', st', kvs, ks, ps, r', hP, hH0, hF0, rs, hpl, sf, sh, w'⟩
  obtain ⟨stop, item⟩ := b1 g'.F H' sf r'.sub sh
  have hbb : b = true → Ev.calm k = true ∧ Ev.calm v = true ∧ Ev.calms cs = true := fun z => by
    rw [hb, Bool.and_eq_true, Bool.and_eq_true] at z
    exact ⟨z.1.1, z.1.2, z.2⟩
  by_cases hlt : i < xs.length
  · obtain ⟨go, yl⟩ := item i hlt
    refine .inr ⟨go, _, fun H2 n2 => ⟨xs.length - (i + 1), by omega, n2⟩, fun x H2 y => ?_⟩
    obtain ⟨F2, p, gr, ep, rp⟩ := yl x H2 y
    have hx : xs[i] = p := by
      rw [List.getElem?_eq_getElem hlt] at ep
      exact Option.some.inj ep
    rw [List.drop_eq_getElem_cons hlt, hx] at w'
    simp only [Ev.loopD] at w'
    rw [wpO_bind] at w'
    unfold bodyD at w'
    rw [wpO_bind, wpO_opt] at w'
    obtain ⟨st2, eb, w'⟩ := w'
    rw [wpO_bind] at w'
    refine ⟨_, st', p, st2, r'.grow gr, rp, eb, fun σ3 r3 o3 => ⟨(o3.wipe hv).trans wipe_idem, _, st2, r3, wpO_mono w' fun tb st3 w3 y3 H3 g3 r3' e3 b3 => ?_⟩⟩
    have hw3 : L2.wipe σ3 own = L2.wipe σ own := (o3.wipe hv).trans wipe_idem
    obtain rfl : y3 = tb := b3
    have P3 : g3.P = upd g1.P D (.dK kvs) := e3.p.trans hP
    cases y3 with
    | false =>
      refine ⟨rfl, by omega, g3, st3.wipe own, kvs, ks, ps, ?_, P3, e3.h0.trans hH0, e3.f0.trans hF0, (rs.mono gr.f).mono e3.f, by omega, (sf.trans gr.f).trans e3.f, fun z => ?_, ?_⟩
      · rw [← hw3]; exact r3'.wipe own
      · exact ((sh z).trans gr.h).trans (e3.h (hbb z).2.2)
      · rw [if_neg (by decide), wpO_ok] at w3
        exact w3
    | true =>
      rw [if_pos rfl, wpO_bind] at w3
      refine ⟨g3, st3, r3', wpO_mono w3 fun kv st4 w4 z H4 g4 r4 e4 b4 => ?_⟩
      rw [wpO_bind] at w4
      refine ⟨g4, st4, r4, wpO_mono w4 fun vv st5 w5 z2 H5 g5 r5 e5 b5 => ?_⟩
      have P5 : g5.P = upd g1.P D (.dK kvs) := e5.p.trans (e4.p.trans P3)
      rw [wpO_ok] at w5
      simp only at w5
      by_cases hk : Ev.keyOk kv = true
      case neg => rw [if_neg hk] at w5; exact w5.elim
      rw [if_pos hk] at w5
      obtain ⟨kk, rfl, rfl, hok⟩ := key_of_rep hk b4
      have hkl := length_putK kvs kk z2
      refine ⟨kvs, kk, rfl, r5.psub D _ (by rw [P5]; exact upd_same), ?_, rfl, by omega, { g5 with P := upd g1.P D (.dK (L2.putK kvs kk z2)) }, st5.wipe own, L2.putK kvs kk z2, _, _, ?_, rfl, e5.h0.trans (e4.h0.trans (e3.h0.trans hH0)), e5.f0.trans (e4.f0.trans (e3.f0.trans hF0)), orep_put kk hok ((((rs.mono gr.f).mono e3.f).mono e4.f).mono e5.f) b5, by omega, (((sf.trans gr.f).trans e3.f).trans e4.f).trans e5.f, fun z' => ?_, w5⟩
      · have hs := sizeLine_le hl
        omega
      · rw [← hw3]; exact (r5.redo' P5 _).wipe own
      · exact (((((sh z').trans gr.h).trans (e3.h (hbb z').2.2)).trans (e4.h (hbb z').1)).trans (e5.h (hbb z').2.1)).upd_out hD
  · have hi2 : i = xs.length := by omega
    subst hi2
    rw [List.drop_length] at w'
    simp only [Ev.loopD] at w'
    obtain ⟨q1, q2⟩ := r'.take' hP (r1.psub.none hD) (p := .dic ks ps) rs
    refine .inl ⟨stop, ?_⟩
    have q3 : R K { g' with P := g1.P } σ H' (st'.back own st1) := q1.back r1 sf
    refine w' (.ref D) H' { g' with P := g1.P } q3 ⟨e1.f.trans sf, hH0.trans e1.h0, hF0.trans e1.f0, e1.p, fun z => ?_⟩ ⟨rfl, q2.back q1 r1⟩
    obtain ⟨n1, n2, n3, n4⟩ := hn z
    exact (e1.h n1).trans (sh (by rw [hb, n2, n3, n4]; rfl))
end Sd
end
section
set_option Elab.async false
set_option linter.all false
set_option maxRecDepth 100000
set_option maxHeartbeats 4000000
set_option autoImplicit false
namespace Sd
open PySem PySem.Spec PyProof.Rows L2
section
variable {X : L2.Cx} {Γ : Ev.Cx} {pos : Pos}
theorem EOk.of_box {e : Expr} {c : Ev.CE} (hF : ∀ st, Ev.evalF Γ c st = (Ev.evalE Γ c st).bind fun v s' => .ok (.own v) s') (hs : simpleC c = true)
    (h : PE X e (TX X.K (Ev.evalE Γ c) (Ev.calm c) (RBox X.K))) : EOk X Γ e c := by
  have raw1 : PE X e (TX X.K (Ev.evalE Γ c) (Ev.calm c) (RW X.K (Ev.freshE c))) :=
    PE_imp h fun σ H Q q => TX_imp q fun g σ H st a x r z => ⟨g, r, .refl, .inr z.2⟩
  refine ⟨raw1, ?_, fun cr => ?_⟩
  · refine PE_imp h fun σ H Q ⟨g, st, r, w⟩ => ⟨g, st, r, ?_⟩
    rw [hF, wpO_bind] at w
    exact wpO_mono w fun v st' z => z
  · have e : (fun s => evalA1 Γ c cr s) = Ev.evalE Γ c := by
      funext s
      cases c <;> first | rfl | exact absurd hs Bool.false_ne_true
    rw [e]
    exact pe_lend (pe_share raw1)
/-- name = [..] on one line -/
def SwOk (X : L2.Cx) (Γ : Ev.Cx) (e : Expr) (c : Ev.CE) : Prop := ∀ (i : Nat) (y : Str) (py spos : Pos), X.N[i]? = some y → X.env.scope.names.lookup y = some .local →
  swapsWith e (some (.Name y py)) spos.line X.env = pure true → SOk X Γ (.Assign [.Name y py] e spos) (.asgO i c)
theorem box_asg {K : PySem.W.Frag} {c : Ev.CE} {i : Nat} {nm : Bool} {σ : L2.St} {H : Hp} {D : Ends} (hF : ∀ st, Ev.evalF Γ c st = (Ev.evalE Γ c st).bind fun v s' => .ok (.own v) s')
    (h : TXS K (Ev.exec Γ (.asgO i c)) D σ H) : TX K (Ev.evalE Γ c) nm (RBox K) σ H fun x H1 => gName i x σ H1 D.nx := by
  obtain ⟨g, st, r, w⟩ := h
  refine ⟨g, st, r, ?_⟩
  simp only [Ev.exec] at w
  rw [hF, bind_assoc, wpO_bind] at w
  refine wpO_mono w fun v st1 w y H1 g1 r1 e1 b1 => ?_
  rw [bind_ok] at w
  by_cases hl : i < st1.sl.length
  · rw [if_pos hl] at w
    exact w _ H1 g1 (r1.putO hl b1.1 b1.2) (e1.trans .refl (fun z => nomatch z) fun z => rfl)
  · rw [if_neg hl] at w
    exact w.elim
theorem PTs_imp {ifs : List Expr} {t t' : TT} (h : PTs X ifs t) (k : ∀ σ H Q, t' σ H Q → t σ H Q) : PTs X ifs t' :=
  ⟨fun pins s σ H Q I q => h.run pins s σ H Q I (k σ H Q q)⟩
/-- a clause's tests -/
inductive CsOk (X : L2.Cx) (Γ : Ev.Cx) : List Expr → List Ev.CE → Prop
  | nil : CsOk X Γ [] []
  | one {e : Expr} {c : Ev.CE} : TOk X Γ e c → CsOk X Γ [e] [c]
theorem CsOk.pts {ifs : List Expr} {cs : List Ev.CE} (h : CsOk X Γ ifs cs) : PTs X ifs (TX X.K (Ev.tests Γ cs) (Ev.calms cs) RT) := by
  cases h with
  | nil =>
    refine PTs_imp pts_nil fun σ H Q ⟨g, st, r, w⟩ => ?_
    exact w true H g r .refl rfl
  | @one e c h =>
    refine PTs_imp (pts_one h) fun σ H Q ⟨g, st, r, w⟩ => ⟨g, st, r, wpO_mono w fun b st1 w y H1 g1 r1 e1 b1 => w y H1 g1 r1 (e1.trans .refl (fun z => ?_) fun _ => rfl) b1⟩
    simpa [Ev.calms] using z
abbrev Blk (X : L2.Cx) (scope : Scope) (P : L2.Cx → Prop) : Prop := ∀ (s : Shared) (H : Hp) (C : Addr) (cl : List (Str × Addr)) (fp : List Addr), P (X.blk s H scope (compEnvC scope cl C X.env) fp)
section
variable {elt kx tg iter tg2 iter2 : Expr} {ifs : List Expr} {scope : Scope} {own : List (Str × Nat)} {t t2 : Ev.TG} {sk sk2 : Ev.SK} {src src2 cs : List Ev.CE} {e k : Ev.CE} {own2 : List Nat}
theorem lc_hn {own : List Nat} : Ev.calm (.comp own e t sk src cs) = true → Ev.calms src = true ∧ Ev.calm e = true ∧ Ev.calms cs = true := fun z => by
  simp only [Ev.calm, Bool.and_eq_true] at z
  exact ⟨z.1.2, z.1.1, z.2⟩
theorem lc2_hn {own : List Nat} : Ev.calm (.comp2 own own2 e t sk src t2 sk2 src2) = true → Ev.calms src = true ∧ Ev.calm e = true ∧ Ev.calms src2 = true := fun z => by
  simp only [Ev.calm, Bool.and_eq_true] at z
  exact ⟨z.1.2, z.1.1, z.2⟩
theorem dc_hn {own : List Nat} : Ev.calm (.dcomp own k e t sk src cs) = true → Ev.calms src = true ∧ Ev.calm k = true ∧ Ev.calm e = true ∧ Ev.calms cs = true := fun z => by
  simp only [Ev.calm, Bool.and_eq_true] at z
  exact ⟨z.1.2, z.1.1.1, z.1.1.2, z.2⟩
/-- [e for t in src if c] -/
theorem eok_lc (hc : X.calm = true) (hN : X.N.Nodup) (hi : PI X tg iter (TX X.K (srcM Γ (Ev.calm e && Ev.calms cs) sk src) (Ev.calms src) (RI X.K (Ev.calm e && Ev.calms cs)))) (ok : BlkOk X.N X.env.scope scope own) (hv : ∀ i ∈ slotsT t, i ∈ own.map (·.2))
    (hg : Blk X scope fun X' => TGOk X' tg t) (ht : Blk X scope fun X' => CsOk X' Γ ifs cs) (he : Blk X scope fun X' => EOk X' Γ elt e) (hs : notSet iter = true) :
    EOk X Γ (.ListComp elt [⟨tg, iter, ifs, 0⟩] scope pos) (.comp (own.map (·.2)) e t sk src cs) ∧ SwOk X Γ (.ListComp elt [⟨tg, iter, ifs, 0⟩] scope pos) (.comp (own.map (·.2)) e t sk src cs) :=
  ⟨.of_box (fun _ => rfl) rfl (PE_imp (pe_lc hc hN hi ok (fun s H C cl fp => pg_ok (X := X.blk s H scope (compEnvC scope cl C X.env) fp) hc hN (hg s H C cl fp)) (fun s H C cl fp => (ht s H C cl fp).pts) (fun s H C cl fp => (he s H C cl fp).val) (folded_not hs)) fun σ H Q q => lc_read rfl hv lc_hn q),
    fun i y py spos hy hl hsw => PS_imp (ps_setLc hc hN hy hl hsw hi ok (fun s H C cl fp => pg_ok (X := X.blk s H scope (compEnvC scope cl C X.env) fp) hc hN (hg s H C cl fp)) (fun s H C cl fp => (ht s H C cl fp).pts) (fun s H C cl fp => (he s H C cl fp).val) (folded_not hs)) fun D σ H q => lc_read (nm := false) rfl hv (fun z => nomatch z) (box_asg (fun _ => rfl) q)⟩
theorem eok_lc2 (hc : X.calm = true) (hN : X.N.Nodup) (hi : PI X tg iter (TX X.K (srcM Γ (Ev.calm e && Ev.calms src2) sk src) (Ev.calms src) (RI X.K (Ev.calm e && Ev.calms src2)))) (ok : BlkOk X.N X.env.scope scope own) (hv : ∀ i ∈ slotsT t, i ∈ own.map (·.2)) (hv2 : ∀ i ∈ slotsT t2, i ∈ own2) (hvv : ∀ i ∈ own2, i ∈ own.map (·.2))
    (hg : Blk X scope fun X' => TGOk X' tg t) (hi2 : Blk X scope fun X' => PI X' tg2 iter2 (TX X'.K (srcM Γ false sk2 src2) (Ev.calms src2) (RI X'.K false))) (hg2 : Blk X scope fun X' => TGOk X' tg2 t2) (he : Blk X scope fun X' => EOk X' Γ elt e) (hs : notSet iter = true) (hs2 : notSet iter2 = true) :
    EOk X Γ (.ListComp elt [⟨tg, iter, [], 0⟩, ⟨tg2, iter2, [], 0⟩] scope pos) (.comp2 (own.map (·.2)) own2 e t sk src t2 sk2 src2) ∧ SwOk X Γ (.ListComp elt [⟨tg, iter, [], 0⟩, ⟨tg2, iter2, [], 0⟩] scope pos) (.comp2 (own.map (·.2)) own2 e t sk src t2 sk2 src2) :=
  ⟨.of_box (fun _ => rfl) rfl (PE_imp (pe_lc2 hc hN hi ok hvv (fun s H C cl fp => pg_ok (X := X.blk s H scope (compEnvC scope cl C X.env) fp) hc hN (hg s H C cl fp)) (fun s H C cl fp => pts_nil) hi2 (fun s H C cl fp => pg_ok (X := X.blk s H scope (compEnvC scope cl C X.env) fp) hc hN (hg2 s H C cl fp)) (fun s H C cl fp => pts_nil) (fun s H C cl fp => (he s H C cl fp).val) (folded_not hs) (fun _ => folded_not hs2)) fun σ H Q q => lc2_read rfl hv hv2 hvv lc2_hn q),
    fun i y py spos hy hl hsw => PS_imp (ps_setLc2 hc hN hy hl hsw hi ok hvv (fun s H C cl fp => pg_ok (X := X.blk s H scope (compEnvC scope cl C X.env) fp) hc hN (hg s H C cl fp)) (fun s H C cl fp => pts_nil) hi2 (fun s H C cl fp => pg_ok (X := X.blk s H scope (compEnvC scope cl C X.env) fp) hc hN (hg2 s H C cl fp)) (fun s H C cl fp => pts_nil) (fun s H C cl fp => (he s H C cl fp).val) (folded_not hs) (fun _ => folded_not hs2)) fun D σ H q => lc2_read (nm := false) rfl hv hv2 hvv (fun z => nomatch z) (box_asg (fun _ => rfl) q)⟩
theorem eok_dc (hc : X.calm = true) (hN : X.N.Nodup) (hi : PI X tg iter (TX X.K (srcM Γ (Ev.calm k && Ev.calm e && Ev.calms cs) sk src) (Ev.calms src) (RI X.K (Ev.calm k && Ev.calm e && Ev.calms cs)))) (ok : BlkOk X.N X.env.scope scope own) (hv : ∀ i ∈ slotsT t, i ∈ own.map (·.2))
    (hg : Blk X scope fun X' => TGOk X' tg t) (ht : Blk X scope fun X' => CsOk X' Γ ifs cs) (hk : Blk X scope fun X' => EOk X' Γ kx k) (he : Blk X scope fun X' => EOk X' Γ elt e) (hs : notSet iter = true) :
    EOk X Γ (.DictComp kx elt [⟨tg, iter, ifs, 0⟩] scope pos) (.dcomp (own.map (·.2)) k e t sk src cs) :=
  .of_box (fun _ => rfl) rfl (PE_imp (pe_dc hc hN hi ok (fun s H C cl fp => pg_ok (X := X.blk s H scope (compEnvC scope cl C X.env) fp) hc hN (hg s H C cl fp)) (fun s H C cl fp => (ht s H C cl fp).pts) (fun s H C cl fp => (hk s H C cl fp).val) (fun s H C cl fp => (he s H C cl fp).val) (folded_not hs)) fun σ H Q q => dc_read rfl hv dc_hn q)
end
end
end Sd
end
section
set_option Elab.async false
set_option linter.all false
set_option maxRecDepth 100000
set_option maxHeartbeats 4000000
set_option autoImplicit false
/-! tuple * 1 -/
namespace Sd
open PySem PySem.Spec PyProof.Rows L2
theorem tuple_mul1W (l : Addr) (items : Array Value) (n : Nat) (dd : Option Addr) (sl : Array (Option Value)) (u : Tok) :
    Meets (Builtin.«tuple.__mul__» ⟨[.ref l, .int 1 u], []⟩) (fun _ R s => s.heap.get? l = some { cls := .type "tuple", dict := dd, data := .seq items n, slots := sl } ∧
      R (.ok (.ret (Value.ref l))) s) :=
  .of_wp fun prog w A R s h => by
    obtain ⟨hp, g, d, tk, os⟩ := s
    obtain ⟨hl, h⟩ := h
    have f1 := AutoSeq1.idx_int
    wp_walk using wpAny_loadPart' hl
    exact ⟨_, rfl, h⟩
def rRep1 (K : PySem.W.Frag) : R2 := fun x y H Q => ∃ l xs, x = .ref l ∧ y = .int 1 ∧ SqT K H l xs ∧ Q x H
theorem op_rep1 {X : L2.Cx} : OpR X (binaryOp .Mult) (rRep1 X.K) := by
  intro pins s σ H x y v u Q I rx ry h
  obtain ⟨l, xs, rfl, rfl, hT, q⟩ := h
  cases rx
  obtain ⟨t, rfl⟩ := ry
  obtain ⟨its, r, ⟨⟨cls, dd, data, sl⟩, ho, hc, n, hd⟩, hs⟩ := I.tuple hT
  simp only at hc hd
  subst hc hd
  refine wpAny_binaryOp_repeat_ref (T := "tuple") (U := "int") (by decide) ⟨_, ho, rfl⟩ (fun s' => typeIs_int s' 1 t) noFill_tuple_mul F.fills_int_mul F.slot_int_rmul repeat_tuple F.slot_int_index.lookup
    (call_meets F.slot_int_rmul (typeIs_int s 1 t) F.entry_int_rmul (F.args_int_rmul_2 _ _) (int_rmul_tuple 1 t l its.toArray n dd sl)
      ⟨ho, rfl, ⟨_, ho, rfl⟩, call_meets F.slot_tuple_mul ⟨_, ho, rfl⟩ F.entry_tuple_mul (F.args_tuple_mul_2 _ _) (tuple_mul1W l its.toArray n dd sl t) ⟨ho, ?_⟩⟩)
  exact ⟨.ref l, H, I, rfl, q⟩
end Sd
end
section
set_option Elab.async false
set_option linter.all false
set_option maxRecDepth 100000
set_option maxHeartbeats 4000000
set_option autoImplicit false
namespace Sd
open PySem PySem.Spec PyProof.Rows L2
section
variable {X : L2.Cx} {Γ : Ev.Cx} {pos : Pos}
/-! ### operators -/
theorem mul_ok {i j : Int} (h : Ev.mulOk i j = true) : PySem.IntMulOk i j := by
  unfold Ev.mulOk at h
  simp only [Bool.or_eq_true, Bool.and_eq_true] at h
  have bg : ∀ {k : Int}, Ev.big k = true → Builtin.Int.intBits k ≤ 64 := fun {k} h => by
    unfold Ev.big at h
    exact PyProof.Rows.intBits_le (of_decide_eq_true h)
  rcases h with (h | h) | h
  · exact IntMulOk.of_left (bg h)
  · exact IntMulOk.of_right (bg h)
  · have := wide_mul (wide_lt' h.1) (wide_lt' h.2) (by decide) (by decide) (by decide)
    exact CMulW.ok this
theorem op_mulA : OpR X (binaryOp .Mult) (rI PySem.IntMulOk fun i j => .int (i * j)) := opI fun _ _ _ _ _ _ _ hc q => mul_int q hc
theorem int_rmul_list (a : Int) (t : Tok) (l : Addr) (items : Array Value) (n : Nat) (dd : Option Addr) (sl : Array (Option Value)) :
    Meets (Builtin.«int.__rmul__» ⟨[.int a t, .ref l], []⟩) (fun _ R s => s.heap.get? l = some { cls := .type "list", dict := dd, data := .seq items n, slots := sl } ∧ R (.ok (.ret Value.notImplemented)) s) :=
  .of_wp fun prog w A R s h => by obtain ⟨hp, g, d, tk, os⟩ := s; obtain ⟨hl, h⟩ := h; wp_walk using wpAny_loadPart' hl; exact ⟨_, rfl, h⟩
theorem list_mulW (l : Addr) (items : Array Value) (n : Nat) (dd : Option Addr) (sl : Array (Option Value)) (x : Int) (u : Tok) (hc0 : ¬(!Builtin.List.listFitsIndex x) = true) (hc1 : ¬items.size * x.toNat > (2 ^ 63 - 1) / 8) (hc2 : ¬Builtin.List.listTooLong (items.size * x.toNat) = true) :
    Meets (Builtin.«list.__mul__» ⟨[.ref l, .int x u], []⟩) (fun _ R s => s.heap.get? l = some { cls := .type "list", dict := dd, data := .seq items n, slots := sl } ∧ R (.ok (.ret (Value.ref s.heap.objs.size))) { s with heap := s.heap.push { cls := Value.type "list", data := Data.seq (List.foldl (fun x1 x2 => x1 ++ x2) #[] (List.replicate (if items.isEmpty = true then 0 else x.toNat) items)) }, toks := s.toks }) :=
  .of_wp fun prog w A R s h => by
    obtain ⟨hp, g, d, tk, os⟩ := s
    obtain ⟨hl, h⟩ := h
    have hsz := AutoListH.joined_fits hc2
    wp_walk using wpAny_loadPart' hl
    refine wpAny_ite_false (decide_eq_false (Nat.not_lt.mpr hsz)) ?_
    wp_walk using wpAny_loadPart' hl
    exact ⟨_, rfl, h⟩
theorem op_repL : OpR X (binaryOp .Mult) (fun x y H Q => ∃ l k xs, x = .ref l ∧ y = .int k ∧ SqL X.K H l xs ∧ -(2 ^ 63) ≤ k ∧ k < 2 ^ 63 ∧ xs.length * k.toNat ≤ sizeLine ∧
    ∀ p, H p = none → Q (.ref p) (upd H p (.lst (List.replicate k.toNat xs).flatten))) := by
  intro pins s σ H x y v u Q I rx ry h
  obtain ⟨l, k, xs, rfl, rfl, hH, h1, h2, hz, q⟩ := h
  cases rx
  obtain ⟨t, rfl⟩ := ry
  obtain ⟨its, r, ⟨⟨cls, dd, data, sl⟩, n, e, hc, hd0, hd⟩, hl0⟩ := I.list hH
  simp only at hc hd0 hd
  subst hc hd0 hd
  have hl := r.length
  have hlen : its.toArray.size * k.toNat ≤ sizeLine := by rw [List.size_toArray, ← hl]; exact hz
  have hcap : ¬ its.toArray.size * k.toNat > (2 ^ 63 - 1) / 8 := by
    have : (sizeLine : Nat) ≤ (2 ^ 63 - 1) / 8 := by decide
    omega
  have hfit : ¬ (!Builtin.List.listFitsIndex k) = true := by
    rw [fitsIndex_both h1 h2]
    exact Bool.false_ne_true
  have hlong : ¬ Builtin.List.listTooLong (its.toArray.size * k.toNat) = true := by
    rw [notLongL hlen]
    exact Bool.false_ne_true
  have hnew : List.foldl (fun x1 x2 => x1 ++ x2) #[] (List.replicate (if its.toArray.isEmpty = true then 0 else k.toNat) its.toArray) = (List.replicate k.toNat its).flatten.toArray := by
    have f0 : ∀ m : Nat, List.foldl (fun x1 x2 => x1 ++ x2) #[] (List.replicate m its.toArray) = (List.replicate m its).flatten.toArray := fun m => by
      have := foldl_rep its m []
      rw [List.nil_append] at this
      exact this
    rw [f0]
    cases its with
    | nil => simp
    | cons a r' => rw [if_neg (by simp)]
  refine wpAny_binaryOp_repeat_ref (T := "list") (U := "int") (by decide) ⟨_, e, rfl⟩ (fun s' => typeIs_int s' k t) noFill_list_mul F.fills_int_mul F.slot_int_rmul repeat_list F.slot_int_index.lookup
    (call_meets F.slot_int_rmul (typeIs_int s k t) F.entry_int_rmul (F.args_int_rmul_2 _ _) (int_rmul_list k t l its.toArray n none sl)
      ⟨e, rfl, ⟨_, e, rfl⟩, call_meets F.slot_list_mul ⟨_, e, rfl⟩ F.entry_list_mul (F.args_list_mul_2 _ _) (list_mulW l its.toArray n none sl k t hfit hcap hlong) ⟨e, ?_⟩⟩)
  rw [hnew]
  exact ⟨.ref _, _, I.lnew (t' := s.toks) (r.rep k.toNat) (by rw [PyProof.Rows.lm_len_rep_flat, Nat.mul_comm]; exact hz), rfl, q _ I.fresh⟩
theorem Reps.rep {K : PySem.W.Frag} {F : Hp} {ps : List Ev.PV} {vs : List V} (h : Reps K F ps vs) : ∀ n : Nat, Reps K F (List.replicate n ps).flatten (List.replicate n vs).flatten
  | 0 => trivial
  | n + 1 => by
    rw [List.replicate_succ, List.replicate_succ, List.flatten_cons, List.flatten_cons]
    exact h.append (Reps.rep h n)
theorem bnd_lt {j : Int} (h : Ev.bnd j = true) : -(2 ^ 62) ≤ j ∧ j < 2 ^ 62 := by
  unfold Ev.bnd at h
  simpa using h
theorem sop_mul : OpR X (binaryOp .Mult) (rS2 X.K .mul) := by
  refine OpR_imp (OpR.or op_mulA (OpR.or op_repL (OpR.or op_repT op_rep1))) ?_
  rintro x y H Q ⟨F, p, q, v, s, hp, hq, e, k⟩
  change Ev.sMul [p, q] = some v at e
  cases p <;> cases q <;> simp [Ev.sMul] at e
  · obtain ⟨hm, rfl⟩ := e
    exact .inl ⟨_, _, hp.int, hq.int, mul_ok hm, k _ _ (.old s rfl rfl)⟩
  · rename_i xs j
    by_cases hj : j = 1
    · subst hj
      simp at e
      subst e
      obtain ⟨a, vs, e1, h1, r1⟩ := hp.tupT s
      exact .inr (.inr (.inr ⟨a, vs, e1, hq.int, by rw [e1] at hp; exact h1, k _ _ (.old s hp.tup rfl)⟩))
    · rw [if_neg hj] at e
      simp at e
      obtain ⟨⟨⟨⟨h2, h3⟩, h4⟩, h5⟩, rfl⟩ := e
      obtain ⟨a, vs, e1, h1, r1⟩ := hp.tupT s
      have l1 := r1.length
      refine .inr (.inr (.inl ⟨a, j, vs, e1, hq.int, h1, fun z => ?_, h2, h3, by omega, fun p np => k _ _ (.mk s np (Reps.rep r1 _))⟩))
      subst z
      rw [List.length_nil] at l1
      exact h5 (List.eq_nil_of_length_eq_zero l1)
  · rename_i xs j
    obtain ⟨⟨hz, hb⟩, rfl⟩ := e
    obtain ⟨a, vs, e1, h1, r1⟩ := hp.lstL s
    have l1 := r1.length
    obtain ⟨b1, b2⟩ := bnd_lt hb
    refine .inr (.inl ⟨a, j, vs, e1, hq.int, h1, by omega, by omega, by rw [← l1]; exact sizeLine_le hz, fun p np => k _ _ (.mk s np (Reps.rep r1 _))⟩)
/-! ### in, is -/
theorem any_toPDs (d : Ev.PV) (hd : Ev.plain d = true) : ∀ ys : List Ev.PV, Ev.plains ys = true → ((toPDs ys).any fun z => PyData.eqv z (toPD d)) = Ev.mem ys d
  | [], _ => rfl
  | y :: ys, h => by
    rw [Ev.plains, Bool.and_eq_true] at h
    show (PyData.eqv (toPD y) (toPD d) || (toPDs ys).any fun z => PyData.eqv z (toPD d)) = (Ev.eqv y d || Ev.mem ys d)
    rw [eqv_toPD y d h.1 hd, any_toPDs d hd ys h.2]
theorem sop_in (hu : X.A.units + 66 < cLine) : OpR X (compareOp .In) (rS2 X.K .inn) := by
  intro pins s σ H x y v u Q I rx ry h
  obtain ⟨F, p, q, r, sb, hp, hq, e, k⟩ := h
  change Ev.sInn [p, q] = some r at e
  have seq : ∀ ys, (q = .lst ys ∨ q = .tup ys) → Ev.plain p = true → Ev.plains ys = true → Ev.depth p ≤ 64 → r = .bl (Ev.mem ys p) → wpAny (model X.prog X.w) X.A (compareOp .In v u) (EP X pins σ Q) X.xe s := fun ys hy p1 p2 dp er => by
    subst er
    have dl : X.A.units + 1 + min (PyData.depthAll (toPDs ys)) (toPD p).depth < cLine := by rw [depth_toPD p p1]; omega
    obtain ⟨d1, l1⟩ := brep_data sb hp p1
    obtain ⟨as, r1⟩ := Dp.reads I _ x v d1 rx
    rcases hy with rfl | rfl
    · obtain ⟨d2, l2⟩ := brep_data sb hq (show Ev.plain (.lst ys) = true from p2)
      obtain ⟨bs, r2⟩ := Dp.reads I _ y u d2 ry
      exact SeqAt.in_list_reads r2 r1 l2 l1 dl ⟨.bl _, H, I, rfl, by rw [any_toPDs p p1 ys p2]; exact k _ _ (.old sb rfl rfl)⟩
    · obtain ⟨d2, l2⟩ := brep_data sb hq (show Ev.plain (.tup ys) = true from p2)
      obtain ⟨bs, r2⟩ := Dp.reads I _ y u d2 ry
      exact SeqAt.in_tuple_reads r2 r1 l2 l1 dl ⟨.bl _, H, I, rfl, by rw [any_toPDs p p1 ys p2]; exact k _ _ (.old sb rfl rfl)⟩
  unfold Ev.sInn at e
  split at e
  · split at e <;> cases e
    rename_i x' ys heq ok
    cases heq
    simp only [Bool.and_eq_true, decide_eq_true_eq] at ok
    exact seq ys (.inl rfl) ok.1.1 ok.1.2 ok.2 rfl
  · split at e <;> cases e
    rename_i x' ys heq ok
    cases heq
    simp only [Bool.and_eq_true, decide_eq_true_eq] at ok
    exact seq ys (.inr rfl) ok.1.1 ok.1.2 ok.2 rfl
  · rename_i c t heq
    cases heq
    cases e
    obtain ⟨rfl, _⟩ := hp.str
    obtain ⟨rfl, _⟩ := hq.str
    exact op_in_sign pins s σ H _ _ v u Q I rx ry ⟨c, _, rfl, rfl, by simpa using k _ _ (.old sb rfl rfl)⟩
  · split at e <;> cases e
    rename_i kk ks ws heq ok
    cases heq
    obtain ⟨a, kvs, rfl, ha, rfl, hr, hks⟩ := hq.dicD sb
    have hp' : Rep X.K F p x := by
      rcases hp with hp | ⟨_, _, _, _, _, b⟩
      · exact hp
      · cases p <;> first | exact absurd ok Bool.false_ne_true | exact absurd b Bool.false_ne_true
    obtain ⟨key, rfl, rfl, hok⟩ := key_of_rep ok hp'
    cases (show u = Value.ref a from ry)
    refine d_in (o := valV kvs key) (by omega) I (DGet.k ha) rx fun s' I' => ⟨.bl _, H, I', rfl, ?_⟩
    rw [← valV_any, ← hasK_any]
    exact k _ _ (.old sb rfl rfl)
  · cases e
theorem sop_nin (hu : X.A.units + 66 < cLine) : OpR X (compareOp .NotIn) (rS2 X.K .nin) := by
  intro pins s σ H x y v u Q I rx ry h
  obtain ⟨F, p, q, r, sb, hp, hq, e, k⟩ := h
  change Ev.sNin [p, q] = some r at e
  have seq : ∀ ys, (q = .lst ys ∨ q = .tup ys) → Ev.plain p = true → Ev.plains ys = true → Ev.depth p ≤ 64 → r = .bl (!Ev.mem ys p) → wpAny (model X.prog X.w) X.A (compareOp .NotIn v u) (EP X pins σ Q) X.xe s := fun ys hy p1 p2 dp er => by
    subst er
    have dl : X.A.units + 1 + min (PyData.depthAll (toPDs ys)) (toPD p).depth < cLine := by rw [depth_toPD p p1]; omega
    obtain ⟨d1, l1⟩ := brep_data sb hp p1
    obtain ⟨as, r1⟩ := Dp.reads I _ x v d1 rx
    rcases hy with rfl | rfl
    · obtain ⟨d2, l2⟩ := brep_data sb hq (show Ev.plain (.lst ys) = true from p2)
      obtain ⟨bs, r2⟩ := Dp.reads I _ y u d2 ry
      exact SeqAt.notIn_list_reads r2 r1 l2 l1 dl ⟨.bl _, H, I, rfl, by rw [any_toPDs p p1 ys p2]; exact k _ _ (.old sb rfl rfl)⟩
    · obtain ⟨d2, l2⟩ := brep_data sb hq (show Ev.plain (.tup ys) = true from p2)
      obtain ⟨bs, r2⟩ := Dp.reads I _ y u d2 ry
      exact SeqAt.notIn_tuple_reads r2 r1 l2 l1 dl ⟨.bl _, H, I, rfl, by rw [any_toPDs p p1 ys p2]; exact k _ _ (.old sb rfl rfl)⟩
  unfold Ev.sNin at e
  split at e
  · split at e <;> cases e
    rename_i x' ys heq ok
    cases heq
    simp only [Bool.and_eq_true, decide_eq_true_eq] at ok
    exact seq ys (.inl rfl) ok.1.1 ok.1.2 ok.2 rfl
  · split at e <;> cases e
    rename_i x' ys heq ok
    cases heq
    simp only [Bool.and_eq_true, decide_eq_true_eq] at ok
    exact seq ys (.inr rfl) ok.1.1 ok.1.2 ok.2 rfl
  · rename_i c t heq
    cases heq
    cases e
    obtain ⟨rfl, _⟩ := hp.str
    obtain ⟨rfl, _⟩ := hq.str
    exact op_notIn_sign pins s σ H _ _ v u Q I rx ry ⟨c, _, rfl, rfl, by simpa using k _ _ (.old sb rfl rfl)⟩
  · split at e <;> cases e
    rename_i kk ks ws heq ok
    cases heq
    obtain ⟨a, kvs, rfl, ha, rfl, hr, hks⟩ := hq.dicD sb
    have hp' : Rep X.K F p x := by
      rcases hp with hp | ⟨_, _, _, _, _, b⟩
      · exact hp
      · cases p <;> first | exact absurd ok Bool.false_ne_true | exact absurd b Bool.false_ne_true
    obtain ⟨key, rfl, rfl, hok⟩ := key_of_rep ok hp'
    cases (show u = Value.ref a from ry)
    refine d_notIn (o := valV kvs key) (by omega) I (DGet.k ha) rx fun s' I' => ⟨.bl _, H, I', rfl, ?_⟩
    rw [← valV_any, ← hasK_any]
    exact k _ _ (.old sb rfl rfl)
  · cases e
theorem non_iff {K : PySem.W.Frag} {F H : Hp} {p : Ev.PV} {x : V} (h : BRep K F H p x) : decide (x = V.non) = (match p with | .non => true | _ => false) := by
  rcases h with h | ⟨a, o, rfl, _, _, b⟩
  · cases p
    case non => simp [show x = .non from h]
    case bl => simp [show x = .bl _ from h]
    case int => simp [show x = .int _ from h]
    case str => simp [h.1]
    case tup => obtain ⟨a, vs, rfl, _⟩ := h; simp
    case lst => obtain ⟨a, vs, rfl, _⟩ := h; simp
    case dic => obtain ⟨a, vs, rfl, _⟩ := h; simp
    case obj => exact h.elim
    case fn => simp [show x = .ty _ from h]
  · cases p <;> first | exact absurd b Bool.false_ne_true | simp
end
end Sd
end
section
set_option Elab.async false
set_option linter.all false
set_option maxRecDepth 100000
set_option maxHeartbeats 4000000
set_option autoImplicit false
namespace Sd
open PySem PySem.Spec PyProof.Rows L2
section
variable {X : L2.Cx} {Γ : Ev.Cx} {pos : Pos}
theorem sop_isN : OpR X (compareOp .Is) (rS2 X.K .isN) := by
  refine OpR_imp op_isN ?_
  rintro x y H Q ⟨F, p, q, v, s, hp, hq, e, k⟩
  change Ev.sIsN [p, q] = some v at e
  have := non_iff hp
  cases q <;> first | (cases p <;> simp [Ev.sIsN] at e; done) | skip
  refine ⟨hq.non, ?_⟩
  rw [this]
  cases p <;> simp [Ev.sIsN] at e <;> subst e <;> exact k _ _ (.old s rfl rfl)
theorem sop_notN : OpR X (compareOp .IsNot) (rS2 X.K .notN) := by
  refine OpR_imp op_notN ?_
  rintro x y H Q ⟨F, p, q, v, s, hp, hq, e, k⟩
  change Ev.sNotN [p, q] = some v at e
  have := non_iff hp
  cases q <;> first | (cases p <;> simp [Ev.sNotN] at e; done) | skip
  refine ⟨hq.non, ?_⟩
  rw [this]
  cases p <;> simp [Ev.sNotN] at e <;> subst e <;> exact k _ _ (.old s rfl rfl)
/-! ### subscripts -/
theorem at_get {ps : List Ev.PV} {i : Int} {v : Ev.PV} {K : PySem.W.Frag} {F : Hp} {vs : List V} (r : Reps K F ps vs) (e : (Ev.ixAt ps.length i).bind (fun k => ps[k]?) = some v) : ∃ z, atI vs i = some z ∧ Rep K F v z := by
  unfold atI
  have e0 : ixN vs.length i = Ev.ixAt ps.length i := by rw [← r.length]; rfl
  rw [e0]
  cases h : Ev.ixAt ps.length i with
  | none => rw [h] at e; cases e
  | some j =>
    rw [h] at e
    obtain ⟨z, h1, h2⟩ := r.get (i := j) e
    exact ⟨z, h1, h2⟩
theorem sop_ix (hu : X.A.units + 66 < cLine) : IxR X (rS2 X.K .ix) := by
  intro value slice pins s σ H x y v u Q I rx ry h hs
  obtain ⟨F, p, q, r, sb, hp, hq, e, k⟩ := h
  change Ev.sIx [p, q] = some r at e
  unfold Ev.sIx at e
  split at e
  · rename_i xs i heq
    cases heq
    obtain ⟨a, vs, e1, h1, r1⟩ := hp.lstL sb
    obtain ⟨z, g1, g2⟩ := at_get r1 e
    exact ix_list value slice pins s σ H x y v u Q I rx ry ⟨a, vs, i, z, e1, hq.int, h1, g1, k _ _ (.old sb g2 rfl)⟩ hs
  · rename_i xs i heq
    cases heq
    obtain ⟨a, vs, e1, h1, r1⟩ := hp.tupT sb
    obtain ⟨z, g1, g2⟩ := at_get r1 e
    exact ix_tup value slice pins s σ H x y v u Q I rx ry ⟨a, vs, i, z, e1, hq.int, h1, g1, k _ _ (.old sb g2 rfl)⟩ hs
  · rename_i t i heq
    cases heq
    split at e <;> first | cases e | skip
    rename_i hz
    obtain ⟨e1, ho⟩ := hp.str
    cases h : Ev.ixAt t.length i with
    | none => rw [h] at e; cases e
    | some j =>
      rw [h] at e
      change (t[j]?).map (fun c => Ev.PV.str [c]) = some r at e
      cases h2 : t[j]? with
      | none => rw [h2] at e; cases e
      | some c =>
        rw [h2] at e
        cases e
        have hc : c < 1114112 := by
          have := List.all_eq_true.mp ho c (List.mem_of_getElem? h2)
          simpa using this
        refine ix_str value slice pins s σ H x y v u Q I rx ry ⟨_, i, c, e1, hq.int, by rw [str_len]; exact sizeLine_le hz, ?_, k _ _ (.old sb ?_ rfl)⟩ hs
        · unfold atI
          have e0 : ixN (⟨t.toArray⟩ : Str).cps.toList.length i = Ev.ixAt t.length i := by simp [ixN, Ev.ixAt]
          rw [e0, h]
          simpa using h2
        · exact ⟨rfl, by simpa using hc⟩
  · split at e <;> first | cases e | skip
    rename_i ks ws kk heq ok
    cases heq
    obtain ⟨a, kvs, rfl, ha, rfl, hr, hks⟩ := hp.dicD sb
    have hq' : Rep X.K F q y := by
      rcases hq with hq | ⟨_, _, _, _, _, b⟩
      · exact hq
      · cases q <;> first | exact absurd ok Bool.false_ne_true | exact absurd b Bool.false_ne_true
    obtain ⟨key, rfl, rfl, hok⟩ := key_of_rep ok hq'
    obtain ⟨z, g1, g2⟩ := (look_val key hr).1 r e
    cases (show v = Value.ref a from rx)
    have g : DGet H a (kV key) (some z) := g1 ▸ DGet.k ha
    exact tail_any (dict_typeIs I g) PySem.F.slot_dict_getitem.lookup (d_getItem (A := X.A) (by omega) I g ry fun w' s' I' rw' => ⟨z, H, I', rw', k _ _ (.old sb g2 rfl)⟩) hs
  · cases e
def notSl : Expr → Bool
  | .Slice _ _ _ _ => false
  | _ => true
theorem plain_ix {b : Expr} (h : notSl b = true) : PlainIx b := fun o i => by
  cases b <;> first | rfl | exact absurd h Bool.false_ne_true
theorem eok_ix {ea eb : Expr} {ca cb : Ev.CE} (hu : X.A.units + 66 < cLine) (ha : EOk X Γ ea ca) (hb : EOk X Γ eb cb) (hs : notSl eb = true) : EOk X Γ (.Subscript ea eb pos) (.bi .ix [ca, cb]) :=
  .of_raw (PE_imp (pe_ix (sop_ix hu) (ha.lent (Ev.calm cb)) (hb.lent true) (plain_ix hs)) fun σ H Q h => rd2 calm2 h) rfl fun v h => freshB_box h
/-! ### slices -/
theorem sl_at (n d : Nat) (o : Option Int) : Ev.slAt n d o = HT.sIx n d o := by cases o <;> rfl
theorem Reps.cut {K : PySem.W.Frag} {F : Hp} {ps : List Ev.PV} {vs : List V} (h : Reps K F ps vs) (lo hi : Option Int) : Reps K F (Ev.cut ps lo hi) (cutV vs lo hi) := by
  unfold Ev.cut cutV
  rw [sl_at, sl_at, h.length]
  exact (h.drop _).take _
def rSl (K : PySem.W.Frag) : V → Option Int → Option Int → Hp → VK → Prop := fun x lo hi H Q => ∃ F p v, Sub F H ∧ BRep K F H p x ∧ Ev.cutV p lo hi = some v ∧ ∀ z H', Res K F H (Ev.isBox v) v z H' → Q z H'
theorem cut_len {α : Type} (xs : List α) (lo hi : Option Int) : (Ev.cut xs lo hi).length ≤ xs.length := by
  unfold Ev.cut
  rw [List.length_take, List.length_drop]; omega
theorem sop_sl : SlR X (rSl X.K) := by
  intro pins s σ H x v vl vu lo hi sl Q I rx hs pl pu h
  obtain ⟨F, p, r, sb, hp, e, k⟩ := h
  unfold Ev.cutV at e
  split at e
  · rename_i t
    split at e <;> cases e
    rename_i hz
    obtain ⟨e1, ho⟩ := hp.str
    refine sl_str pins s σ H x v vl vu lo hi sl Q I rx hs pl pu ⟨_, e1, by rw [str_len]; exact sizeLine_le hz, k _ _ (.old sb ?_ rfl)⟩
    have hc : (cutS ⟨t.toArray⟩ lo hi) = ⟨(Ev.cut t lo hi).toArray⟩ := by
      unfold cutS Ev.cut
      rw [sl_at, sl_at]
      simp [Str.length]
    refine ⟨by rw [hc], ?_⟩
    unfold Ev.cut
    refine List.all_eq_true.mpr fun c hm => List.all_eq_true.mp ho c (List.mem_of_mem_drop (List.mem_of_mem_take hm))
  · rename_i xs
    cases e
    obtain ⟨a, vs, e1, h1, r1⟩ := hp.lstL sb
    exact sl_list pins s σ H x v vl vu lo hi sl Q I rx hs pl pu ⟨a, vs, e1, h1, fun p np => k _ _ (.mk sb np (r1.cut lo hi))⟩
  · rename_i xs
    cases e
    obtain ⟨a, vs, e1, h1, r1⟩ := hp.tupT sb
    refine sl_tupA pins s σ H x v vl vu lo hi sl Q I rx hs pl pu ⟨a, vs, e1, h1, fun ⟨z1, z2⟩ => k _ _ (.old sb ?_ rfl), fun _ p np => k _ _ (.mk sb np (r1.cut lo hi))⟩
    have hc : Ev.cut xs lo hi = xs := by
      unfold Ev.cut
      rw [sl_at, sl_at, r1.length, z1, z2, List.drop_zero, Nat.sub_zero, ← r1.length, List.take_length]
    rw [hc, ← e1]
    exact hp.tup
  · cases e
theorem fresh_cut {b : Ev.Blt} (h : Ev.fresh b = true) (v : Ev.PV) : Ev.freshB b v = Ev.isBox v := by unfold Ev.freshB; rw [h]; rfl
theorem eok_slLH {ea el eh : Expr} {ca cl ch : Ev.CE} {p2 : Pos} (ha : EOk X Γ ea ca) (hl : EOk X Γ el cl) (hh : EOk X Γ eh ch) : EOk X Γ (.Subscript ea (.Slice (some el) (some eh) none p2) pos) (.bi .slLH [ca, cl, ch]) := by
  have hcalm : ∀ {n : Bool}, n = Ev.calm (.bi .slLH [ca, cl, ch]) → n = true → Ev.calm ca = true ∧ Ev.calm cl = true ∧ Ev.calm ch = true := fun e h => by
    subst e
    simpa [Ev.calm, Ev.calms] using h
  refine .of_raw (PE_imp (pe_slice sop_sl (ha.lent (Ev.calm cl && Ev.calm ch)) (po_some (hl.lent (Ev.calm ch))) (po_some (hh.lent true))) fun σ H Q q => ?_) rfl fun v h => freshB_box h
  have e : Ev.evalE Γ (.bi .slLH [ca, cl, ch]) = fun s => (evalA1 Γ ca (Ev.calm cl && Ev.calm ch) s).bind fun v s1 => (evalA1 Γ cl (Ev.calm ch) s1).bind fun w s2 => (evalA1 Γ ch true s2).bind fun u s3 => Ev.Out.ofOpt (Ev.sem .slLH [v, w, u]) s3 := by
    funext s
    simp only [Ev.evalE, evalAs_cons, Ev.calms, Bool.and_true, Ev.evalAs, bind_assoc, bind_ok]
  rw [e] at q
  refine TX_split q fun g p x H1 g1 st1 r1 e1 b1 w _ => ⟨g1, st1, r1, ?_⟩
  rw [wpO_bind] at w
  refine wpO_mono w fun pl st2 w y H2 g2 r2 e2 b2 => ?_
  rw [wpO_bind] at w
  cases pl with
  | int i =>
    refine ⟨i, b2.1.int, g2, st2, r2, wpO_mono w fun ph st3 w z H3 g3 r3 e3 b3 => ?_⟩
    rw [wpO_opt] at w
    obtain ⟨v, ev, k⟩ := w
    cases ph with
    | int j =>
      refine ⟨j, b3.1.int, g3.F, p, v, r3.sub, ?_, ev, fun z H' rs => ?_⟩
      · cases hc : (Ev.calm cl && Ev.calm ch) with
        | true =>
          rw [Bool.and_eq_true] at hc
          exact (b1.1.mono e2.f (e2.h hc.1)).mono e3.f (e3.h hc.2)
        | false => exact .inl (((b1.2 hc).mono e2.f).mono e3.f)
      · obtain ⟨g', r', ex, d⟩ := Res.raw r3 rs
        refine k z H' g' r' (((e1.trans e2 (fun n => (hcalm rfl n).1) fun n => (hcalm rfl n).2.1).trans e3 id fun n => (hcalm rfl n).2.2).trans ex id fun _ => rfl) ?_
        rw [← fresh_cut (b := .slLH) rfl v] at d
        exact d
    | _ => exact nomatch ev
  | _ =>
    obtain ⟨u, s3, w⟩ := wpO_ex w
    rw [wpO_opt] at w
    obtain ⟨v, ev, _⟩ := w
    cases u <;> exact nomatch ev
theorem eok_slL {ea el : Expr} {ca cl : Ev.CE} {p2 : Pos} (ha : EOk X Γ ea ca) (hl : EOk X Γ el cl) : EOk X Γ (.Subscript ea (.Slice (some el) none none p2) pos) (.bi .slL [ca, cl]) := by
  refine .of_raw (PE_imp (pe_slice sop_sl (ha.lent (Ev.calm cl)) (po_some (hl.lent true)) po_none) fun σ H Q q => ?_) rfl fun v h => freshB_box h
  have e : Ev.evalE Γ (.bi .slL [ca, cl]) = fun s => (evalA1 Γ ca (Ev.calm cl) s).bind fun v s1 => (evalA1 Γ cl true s1).bind fun w s2 => Ev.Out.ofOpt (Ev.sem .slL [v, w]) s2 := by
    funext s
    simp only [Ev.evalE, evalAs_cons, Ev.calms, Bool.and_true, Ev.evalAs, bind_assoc, bind_ok]
  rw [e] at q
  refine TX_split q fun g p x H1 g1 st1 r1 e1 b1 w _ => ⟨g1, st1, r1, ?_⟩
  rw [wpO_bind] at w
  refine wpO_mono w fun pl st2 w y H2 g2 r2 e2 b2 => ?_
  rw [wpO_opt] at w
  obtain ⟨v, ev, k⟩ := w
  cases pl with
  | int i =>
    refine ⟨i, b2.1.int, g2.F, p, v, r2.sub, ?_, ev, fun z H' rs => ?_⟩
    · cases hc : Ev.calm cl with
      | true => exact b1.1.mono e2.f (e2.h hc)
      | false => exact .inl ((b1.2 hc).mono e2.f)
    · obtain ⟨g', r', ex, d⟩ := Res.raw r2 rs
      refine k z H' g' r' ((e1.trans e2 (fun n => (calm2 n).1) fun n => (calm2 n).2).trans ex id fun _ => rfl) ?_
      rw [← fresh_cut (b := .slL) rfl v] at d
      exact d
  | _ => exact nomatch ev
theorem eok_slH {ea el : Expr} {ca cl : Ev.CE} {p2 : Pos} (ha : EOk X Γ ea ca) (hl : EOk X Γ el cl) : EOk X Γ (.Subscript ea (.Slice none (some el) none p2) pos) (.bi .slH [ca, cl]) := by
  refine .of_raw (PE_imp (pe_slice sop_sl (ha.lent (Ev.calm cl)) po_none (po_some (hl.lent true))) fun σ H Q q => ?_) rfl fun v h => freshB_box h
  have e : Ev.evalE Γ (.bi .slH [ca, cl]) = fun s => (evalA1 Γ ca (Ev.calm cl) s).bind fun v s1 => (evalA1 Γ cl true s1).bind fun w s2 => Ev.Out.ofOpt (Ev.sem .slH [v, w]) s2 := by
    funext s
    simp only [Ev.evalE, evalAs_cons, Ev.calms, Bool.and_true, Ev.evalAs, bind_assoc, bind_ok]
  rw [e] at q
  refine TX_split q fun g p x H1 g1 st1 r1 e1 b1 w _ => ?_
  refine ⟨g1, st1, r1, ?_⟩
  rw [wpO_bind] at w
  refine wpO_mono w fun pl st2 w y H2 g2 r2 e2 b2 => ?_
  rw [wpO_opt] at w
  obtain ⟨v, ev, k⟩ := w
  cases pl with
  | int i =>
    refine ⟨i, b2.1.int, g2.F, p, v, r2.sub, ?_, ev, fun z H' rs => ?_⟩
    · cases hc : Ev.calm cl with
      | true => exact b1.1.mono e2.f (e2.h hc)
      | false => exact .inl ((b1.2 hc).mono e2.f)
    · obtain ⟨g', r', ex, d⟩ := Res.raw r2 rs
      refine k z H' g' r' ((e1.trans e2 (fun n => (calm2 n).1) fun n => (calm2 n).2).trans ex id fun _ => rfl) ?_
      rw [← fresh_cut (b := .slH) rfl v] at d
      exact d
  | _ => exact nomatch ev
end
end Sd
end
section
set_option Elab.async false
set_option linter.all false
set_option maxRecDepth 100000
set_option maxHeartbeats 4000000
set_option autoImplicit false
namespace Sd
open PySem PySem.Spec PyProof.Rows L2
section
variable {X : L2.Cx} {Γ : Ev.Cx} {pos : Pos}
/-! ### calls of builtins -/
theorem CallR_imp {f : Value} {r r' : List V → Hp → VK → Prop} (h : CallR X f r) (k : ∀ xs H Q, r' xs H Q → r xs H Q) : CallR X f r' :=
  fun pins s σ H xs us Q I rx q => h pins s σ H xs us Q I rx (k xs H Q q)
/-- operands lent, an answer -/
def rCB (K : PySem.W.Frag) (b : Ev.Blt) : List V → Hp → VK → Prop := fun xs H Q => ∃ F ps v, Sub F H ∧ BReps K F H ps xs ∧ Ev.sem b ps = some v ∧ ∀ z H', Res K F H (Ev.freshB b v) v z H' → Q z H'
theorem cb_read {b : Ev.Blt} {cs : List Ev.CE} {σ : L2.St} {H : Hp} {Q : VK} (h : TX X.K (Ev.evalE Γ (.bi b cs)) (Ev.calm (.bi b cs)) (RW X.K (Ev.freshE (.bi b cs))) σ H Q) :
    tCB (rCB X.K b) (TX X.K (Ev.evalAs Γ cs) (Ev.calms cs) (RBs X.K)) σ H Q := by
  have e : Ev.evalE Γ (.bi b cs) = fun s => (Ev.evalAs Γ cs s).bind fun vs s' => Ev.Out.ofOpt (Ev.sem b vs) s' := by
    funext s
    rw [Ev.evalE]
  rw [e] at h
  refine TX_split h fun g ps xs H1 g1 st1 r1 e1 b1 w _ => ?_
  rw [wpO_opt] at w
  obtain ⟨v, ev, w⟩ := w
  refine ⟨g1.F, ps, v, r1.sub, b1, ev, fun z H' rs => ?_⟩
  obtain ⟨g', r', ex, d⟩ := Res.raw r1 rs
  exact w z H' g' r' (e1.trans ex (fun n => n) fun _ => rfl) d
theorem eok_callB {id : String} {x : Str} {b : Ev.Blt} {e : Expr} {es : List Expr} {c : Ev.CE} {cs : List Ev.CE} {p : Pos} (hc : CallR X (.builtin id) (rCB X.K b)) (hg : Gl X x) (hm : X.mg x = none) (hv : bootBuiltins x = some (.builtin id)) (hn : x ≠ "__name__") (hdb : (x == ("__debug__" : Str)) = false)
    (h : EOks X Γ (e :: es) (c :: cs)) : EOk X Γ (.Call (.Name x p) (e :: es) [] pos) (.bi b (c :: cs)) := by
  cases h with
  | cons he hs hes =>
    exact .of_raw (PE_imp (pe_callB hc hg hm hv (pa_lent (.cons he hs hes)) hn hdb (star_cons hs) (back_any (hes.star _))) fun σ H Q h => cb_read h) rfl fun v h => freshB_box h
theorem eok_callT {T : String} {x : Str} {b : Ev.Blt} {e : Expr} {es : List Expr} {c : Ev.CE} {cs : List Ev.CE} {p : Pos} (hc : CallR X (.type T) (rCB X.K b)) (hg : Gl X x) (hm : X.mg x = none) (hv : bootBuiltins x = some (.type T)) (hn : x ≠ "__name__") (hdb : (x == ("__debug__" : Str)) = false)
    (h : EOks X Γ (e :: es) (c :: cs)) : EOk X Γ (.Call (.Name x p) (e :: es) [] pos) (.bi b (c :: cs)) := by
  cases h with
  | cons he hs hes =>
    exact .of_raw (PE_imp (pe_callTy hc hg hm hv (pa_lent (.cons he hs hes)) hn hdb (star_cons hs) (back_any (hes.star _))) fun σ H Q h => cb_read h) rfl fun v h => freshB_box h
/-! each -/
theorem cb_len : CallR X (.builtin "len") (rCB X.K .len) := by
  refine CallR_imp (CallR.or call_len call_lenD) ?_
  rintro xs H Q ⟨F, ps, v, s, bl, e, k⟩
  change Ev.sLen ps = some v at e
  unfold Ev.sLen at e
  split at e
  · cases e
    obtain ⟨x, rfl, b⟩ := brep1 bl
    obtain ⟨a, vs, rfl, h1, r1⟩ := b.lstL s
    exact .inl ⟨_, vs.length, rfl, .inl ⟨vs, h1, rfl⟩, by rw [← r1.length]; exact k _ _ (.old s rfl rfl)⟩
  · cases e
    obtain ⟨x, rfl, b⟩ := brep1 bl
    obtain ⟨a, vs, rfl, h1, r1⟩ := b.tupT s
    exact .inl ⟨_, vs.length, rfl, .inr ⟨vs, h1, rfl⟩, by rw [← r1.length]; exact k _ _ (.old s rfl rfl)⟩
  · split at e <;> cases e
    rename_i t hz
    obtain ⟨x, rfl, b⟩ := brep1 bl
    obtain ⟨rfl, _⟩ := b.str
    exact .inl ⟨_, t.length, rfl, ⟨by rw [str_len]; exact sizeLine_le hz, (str_len t).symm⟩, k _ _ (.old s rfl rfl)⟩
  · cases e
    obtain ⟨x, rfl, b⟩ := brep1 bl
    obtain ⟨a, kvs, rfl, ha, hk, hr, hks⟩ := b.dicD s
    refine .inr ⟨a, kvs, rfl, ha, ?_⟩
    have := k (.int kvs.length) H (.old s (by rw [hk, List.length_map]; rfl) rfl)
    exact this
  · cases e
theorem cb_int : CallR X (.type "int") (rCB X.K .toInt) := by
  refine CallR_imp call_int1 ?_
  rintro xs H Q ⟨F, ps, v, s, bl, e, k⟩
  change Ev.sToInt ps = some v at e
  unfold Ev.sToInt at e
  split at e
  · cases e
    obtain ⟨x, rfl, b⟩ := brep1 bl
    exact .inl ⟨_, by rw [b.int], k _ _ (.old s rfl rfl)⟩
  · cases e
    obtain ⟨x, rfl, b⟩ := brep1 bl
    exact .inr ⟨_, by rw [b.bl], k _ _ (.old s rfl rfl)⟩
  · cases e
theorem seqL_ty {K : PySem.W.Frag} {H : Hp} {a : Addr} {vs : List V} (h : SqL K H a vs) : TyX K H (.ref a) (.type "list") := by
  rcases h with (h | ⟨o, h⟩) | ⟨o, its, n, hk, hc, _⟩
  · exact .base (.lst h)
  · exact .base (.frz h)
  · exact .kList hk hc
theorem seqT_ty {K : PySem.W.Frag} {H : Hp} {a : Addr} {vs : List V} (h : SqT K H a vs) : TyX K H (.ref a) (.type "tuple") := by
  rcases h with (h | ⟨o, h⟩) | ⟨o, its, n, hk, hc, _⟩
  · exact .base (.tup h)
  · exact .fTuple h
  · exact .kTuple hk hc
/-- the kind of a value, by its number (6 none) -/
def kindN : Ev.PV → Nat
  | .str _ => 0
  | .int _ => 1
  | .bl _ => 2
  | .tup _ => 3
  | .lst _ => 4
  | .dic _ _ => 5
  | _ => 6
def kindNm : Nat → String
  | 6 => "NoneType"
  | n => tyNm n
def isNN (m k : Nat) : Bool := m == k || (m == 2 && k == 1)
def KitOk (K : PySem.W.Frag) : Prop := ∀ m < 7, ∀ k < 6, PySem.W.kitOne K (.type (kindNm m)) (.type (tyNm k)) = some (isNN m k)
theorem isTy_NN (v : Ev.PV) (k : Nat) (hk : k < 6) (h : kindN v < 6 ∨ v = .non) : Ev.isTy v k = isNN (kindN v) k := by
  have : k = 0 ∨ k = 1 ∨ k = 2 ∨ k = 3 ∨ k = 4 ∨ k = 5 := by omega
  rcases this with rfl | rfl | rfl | rfl | rfl | rfl <;> cases v <;> first | rfl | (rcases h with h | h <;> first | (exact absurd h (by decide)) | cases h)
theorem kind_ty {K : PySem.W.Frag} {F H : Hp} {p : Ev.PV} {x : V} (s : Sub F H) (h : BRep K F H p x) (hd : ∀ k, p ≠ .fn k) : TyX K H x (.type (kindNm (kindN p))) ∧ (kindN p < 6 ∨ p = .non) := by
  cases p with
  | non => rw [h.non]; exact ⟨.base .non, .inr rfl⟩
  | bl b => rw [h.bl]; exact ⟨.base (.bl b), .inl (show (2 : Nat) < 6 by decide)⟩
  | int b => rw [h.int]; exact ⟨.base (.int b), .inl (show (1 : Nat) < 6 by decide)⟩
  | str b => rw [h.str.1]; exact ⟨.base (.str _), .inl (show (0 : Nat) < 6 by decide)⟩
  | tup b =>
    obtain ⟨a, vs, rfl, h1, _⟩ := h.tupT s
    exact ⟨seqT_ty h1, .inl (show (3 : Nat) < 6 by decide)⟩
  | lst b =>
    obtain ⟨a, vs, rfl, h1, _⟩ := h.lstL s
    exact ⟨seqL_ty h1, .inl (show (4 : Nat) < 6 by decide)⟩
  | dic ks ws =>
    obtain ⟨a, kvs, rfl, h1, _⟩ := h.dicD s
    exact ⟨.base (.dK h1), .inl (show (5 : Nat) < 6 by decide)⟩
  | obj k =>
    rcases h with h | ⟨_, _, _, _, _, b⟩
    · exact h.elim
    · exact absurd b Bool.false_ne_true
  | fn k => exact absurd rfl (hd k)
theorem cb_isi (hK : KitOk X.K) : CallR X (.builtin "isinstance") (rCB X.K .isInst) := by
  refine CallR_imp call_isi ?_
  rintro xs H Q ⟨F, ps, v, s, bl, e, k⟩
  change Ev.sIsInst ps = some v at e
  unfold Ev.sIsInst at e
  split at e
  · cases e
  · rename_i p n hd
    split at e <;> cases e
    rename_i hn
    obtain ⟨x, y, rfl, b1, b2⟩ := brep2 bl
    rw [b2.fn]
    obtain ⟨t1, t2⟩ := kind_ty s b1 fun j e => hd j e
    have hm : kindN p < 7 := by
      rcases t2 with t2 | t2
      · omega
      · rw [t2]; decide
    exact ⟨x, _, _, _, _, rfl, .ty _, t1, hK _ hm _ hn, k _ _ (.old s (by rw [isTy_NN p n hn t2]; rfl) rfl)⟩
  · cases e
end
end Sd
end
section
set_option Elab.async false
set_option linter.all false
set_option maxRecDepth 100000
set_option maxHeartbeats 4000000
set_option autoImplicit false
namespace Sd
open PySem PySem.Spec PyProof.Rows L2
/-! ### sorting -/
theorem insI_perm (i : Int) : ∀ l : List Int, (Ev.insI i l).Perm (i :: l)
  | [] => .refl _
  | j :: r => by
    rw [Ev.insI]
    split
    · exact .refl _
    · exact ((insI_perm i r).cons j).trans (.swap i j r)
theorem sortI_perm : ∀ l : List Int, (Ev.sortI l).Perm l
  | [] => .refl _
  | i :: r => (insI_perm i _).trans ((sortI_perm r).cons i)
theorem insI_sorted (i : Int) : ∀ l : List Int, l.Pairwise (· ≤ ·) → (Ev.insI i l).Pairwise (· ≤ ·)
  | [], _ => by simp [Ev.insI]
  | j :: r, h => by
    rw [Ev.insI]
    rw [List.pairwise_cons] at h
    split
    · rename_i hij
      refine List.pairwise_cons.mpr ⟨fun a ha => ?_, List.pairwise_cons.mpr h⟩
      rcases List.mem_cons.mp ha with rfl | ha
      · exact hij
      · exact Int.le_trans hij (h.1 a ha)
    · rename_i hij
      refine List.pairwise_cons.mpr ⟨fun a ha => ?_, insI_sorted i r h.2⟩
      rcases List.mem_cons.mp ((insI_perm i r).mem_iff.mp ha) with rfl | ha
      · omega
      · exact h.1 a ha
theorem sortI_sorted : ∀ l : List Int, (Ev.sortI l).Pairwise (· ≤ ·)
  | [] => .nil
  | i :: r => insI_sorted i _ (sortI_sorted r)
theorem sortI_uniq {ns l : List Int} (p : ns.Perm l) (h : ns.Pairwise (· ≤ ·)) : ns = Ev.sortI l :=
  List.Perm.eq_of_pairwise (le := (· ≤ ·)) (fun a b _ _ h1 h2 => Int.le_antisymm h1 h2) h (sortI_sorted l) (p.trans (sortI_perm l).symm)
theorem ltT_anti : ∀ {a b : Ev.Txt}, Ev.ltT a b = false → Ev.ltT b a = false → a = b
  | [], [], _, _ => rfl
  | [], _ :: _, h, _ => by simp [Ev.ltT] at h
  | _ :: _, [], _, h => by simp [Ev.ltT] at h
  | x :: a, y :: b, h, k => by
    rw [Ev.ltT] at h k
    by_cases e : x = y
    · subst e
      rw [if_pos (by simp)] at h k
      rw [ltT_anti h k]
    · rw [if_neg (by simpa using e)] at h
      rw [if_neg (by simpa using fun z => e (Eq.symm z))] at k
      simp at h k
      omega
theorem ltT_trans : ∀ {a b c : Ev.Txt}, Ev.ltT b a = false → Ev.ltT c b = false → Ev.ltT c a = false
  | [], _, [], _, _ => rfl
  | [], [], _ :: _, _, k => by simp [Ev.ltT]
  | [], _ :: _, _ :: _, _, _ => by simp [Ev.ltT]
  | _ :: _, [], _, h, _ => by simp [Ev.ltT] at h
  | _ :: _, _ :: _, [], _, k => by simp [Ev.ltT] at k
  | x :: a, y :: b, z :: c, h, k => by
    rw [Ev.ltT] at h k ⊢
    by_cases e1 : y = x
    · subst e1
      rw [if_pos (by simp)] at h
      by_cases e2 : z = y
      · subst e2
        rw [if_pos (by simp)] at k ⊢
        exact ltT_trans h k
      · rw [if_neg (by simpa using e2)] at k ⊢
        exact k
    · rw [if_neg (by simpa using e1)] at h
      by_cases e2 : z = y
      · subst e2
        rw [if_neg (by simpa using e1)]
        exact h
      · rw [if_neg (by simpa using e2)] at k
        simp at h k
        rw [if_neg (by simp; omega)]
        simp; omega
theorem ltT_total : ∀ (a b : Ev.Txt), Ev.ltT a b = true → Ev.ltT b a = false
  | [], [], h => by simp [Ev.ltT] at h
  | [], _ :: _, _ => by simp [Ev.ltT]
  | _ :: _, [], h => by simp [Ev.ltT] at h
  | x :: a, y :: b, h => by
    rw [Ev.ltT] at h ⊢
    by_cases e : x = y
    · subst e
      rw [if_pos (by simp)] at h ⊢
      exact ltT_total a b h
    · rw [if_neg (by simpa using e)] at h
      rw [if_neg (by simpa using fun z => e (Eq.symm z))]
      simp at h ⊢
      omega
abbrev leS (a b : Ev.Txt) : Prop := Ev.ltT b a = false
theorem insT_perm (i : Ev.Txt) : ∀ l : List Ev.Txt, (Ev.insT i l).Perm (i :: l)
  | [] => .refl _
  | j :: r => by
    rw [Ev.insT]
    split
    · exact .refl _
    · exact ((insT_perm i r).cons j).trans (.swap i j r)
theorem sortT_perm : ∀ l : List Ev.Txt, (Ev.sortT l).Perm l
  | [] => .refl _
  | i :: r => (insT_perm i _).trans ((sortT_perm r).cons i)
theorem insT_sorted (i : Ev.Txt) : ∀ l : List Ev.Txt, l.Pairwise leS → (Ev.insT i l).Pairwise leS
  | [], _ => by simp [Ev.insT]
  | j :: r, h => by
    rw [Ev.insT]
    rw [List.pairwise_cons] at h
    split
    · rename_i hij
      have hij : Ev.ltT j i = false := by simpa [Ev.leT] using hij
      refine List.pairwise_cons.mpr ⟨fun a ha => ?_, List.pairwise_cons.mpr h⟩
      rcases List.mem_cons.mp ha with rfl | ha
      · exact hij
      · exact ltT_trans hij (h.1 a ha)
    · rename_i hij
      have hij : Ev.ltT j i = true := by simpa [Ev.leT] using hij
      refine List.pairwise_cons.mpr ⟨fun a ha => ?_, insT_sorted i r h.2⟩
      rcases List.mem_cons.mp ((insT_perm i r).mem_iff.mp ha) with rfl | ha
      · exact ltT_total _ _ hij
      · exact h.1 a ha
theorem sortT_sorted : ∀ l : List Ev.Txt, (Ev.sortT l).Pairwise leS
  | [] => .nil
  | i :: r => insT_sorted i _ (sortT_sorted r)
theorem sortT_uniq {ns l : List Ev.Txt} (p : ns.Perm l) (h : ns.Pairwise leS) : ns = Ev.sortT l :=
  List.Perm.eq_of_pairwise (le := leS) (fun a b _ _ h1 h2 => ltT_anti h2 h1) h (sortT_sorted l) (p.trans (sortT_perm l).symm)
theorem ltT_lt (a b : Ev.Txt) : Ev.ltT a b = ltCps a b := by rw [ltT_cps, ltCps_eq]
theorem rising_pw : ∀ (l : List Str) (p : Str), risingS p l = true → (p.cps.toList :: l.map (·.cps.toList)).Pairwise leS
  | [], p, _ => by simp
  | x :: r, p, h => by
    change (!ltCps x.cps.toList p.cps.toList && risingS x r) = true at h
    rw [Bool.and_eq_true] at h
    have ih := rising_pw r x h.2
    have h1 : leS p.cps.toList x.cps.toList := by
      unfold leS
      rw [ltT_lt]
      simpa using h.1
    refine List.pairwise_cons.mpr ⟨fun a ha => ?_, ih⟩
    rcases List.mem_cons.mp ha with rfl | ha
    · exact h1
    · exact ltT_trans h1 ((List.pairwise_cons.mp ih).1 a ha)
theorem sortedS_pw (l : List Str) (h : sortedS l = true) : (l.map (·.cps.toList)).Pairwise leS := by
  cases l with
  | nil => exact .nil
  | cons x r => exact rising_pw r x h
/-! ### ints, texts, truths of a list -/
section
variable {K : PySem.W.Frag} {F : Hp}
theorem ints_rep : ∀ {ps : List Ev.PV} {ns : List Int} {vs : List V}, Ev.allInts ps = some ns → Reps K F ps vs → vs = ns.map V.int ∧ ps = ns.map .int
  | [], ns, [], e, _ => by
    simp [Ev.allInts] at e; subst e; exact ⟨rfl, rfl⟩
  | [], _, _ :: _, _, h => h.elim
  | _ :: _, _, [], _, h => h.elim
  | p :: ps, ns, v :: vs, e, h => by
    cases p <;> simp [Ev.allInts] at e
    obtain ⟨ms, e1, e2⟩ := e
    subst e2
    obtain ⟨h1, h2⟩ := ints_rep e1 h.2
    have h3 : v = V.int _ := h.1
    subst h1 h2 h3
    exact ⟨rfl, rfl⟩
theorem ints_back (ns : List Int) : Reps K F (ns.map .int) (ns.map V.int) := by
  induction ns with
  | nil => trivial
  | cons n ns ih => exact ⟨rfl, ih⟩
abbrev toS (s : Ev.Txt) : Str := ⟨s.toArray⟩
theorem strs_rep : ∀ {ps : List Ev.PV} {ns : List Ev.Txt} {vs : List V}, Ev.allStrs ps = some ns → Reps K F ps vs → vs = ns.map (fun s => V.str (toS s)) ∧ ps = ns.map .str ∧ ∀ s ∈ ns, okT s
  | [], ns, [], e, _ => by
    simp [Ev.allStrs] at e; subst e; exact ⟨rfl, rfl, fun _ h => nomatch h⟩
  | [], _, _ :: _, _, h => h.elim
  | _ :: _, _, [], _, h => h.elim
  | p :: ps, ns, v :: vs, e, h => by
    cases p <;> simp [Ev.allStrs] at e
    obtain ⟨ms, e1, e2⟩ := e
    subst e2
    obtain ⟨h1, h2, h4⟩ := strs_rep e1 h.2
    have h3 := h.1
    obtain ⟨h3, h5⟩ := h3
    subst h1 h2 h3
    refine ⟨rfl, rfl, fun s hs => ?_⟩
    rcases List.mem_cons.mp hs with rfl | hs
    · exact h5
    · exact h4 s hs
theorem strs_back {ns : List Ev.Txt} (h : ∀ s ∈ ns, okT s) : Reps K F (ns.map .str) (ns.map fun s => V.str (toS s)) := by
  induction ns with
  | nil => trivial
  | cons n ns ih => exact ⟨⟨rfl, h n List.mem_cons_self⟩, ih fun s hs => h s (List.mem_cons_of_mem _ hs)⟩
theorem bls_rep : ∀ {ps : List Ev.PV} {ns : List Bool} {vs : List V}, Ev.allBls ps = some ns → Reps K F ps vs → vs = ns.map V.bl
  | [], ns, [], e, _ => by
    simp [Ev.allBls] at e; subst e; rfl
  | [], _, _ :: _, _, h => h.elim
  | _ :: _, _, [], _, h => h.elim
  | p :: ps, ns, v :: vs, e, h => by
    cases p <;> simp [Ev.allBls] at e
    obtain ⟨ms, e1, e2⟩ := e
    subst e2
    have h1 := bls_rep e1 h.2
    have h3 : v = V.bl _ := h.1
    subst h1 h3
    rfl
/-- texts sorted by the machine are sortT's -/
theorem texts_sorted {ys : List Str} {ss : List Ev.Txt} (p : ys.Perm (ss.map toS)) (h : sortedS ys = true) : ys = (Ev.sortT ss).map toS := by
  have e : ys.map (·.cps.toList) = Ev.sortT ss := by
    refine sortT_uniq ?_ (sortedS_pw ys h)
    have := p.map (fun s : Str => s.cps.toList)
    rw [List.map_map] at this
    have e2 : ss.map ((fun s : Str => s.cps.toList) ∘ toS) = ss := by
      conv => rhs; rw [← List.map_id ss]
      apply List.map_congr_left
      intro a _
      simp [toS]
    rw [e2] at this
    exact this
  rw [← e, List.map_map]
  conv => lhs; rw [← List.map_id ys]
  apply List.map_congr_left
  intro a _
  simp [toS]
end
section
variable {X : L2.Cx} {Γ : Ev.Cx} {pos : Pos}
theorem sortT_ok {ss : List Ev.Txt} (h : ∀ s ∈ ss, okT s) : ∀ s ∈ Ev.sortT ss, okT s := fun s hs => h s ((sortT_perm ss).mem_iff.mp hs)
theorem keys_ints : ∀ {kvs : List (Key × V)} {is : List Int}, Ev.allInts (kvs.map fun p => keyPV p.1) = some is → kvs.map (·.1) = is.map Sum.inl
  | [], is, e => by simp [Ev.allInts] at e; subst e; rfl
  | p :: r, is, e => by
    obtain ⟨k, v⟩ := p
    cases k with
    | inl i =>
      simp [Ev.allInts, keyPV] at e
      obtain ⟨ms, e1, e2⟩ := e
      subst e2
      rw [List.map_cons, keys_ints e1]; rfl
    | inr x => simp [Ev.allInts, keyPV] at e
theorem keys_strs : ∀ {kvs : List (Key × V)} {is : List Ev.Txt}, Ev.allStrs (kvs.map fun p => keyPV p.1) = some is → kvs.map (·.1) = (is.map toS).map Sum.inr
  | [], is, e => by simp [Ev.allStrs] at e; subst e; rfl
  | p :: r, is, e => by
    obtain ⟨k, v⟩ := p
    cases k with
    | inl i => simp [Ev.allStrs, keyPV] at e
    | inr x =>
      simp [Ev.allStrs, keyPV] at e
      obtain ⟨ms, e1, e2⟩ := e
      subst e2
      rw [List.map_cons, keys_strs e1]
      simp [toS]
theorem keys_back {K : PySem.W.Frag} {F : Hp} : ∀ {kvs : List (Key × V)}, (∀ p ∈ kvs, okK p.1) → Reps K F (kvs.map fun p => keyPV p.1) (kvs.map fun p => kV p.1)
  | [], _ => trivial
  | p :: r, h => by
    refine ⟨?_, keys_back fun q hq => h q (List.mem_cons_of_mem _ hq)⟩
    have h1 := h p List.mem_cons_self
    obtain ⟨k, v⟩ := p
    cases k with
    | inl i => rfl
    | inr x => exact ⟨by simp [kV], h1⟩
/-! each -/
theorem cb_listOf (hc : X.calm = true) : CallR X (.type "list") (rCB X.K .listOf) := by
  refine CallR_imp (CallR.or call_list_of (call_listD hc)) ?_
  rintro xs H Q ⟨F, ps, v, s, bl, e, k⟩
  change Ev.sListOf ps = some v at e
  unfold Ev.sListOf at e
  split at e <;> cases e
  · obtain ⟨x, rfl, b⟩ := brep1 bl
    obtain ⟨a, vs, rfl, h1, r1⟩ := b.lstL s
    exact .inl ⟨a, vs, rfl, .inl h1, fun l hl => k _ _ (.mk s hl r1)⟩
  · obtain ⟨x, rfl, b⟩ := brep1 bl
    obtain ⟨a, vs, rfl, h1, r1⟩ := b.tupT s
    exact .inl ⟨a, vs, rfl, .inr h1, fun l hl => k _ _ (.mk s hl r1)⟩
  · obtain ⟨x, rfl, b⟩ := brep1 bl
    obtain ⟨a, kvs, rfl, ha, hk, hr, hks⟩ := b.dicD s
    subst hk
    exact .inr ⟨a, kvs, rfl, .inl ha, fun l hl => k _ _ (.mk s hl (keys_back hks))⟩
theorem cb_tupleOf : CallR X (.type "tuple") (rCB X.K .tupleOf) := by
  refine CallR_imp call_tuple_of ?_
  rintro xs H Q ⟨F, ps, v, s, bl, e, k⟩
  change Ev.sTupleOf ps = some v at e
  unfold Ev.sTupleOf at e
  split at e <;> cases e
  · obtain ⟨x, rfl, b⟩ := brep1 bl
    obtain ⟨a, vs, rfl, h1, r1⟩ := b.lstL s
    exact ⟨a, vs, rfl, .inl ⟨h1, fun l hl => k _ _ (.mk s hl r1)⟩⟩
  · obtain ⟨x, rfl, b⟩ := brep1 bl
    obtain ⟨a, vs, rfl, h1, r1⟩ := b.tupT s
    exact ⟨a, vs, rfl, .inr ⟨h1, k _ _ (.old s b.tup rfl)⟩⟩
theorem cb_sum (hc : X.calm = true) : CallR X (.builtin "sum") (rCB X.K .sum) := by
  refine CallR_imp (cr_sum hc) ?_
  rintro xs H Q ⟨F, ps, v, s, bl, e, k⟩
  change Ev.sSum ps = some v at e
  unfold Ev.sSum at e
  split at e
  · obtain ⟨x, rfl, b⟩ := brep1 bl
    obtain ⟨a, vs, rfl, h1, r1⟩ := b.lstL s
    rw [Option.map_eq_some_iff] at e
    obtain ⟨ns, e1, rfl⟩ := e
    obtain ⟨rfl, _⟩ := ints_rep e1 r1
    exact ⟨a, ns, rfl, h1, k _ _ (.old s rfl rfl)⟩
  · cases e
theorem cb_all (hc : X.calm = true) : CallR X (.builtin "all") (rCB X.K .all) := by
  refine CallR_imp (cr_all hc) ?_
  rintro xs H Q ⟨F, ps, v, s, bl, e, k⟩
  change Ev.sAll ps = some v at e
  unfold Ev.sAll at e
  split at e
  · obtain ⟨x, rfl, b⟩ := brep1 bl
    obtain ⟨a, vs, rfl, h1, r1⟩ := b.lstL s
    rw [Option.map_eq_some_iff] at e
    obtain ⟨ns, e1, rfl⟩ := e
    obtain rfl := bls_rep e1 r1
    exact ⟨a, ns, rfl, h1, k _ _ (.old s rfl rfl)⟩
  · cases e
theorem cb_any (hc : X.calm = true) : CallR X (.builtin "any") (rCB X.K .any) := by
  refine CallR_imp (cr_any hc) ?_
  rintro xs H Q ⟨F, ps, v, s, bl, e, k⟩
  change Ev.sAny ps = some v at e
  unfold Ev.sAny at e
  split at e
  · obtain ⟨x, rfl, b⟩ := brep1 bl
    obtain ⟨a, vs, rfl, h1, r1⟩ := b.lstL s
    rw [Option.map_eq_some_iff] at e
    obtain ⟨ns, e1, rfl⟩ := e
    obtain rfl := bls_rep e1 r1
    exact ⟨a, ns, rfl, h1, k _ _ (.old s rfl rfl)⟩
  · cases e
theorem maxI_ge : ∀ (l : List Int) (y : Int), y ∈ l → y ≤ Ev.maxI l
  | [i], y, h => by simp at h; subst h; simp [Ev.maxI]
  | i :: j :: r, y, h => by
    rw [Ev.maxI]
    · rcases List.mem_cons.mp h with rfl | h
      · omega
      · have := maxI_ge (j :: r) y h; omega
    · simp
theorem maxI_mem : ∀ (l : List Int), l ≠ [] → Ev.maxI l ∈ l
  | [i], _ => by simp [Ev.maxI]
  | i :: j :: r, _ => by
    rw [Ev.maxI]
    · have := maxI_mem (j :: r) (by simp)
      by_cases h : i ≤ Ev.maxI (j :: r)
      · rw [Int.max_eq_right h]; exact List.mem_cons_of_mem _ this
      · rw [Int.max_eq_left (by omega)]; exact List.mem_cons_self
    · simp
theorem cb_max1 (hc : X.calm = true) : CallR X (.builtin "max") (rCB X.K .max1) := by
  refine CallR_imp (cr_max hc) ?_
  rintro xs H Q ⟨F, ps, v, s, bl, e, k⟩
  change Ev.sMax1 ps = some v at e
  unfold Ev.sMax1 at e
  split at e
  · rename_i p ps
    obtain ⟨x, rfl, b⟩ := brep1 bl
    obtain ⟨a, vs, rfl, h1, r1⟩ := b.lstL s
    rw [Option.map_eq_some_iff] at e
    obtain ⟨ns, e1, rfl⟩ := e
    obtain ⟨rfl, e2⟩ := ints_rep e1 r1
    have hne : ns ≠ [] := fun z => by rw [z] at e2; cases e2
    refine ⟨a, ns, rfl, h1, List.length_pos_iff.mpr hne, fun m hm hall => ?_⟩
    have : m = Ev.maxI ns := Int.le_antisymm (maxI_ge ns m hm) (hall _ (maxI_mem ns hne))
    rw [this]
    exact k _ _ (.old s rfl rfl)
  · cases e
theorem cb_max2 (hc : X.calm = true) : CallR X (.builtin "max") (rCB X.K .max2) := by
  refine CallR_imp (call_max2 hc) ?_
  rintro xs H Q ⟨F, ps, v, s, bl, e, k⟩
  change Ev.sMax2 ps = some v at e
  unfold Ev.sMax2 at e
  split at e <;> cases e
  obtain ⟨x, y, rfl, b1, b2⟩ := brep2 bl
  rw [b1.int, b2.int]
  exact ⟨_, _, rfl, k _ _ (.old s rfl rfl)⟩
theorem cb_min2 (hc : X.calm = true) : CallR X (.builtin "min") (rCB X.K .min2) := by
  refine CallR_imp (call_min2 hc) ?_
  rintro xs H Q ⟨F, ps, v, s, bl, e, k⟩
  change Ev.sMin2 ps = some v at e
  unfold Ev.sMin2 at e
  split at e <;> cases e
  obtain ⟨x, y, rfl, b1, b2⟩ := brep2 bl
  rw [b1.int, b2.int]
  exact ⟨_, _, rfl, k _ _ (.old s rfl rfl)⟩
theorem cb_sorted (hc : X.calm = true) : CallR X (.builtin "sorted") (rCB X.K .sorted) := by
  refine CallR_imp (CallR.or cr_sortedI (CallR.or cr_sortedS (CallR.or (call_sortedD hc) (call_sortedDI hc)))) ?_
  rintro xs H Q ⟨F, ps, v, s, bl, e, k⟩
  change Ev.sSorted ps = some v at e
  unfold Ev.sSorted at e
  split at e
  · obtain ⟨x, rfl, b⟩ := brep1 bl
    obtain ⟨a, vs, rfl, h1, r1⟩ := b.lstL s
    split at e
    · rename_i is e1
      cases e
      obtain ⟨rfl, _⟩ := ints_rep e1 r1
      refine .inl ⟨a, is, rfl, h1, fun ns' p hp hs hn => ?_⟩
      rw [sortI_uniq hp hs]
      exact k _ _ (.mk s hn (ints_back _))
    · split at e <;> first | cases e | skip
      rename_i h64
      rw [Option.map_eq_some_iff] at e
      obtain ⟨ss, e1, rfl⟩ := e
      obtain ⟨e2, e3, ho⟩ := strs_rep e1 r1
      have hl : (ss.map toS).length < 64 := by
        have := congrArg List.length e3
        rw [List.length_map] at this ⊢
        omega
      refine .inr (.inl ⟨a, ss.map toS, rfl, by rw [List.map_map]; rw [e2] at h1; exact h1, hl, fun ys p hp hs hn => ?_⟩)
      rw [texts_sorted hp hs, List.map_map]
      exact k _ _ (.mk s hn (strs_back (sortT_ok ho)))
  · split at e <;> first | cases e | skip
    rename_i h64
    obtain ⟨x, rfl, b⟩ := brep1 bl
    obtain ⟨a, kvs, rfl, ha, hk, hr, hks⟩ := b.dicD s
    subst hk
    rw [Option.map_eq_some_iff] at e
    obtain ⟨ws, e1, rfl⟩ := e
    unfold Ev.sortV at e1
    split at e1
    · rename_i is e2
      cases e1
      have hki := keys_ints e2
      have hl : is.length < 64 := by
        have := congrArg List.length hki
        rw [List.length_map, List.length_map] at this
        rw [List.length_map] at h64
        omega
      refine .inr (.inr (.inr ⟨a, kvs, is, rfl, .inl ha, hki, hl, fun ns' p hp hs hn => ?_⟩))
      rw [sortI_uniq hp hs]
      exact k _ _ (.mk s hn (ints_back _))
    · rw [Option.map_eq_some_iff] at e1
      obtain ⟨ss, e2, rfl⟩ := e1
      have hki := keys_strs e2
      have hl : (ss.map toS).length < 64 := by
        have := congrArg List.length hki
        rw [List.length_map, List.length_map] at this
        rw [List.length_map] at h64
        omega
      have ho : ∀ s ∈ ss, okT s := fun s hs => by
        have h1 : Sum.inr (toS s) ∈ kvs.map (·.1) := by
          rw [hki]
          exact List.mem_map.mpr ⟨_, List.mem_map.mpr ⟨s, hs, rfl⟩, rfl⟩
        obtain ⟨q, hq, e3⟩ := List.mem_map.mp h1
        have := hks q hq
        rw [e3] at this
        simpa [okK, toS] using this
      refine .inr (.inr (.inl ⟨a, kvs, ss.map toS, rfl, .inl ha, hki, hl, fun ys p hp hs hn => ?_⟩))
      rw [texts_sorted hp hs, List.map_map]
      exact k _ _ (.mk s hn (strs_back (sortT_ok ho)))
  · cases e
end
end Sd
end
section
set_option Elab.async false
set_option linter.all false
set_option maxRecDepth 100000
set_option maxHeartbeats 4000000
set_option autoImplicit false
namespace Sd
open PySem PySem.Spec PyProof.Rows L2
section
variable {X : L2.Cx} {Γ : Ev.Cx} {pos : Pos}
/-! ### tests that are read off a value -/
theorem test_read {K : PySem.W.Frag} {c : Ev.CE} {nm : Bool} {fr : Ev.PV → Bool} {σ : L2.St} {H : Hp} {Q : Bool → Hp → Prop} (h : TX K (fun s => (Ev.evalE Γ c s).bind fun v s' => Ev.truth v s') nm RT σ H Q) :
    TX K (Ev.evalE Γ c) nm (RW K fr) σ H fun x H' => ∃ k, x = .bl k ∧ Q k H' := by
  obtain ⟨g, st, r, w⟩ := h
  rw [wpO_bind] at w
  refine ⟨g, st, r, wpO_mono w fun v st' w x H' g' r' ex rw' => ?_⟩
  rw [truth_ok] at w
  obtain ⟨k, rfl, w⟩ := w
  rcases rw' with z | ⟨a, o, e1, e2, e3, _⟩
  · exact ⟨k, z.1, w k H' g' r' ex rfl⟩
  · cases o <;> exact absurd e3 id
/-! ### chains -/
theorem chain_read {b1 b2 : Ev.Blt} {ca cb cz : Ev.CE} {σ : L2.St} {H : Hp} {Q : VK} (hz : Ev.calm cz = true)
    (h : TX X.K (Ev.evalE Γ (.chain b1 b2 [ca, cb] cz)) (Ev.calm (.chain b1 b2 [ca, cb] cz)) (RW X.K fun _ => false) σ H Q) :
    tChain (rS2 X.K b1) (rS2 X.K b2) (TX X.K (fun s => evalA1 Γ ca (Ev.calm cb) s) (Ev.calm ca) (RB X.K (Ev.calm cb))) (TX X.K (fun s => evalA1 Γ cb true s) (Ev.calm cb) (RB X.K true)) (TX X.K (Ev.evalE Γ cz) (Ev.calm cz) (RV X.K)) σ H Q := by
  have hn : Ev.calm (.chain b1 b2 [ca, cb] cz) = true → Ev.calm ca = true ∧ Ev.calm cb = true := fun h => by
    have : (Ev.calm ca = true ∧ Ev.calm cb = true) ∧ Ev.calm cz = true := by simpa [Ev.calm, Ev.calms] using h
    exact this.1
  have e : Ev.evalE Γ (.chain b1 b2 [ca, cb] cz) = fun s => (evalA1 Γ ca (Ev.calm cb) s).bind fun v s1 => (evalA1 Γ cb true s1).bind fun w s2 => (Ev.Out.ofOpt (Ev.sem b1 [v, w]) s2).bind fun t s3 => (Ev.truth t s3).bind fun k s4 =>
      if k then (Ev.evalE Γ cz s4).bind fun u s5 => Ev.Out.ofOpt (Ev.sem b2 [w, u]) s5 else .ok (.bl false) s4 := by
    funext s
    simp only [Ev.evalE, evalAs_cons, Ev.calms, Bool.and_true, Ev.evalAs, bind_assoc, bind_ok]
    rfl
  rw [e] at h
  refine TX_split h fun g p x H1 g1 st1 r1 e1 p1 w _ => ⟨g1, st1, r1, ?_⟩
  rw [wpO_bind] at w
  refine wpO_mono w fun q st2 w y H2 g2 r2 e2 p2 => ?_
  rw [wpO_bind, wpO_opt] at w
  obtain ⟨v, ev, w⟩ := w
  rw [wpO_bind, truth_ok] at w
  obtain ⟨k, rfl, w⟩ := w
  have bx : BRep X.K g2.F H2 p x := by
    cases hc : Ev.calm cb with
    | true => exact p1.1.mono e2.f (e2.h hc)
    | false => exact .inl ((p1.2 hc).mono e2.f)
  refine ⟨g2.F, p, q, .bl k, r2.sub, bx, p2.1, ev, fun z H' rs => ?_⟩
  obtain ⟨g3, r3, e3, d⟩ := Res.raw r2 rs
  have ez : z = .bl k := by
    rcases d with d | ⟨a, o, _, _, d, _⟩
    · exact d.1
    · cases o <;> exact absurd d id
  refine ⟨k, ez, ?_⟩
  have e13 : Ext g H g3 H' (Ev.calm (.chain b1 b2 [ca, cb] cz)) := (e1.trans e2 (fun n => (hn n).1) fun n => (hn n).2).trans e3 id fun _ => rfl
  cases k with
  | false =>
    rw [if_neg (by decide)]
    rw [if_neg (by decide)] at w
    exact w (.bl false) H' g3 r3 e13 (.inl ⟨rfl, rfl⟩)
  | true =>
    rw [if_pos rfl]
    rw [if_pos rfl, wpO_bind] at w
    refine ⟨g3, st2, r3, wpO_mono w fun u st5 w z2 H5 g5 r5 e5 p5 => ?_⟩
    rw [wpO_opt] at w
    obtain ⟨t, et, w⟩ := w
    refine ⟨g5.F, q, u, t, r5.sub, (p2.1.mono e3.f (e3.h rfl)).mono e5.f (e5.h hz), .inl p5, et, fun z3 H6 rs6 => ?_⟩
    obtain ⟨g6, r6, e6, d6⟩ := Res.raw r5 rs6
    refine w z3 H6 g6 r6 ((e13.trans e5 id fun _ => hz).trans e6 id fun _ => rfl) ?_
    rcases d6 with d6 | d6
    · exact .inl ⟨d6.1, rfl⟩
    · exact .inr d6
theorem eok_chain {op op' : CmpOp} {b1 b2 : Ev.Blt} {ea eb ez : Expr} {ca cb cz : Ev.CE} (ho : OpR X (compareOp op) (rS2 X.K b1)) (ho' : OpR X (compareOp op') (rS2 X.K b2)) (ha : EOk X Γ ea ca) (hb : EOk X Γ eb cb) (hc : EOk X Γ ez cz)
    (hz : Ev.calm cz = true) (hm : lastMarks [op, op'] [eb, ez] = false) : EOk X Γ (.Compare ea [op, op'] [eb, ez] pos) (.chain b1 b2 [ca, cb] cz) :=
  .of_raw (PE_imp (pe_chain ho ho' (ha.lent (Ev.calm cb)) (hb.lent true) hc.val hm) fun σ H Q h => chain_read hz h) rfl fun v h => nomatch h
theorem tok_chain {op op' : CmpOp} {b1 b2 : Ev.Blt} {ea eb ez : Expr} {ca cb cz : Ev.CE} (ho : OpR X (compareOp op) (rS2 X.K b1)) (ho' : OpR X (compareOp op') (rS2 X.K b2)) (ha : EOk X Γ ea ca) (hb : EOk X Γ eb cb) (hc : EOk X Γ ez cz)
    (hz : Ev.calm cz = true) (hm : lastMarks [op, op'] [eb, ez] = false) : TOk X Γ (.Compare ea [op, op'] [eb, ez] pos) (.chain b1 b2 [ca, cb] cz) :=
  PT_imp (pt_chain ho ho' (ha.lent (Ev.calm cb)) (hb.lent true) hc.val hm) fun σ H Q h => chain_read hz (test_read h)
/-! ### a slot's own container is changed -/
theorem R.upd {K : PySem.W.Frag} {g : Gh} {σ : L2.St} {H : Hp} {st : Ev.St} {i : Nat} {c c' : Ev.PV} {a : Addr} {o' : HO} (r : R K g σ H st) (e : st.get i = some (.own c)) (ha : σ[i]? = some (some (.ref a))) (h : ORep K g.F o' c') (hb : Ev.isBox c' = true) :
    R K g σ (upd H a o') (st.put i (.own c')) := by
  obtain ⟨x, h1, a', o, e1, e2, e3, e4, e5, e6, e7⟩ := r.slot i _ e
  rw [ha] at h1; cases h1
  cases e1
  have hi := r.get_lt e
  have nD : ∀ {A : Hp} {b : Addr} {u : HO}, A a = none → A b = some u → b ≠ a := fun h e z => by subst z; rw [h] at e; cases e
  refine ⟨r.sub.upd_out e5, by unfold Ev.St.put; rw [List.length_set]; exact r.len, fun j v q => ?_, fun j k v w y q1 q2 q3 q4 => ?_, r.old.upd_out e6, r.f0, r.new, r.ob, r.psub.upd_out e7, r.pf⟩
  · rw [get_put hi] at q
    by_cases hj : j = i
    · subst hj
      rw [if_pos rfl] at q; cases q
      exact ⟨_, ha, a, o', rfl, upd_same, h, hb, e5, e6, e7⟩
    · rw [if_neg hj] at q
      obtain ⟨y, h3, h4⟩ := r.slot j v q
      refine ⟨y, h3, ?_⟩
      cases v with
      | val p => exact h4
      | own p =>
        obtain ⟨b, u, f1, f2, f3⟩ := h4
        refine ⟨b, u, f1, ?_, f3⟩
        rw [upd_ne]
        · exact f2
        · intro z
          subst z
          exact hj (r.dis j i _ _ _ q e (by rw [h3, f1]) ha)
  · rw [get_put hi] at q1 q2
    have get' : ∀ {j v}, (if j = i then some (Ev.SV.own c') else st.get j) = some (.own v) → ∃ v', st.get j = some (.own v') := fun {j v} q => by
      by_cases hj : j = i
      · subst hj; exact ⟨c, e⟩
      · rw [if_neg hj] at q; exact ⟨v, q⟩
    obtain ⟨v', q1⟩ := get' q1
    obtain ⟨w', q2⟩ := get' q2
    exact r.dis j k _ _ y q1 q2 q3 q4
theorem own_at {K : PySem.W.Frag} {g : Gh} {σ : L2.St} {H : Hp} {st : Ev.St} {i : Nat} {c : Ev.PV} (r : R K g σ H st) (e : st.get i = some (.own c)) : ∃ a o, σ[i]? = some (some (.ref a)) ∧ H a = some o ∧ ORep K g.F o c ∧ Ev.isBox c = true := by
  obtain ⟨x, h1, a, o, e1, e2, e3, e4, _⟩ := r.slot i _ e
  subst e1
  exact ⟨a, o, h1, e2, e3, e4⟩
end
end Sd
end
section
set_option Elab.async false
set_option linter.all false
set_option maxRecDepth 100000
set_option maxHeartbeats 4000000
set_option autoImplicit false
namespace Sd
open PySem PySem.Spec PyProof.Rows L2
section
variable {X : L2.Cx} {Γ : Ev.Cx} {pos : Pos}
/-- x.append(e) -/
theorem eok_append {i : Nat} {x : Str} {p apos : Pos} {e : Expr} {c : Ev.CE} (hN : X.N[i]? = some x) (hv : Vis X.env.scope x) (hd : (x == ("__debug__" : Str)) = false) (hcd : (x == ("__classdict__" : Str)) = false)
    (he : EOk X Γ e c) (hn : notStar e = true) (hline : (apos.endLine == pos.line) = true) : EOk X Γ (.Call (.Attribute (.Name x p) "append" apos) [e] [] pos) (.mut .append i [c]) := by
  have hst : starEach [e] X.env = (false, eval e X.env) :: starEach [] X.env := star_cons hn
  refine .of_raw (PE_imp (pe_bm (cpos := pos) (T := "list") (id := "list.append") PySem.F.plainAttrs_list PySem.F.slot_list_append PySem.F.type_list_append mt_append (pe_var hN hv hd hcd) (pa_vals (.cons he hn .nil)) rfl (by rw [hst]; rfl) hline hst rfl) fun σ H Q ⟨g, st, r, w⟩ => ?_) rfl fun v h => nomatch h
  simp only [Ev.evalE] at w
  cases e0 : st.get i with
  | none => rw [e0] at w; exact w.elim
  | some sv =>
    rw [e0] at w
    cases sv with
    | val _ => exact w.elim
    | own c0 =>
      simp only at w
      by_cases hk : Ev.kindM .append c0 = true
      case neg => rw [if_neg hk] at w; exact w.elim
      rw [if_pos hk] at w
      obtain ⟨a, o, h1, h2, h3, h4⟩ := own_at r e0
      have hty : tyV X.K "list" (.ref a) H := by
        cases c0 <;> first | exact absurd hk Bool.false_ne_true | skip
        cases o <;> first | exact absurd h3 id | skip
        exact .inl ⟨rfl, _, SqL.of h2⟩
      refine ⟨_, h1, hty, g, st, r, ?_⟩
      rw [wpO_bind] at w
      refine wpO_mono w fun ps st1 w xs H1 g1 r1 e1 b1 => ?_
      cases e2 : st1.get i with
      | none => rw [e2] at w; exact w.elim
      | some sv =>
        rw [e2] at w
        cases sv with
        | val _ => exact w.elim
        | own c1 =>
          simp only at w
          rw [wpO_bind, wpO_opt] at w
          obtain ⟨⟨v, c2⟩, em, w⟩ := w
          obtain ⟨a', o', h1', h2', h3', h4'⟩ := own_at r1 e2
          rw [h1] at h1'; cases h1'
          unfold Ev.semMut at em
          split at em <;> first | cases em | skip
          all_goals first | (rename_i heq; cases heq; done) | skip
          rename_i us u heq
          split at em <;> cases em
          rename_i hz
          cases o' <;> first | exact absurd h3' id | skip
          rename_i vs
          match xs, b1 with
          | [y], b1 =>
            have hl := Reps.length (show Reps X.K g1.F us vs from h3')
            refine ⟨a, vs, y, rfl, rfl, h2', ?_, ?_⟩
            · rw [sizeLine_eq, ← hl]; exact hz
            · have r2 := r1.upd e2 h1 (o' := .lst (vs ++ [y])) (c' := .lst (us ++ [u])) (Reps.append h3' ⟨b1.1, trivial⟩) rfl
              exact w .non _ g1 r2 ⟨e1.f, e1.h0, e1.f0, e1.p, fun z => nomatch z⟩ (.inl ⟨rfl, rfl⟩)
/-- d = {} -/
theorem eok_dnew : EOk X Γ (.Dict [] [] pos) (.dsp [] []) := by
  refine .of_box (fun _ => rfl) rfl (PE_imp pe_dnewK fun σ H Q ⟨g, st, r, w⟩ => fun p hp => ?_)
  have e : Ev.evalE Γ (.dsp [] []) st = .ok (.dic [] []) st := rfl
  rw [e] at w
  have b1 : ORep X.K g.F (.dK []) (.dic [] []) := ⟨⟨rfl, fun _ h => nomatch h⟩, trivial⟩
  obtain ⟨g', r', ex, d⟩ := Res.raw r (Res.mk (fr := true) (v := .dic [] []) r.sub hp b1)
  refine w _ _ g' r' (Ext.refl.trans ex (fun z => z) fun _ => rfl) ⟨rfl, ?_⟩
  rcases d with d | d
  · exact absurd d.2 (by decide)
  · exact d
/-! ### stores -/
def rSetLD : TSet := fun o i v H Q => rSetL o i v H Q ∨ rSetD o i v H Q
theorem set_ld (hu : X.A.units + 1 < cLine) : PSet X rSetLD := fun pins s σ H o i v ov iv u Q I ro ri rv h => h.elim (set_list pins s σ H o i v ov iv u Q I ro ri rv) (set_dict hu pins s σ H o i v ov iv u Q I ro ri rv)
def isComp : Expr → Bool
  | .ListComp _ _ _ _ => true
  | .SetComp _ _ _ _ => true
  | .DictComp _ _ _ _ _ => true
  | _ => false
theorem sws_not {e : Expr} {tg : Expr} {l : Nat} {env : Env} (h : isComp e = false) : swapsWithSole [tg] e l env = pure false := by
  cases e <;> first | rfl | exact Bool.noConfusion h
theorem sw_not {e : Expr} {tg : Option Expr} {l : Nat} {env : Env} (h : isComp e = false) : swapsWith e tg l env = pure false := by
  cases e <;> first | rfl | exact Bool.noConfusion h
theorem sw_sub {e a b : Expr} {p : Pos} {l : Nat} {env : Env} : swapsWithSole [.Subscript a b p] e l env = pure false := by
  cases e <;> rfl
theorem sw_tup {e : Expr} {es : List Expr} {k : Nat} {p : Pos} {l : Nat} {env : Env} : swapsWithSole [.Tuple es k p] e l env = pure false := by
  cases e <;> rfl
theorem st_name {e : Expr} {x : Str} {p : Pos} {env : Env} : swappedStores [.Name x p] e env = pure none := by
  cases e <;> rfl
theorem st_sub {e a b : Expr} {p : Pos} {env : Env} : swappedStores [.Subscript a b p] e env = pure none := by
  cases e <;> rfl
def isTupE : Expr → Bool
  | .Tuple _ _ _ => true
  | _ => false
theorem st_tup {e : Expr} {es : List Expr} {k : Nat} {p : Pos} {env : Env} (h : isTupE e = false) : swappedStores [.Tuple es k p] e env = pure none := by
  cases e <;> first | rfl | exact Bool.noConfusion h
/-- x[k] = v -/
theorem sok_setI {i : Nat} {x : Str} {p tpos : Pos} {k v : Expr} {ck cv : Ev.CE} (hu : X.A.units + 66 < cLine) (hN : X.N[i]? = some x) (hvs : Vis X.env.scope x) (hd : (x == ("__debug__" : Str)) = false) (hcd : (x == ("__classdict__" : Str)) = false)
    (hk : EOk X Γ k ck) (hv : EOk X Γ v cv) (hs : notSl k = true) : SOk X Γ (.Assign [.Subscript (.Name x p) k tpos] v pos) (.setI i ck cv) := by
  refine PS_imp (ps_asg hv.val (pg_sub (pe_var hN hvs hd hcd) hk.val (set_ld (by omega)) (fun u => by cases k <;> first | rfl | exact absurd hs Bool.false_ne_true)) sw_sub st_sub rfl) fun D σ H ⟨g, st, r, w⟩ => ⟨g, st, r, ?_⟩
  simp only [Ev.exec] at w
  rw [wpO_bind] at w
  refine wpO_mono w fun pv st1 w y H1 g1 r1 e1 b1 => ?_
  cases e0 : st1.get i with
  | none => rw [e0] at w; exact w.elim
  | some sv =>
    rw [e0] at w
    cases sv with
    | val _ => exact w.elim
    | own c0 =>
      simp only at w
      obtain ⟨a, o, h1, _⟩ := own_at r1 e0
      refine ⟨_, h1, g1, st1, r1, ?_⟩
      rw [wpO_bind] at w
      refine wpO_mono w fun pk st2 w z H2 g2 r2 e2 b2 => ?_
      cases e3 : st2.get i with
      | none => rw [e3] at w; exact w.elim
      | some sv =>
        rw [e3] at w
        cases sv with
        | val _ => exact w.elim
        | own c =>
          simp only at w
          rw [wpO_bind, wpO_opt] at w
          obtain ⟨⟨rv, c2⟩, em, w⟩ := w
          obtain ⟨a', o', h1', h2', h3', h4'⟩ := own_at r2 e3
          rw [h1] at h1'; cases h1'
          have by' : Rep X.K g2.F pv y := Rep.mono e2.f b1
          have fin : ∀ {H4 : Hp}, R X.K g2 σ H4 (st2.put i (.own c2)) → D.nx σ H4 := fun {H4} r4 =>
            w σ H4 g2 r4 ⟨e1.f.trans e2.f, e2.h0.trans e1.h0, e2.f0.trans e1.f0, e2.p.trans e1.p, fun z => nomatch z⟩
          unfold Ev.semMut at em
          split at em <;> first | cases em | skip
          · rename_i heq; cases heq
          · rename_i ks ws kk vv _ heq
            cases heq
            split at em <;> cases em
            rename_i hz
            rw [Bool.and_eq_true, decide_eq_true_eq] at hz
            cases o' <;> first | exact absurd h3' id | skip
            rename_i kvs
            obtain ⟨key, rfl, rfl, hok⟩ := key_of_rep hz.1 b2
            have hl : kvs.length < sizeLine := by
              have h5 := congrArg List.length h3'.1.1
              rw [List.length_map] at h5
              rw [sizeLine_eq]
              have h6 := hz.2
              rw [h5] at h6
              exact h6
            refine .inr ⟨a, _, rfl, DPut.k h2' hl, fin (r2.upd e3 h1 (orep_put key hok h3' by') rfl)⟩
          · rename_i xs j vv _ heq
            cases heq
            rw [Option.map_eq_some_iff] at em
            obtain ⟨jj, e4, e5⟩ := em
            cases e5
            cases o' <;> first | exact absurd h3' id | skip
            rename_i vs
            have h3r : Reps X.K g2.F xs vs := h3'
            have b2' : z = .int j := b2
            have e6 : ixN vs.length j = some jj := by rw [← h3r.length]; exact e4
            exact .inl ⟨a, vs, j, jj, rfl, b2', h2', e6, fin (r2.upd e3 h1 (o' := .lst (vs.set jj y)) (h3r.set jj by') rfl)⟩
          · exact absurd ‹Ev.Mut.setItem = Ev.Mut.setdefault› (by decide)
/-! ### x op= e, of ints -/
def rAI (K : PySem.W.Frag) (b : Ev.Blt) : TIp := fun x y H Q => ∃ i j v, x = .int i ∧ y = .int j ∧ Ev.sem b [.int i, .int j] = some v ∧ ∃ k, v = .int k ∧ Q (.int k) H
def augOp : Ev.Blt → Option Operator
  | .add => some .Add
  | .sub => some .Sub
  | .mul => some .Mult
  | _ => none
theorem iop_mulA : OpR X (inplaceOp .Mult) (rI PySem.IntMulOk fun i j => .int (i * j)) := opI fun _ _ _ _ _ _ _ hc q => imul_int q hc
theorem ip_ai {b : Ev.Blt} {op : Operator} (h : augOp b = some op) : PIp X op (rAI X.K b) := by
  intro pins s σ H x y v u Q I rx ry q
  obtain ⟨i, j, v', rfl, rfl, e, k, rfl, q⟩ := q
  cases b <;> simp [augOp] at h <;> subst h
  · change Ev.sAdd [.int i, .int j] = _ at e
    simp [Ev.sAdd] at e
    exact iop_add pins s σ H _ _ v u Q I rx ry ⟨i, j, rfl, rfl, by show Q _ H; subst e; exact q⟩
  · change Ev.sSub [.int i, .int j] = _ at e
    simp [Ev.sSub] at e
    exact iop_sub pins s σ H _ _ v u Q I rx ry ⟨i, j, rfl, rfl, by show Q _ H; subst e; exact q⟩
  · change Ev.sMul [.int i, .int j] = _ at e
    simp [Ev.sMul] at e
    exact iop_mulA pins s σ H _ _ v u Q I rx ry ⟨i, j, rfl, rfl, mul_ok e.1, by obtain ⟨e1, e2⟩ := e; subst e2; exact q⟩
theorem sok_aug {i : Nat} {x : Str} {p : Pos} {e : Expr} {c : Ev.CE} {b : Ev.Blt} {op : Operator} (ho : augOp b = some op) (hN : X.N.Nodup) (hi : X.N[i]? = some x) (hx : Loc X.env.scope x) (hf : X.fn x = true ∨ X.env.scope.names.lookup x = some .local)
    (he : EOk X Γ e c) : SOk X Γ (.AugAssign (.Name x p) op e pos) (.aug i b c) := by
  refine PS_imp (ps_aug hN hi hx he.val (ip_ai ho) hf) fun D σ H ⟨g, st, r, w⟩ => ?_
  simp only [Ev.exec] at w
  split at w
  · rename_i a e0
    obtain ⟨y, h1, h2⟩ := r.slot i _ e0
    obtain rfl : y = .int a := h2
    refine ⟨_, h1, g, st, r, ?_⟩
    rw [wpO_bind] at w
    refine wpO_mono w fun v st1 w z H1 g1 r1 e1 b1 => ?_
    cases v with
    | int j =>
      simp only at w
      rw [wpO_bind, wpO_opt] at w
      obtain ⟨u, eu, w⟩ := w
      have hk : ∃ k, u = .int k := by
        cases b <;> simp [augOp] at ho
        · change Ev.sAdd [.int a, .int j] = _ at eu
          simp [Ev.sAdd] at eu; exact ⟨_, eu.symm⟩
        · change Ev.sSub [.int a, .int j] = _ at eu
          simp [Ev.sSub] at eu; exact ⟨_, eu.symm⟩
        · change Ev.sMul [.int a, .int j] = _ at eu
          simp [Ev.sMul] at eu; exact ⟨_, eu.2.symm⟩
      obtain ⟨k, rfl⟩ := hk
      by_cases hl : i < st1.sl.length
      · rw [if_pos hl] at w
        exact ⟨a, j, _, rfl, b1, eu, k, rfl, w _ H1 g1 (r1.putV hl (show Rep X.K g1.F (.int k) (.int k) from rfl)) (e1.trans .refl (fun z => nomatch z) fun z => rfl)⟩
      · rw [if_neg hl] at w; exact w.elim
    | _ => exact w.elim
  · exact w.elim
/-! ### a, b = e -/
theorem sok_asgT {es : List Expr} {k : Nat} {tp : Pos} {t : Ev.TG} {e : Expr} {c : Ev.CE} (hc : X.calm = true) (hN : X.N.Nodup) (ht : TGOk X (.Tuple es k tp) t) (he : EOk X Γ e c) (hw : swappedStores [.Tuple es k tp] e X.env = pure none) :
    SOk X Γ (.Assign [.Tuple es k tp] e pos) (.asgT t c) := by
  refine PS_imp (ps_asg he.val (pg_ok hc hN ht) sw_tup hw rfl) fun D σ H ⟨g, st, r, w⟩ => ⟨g, st, r, ?_⟩
  simp only [Ev.exec] at w
  rw [wpO_bind] at w
  refine wpO_mono w fun v st1 w y H1 g1 r1 e1 b1 => ?_
  rw [wpO_bind, wpO_opt] at w
  obtain ⟨st2, eb, w⟩ := w
  exact ⟨g1, st1, v, st2, r1, b1, eb, fun σ' r' _ => w σ' H1 g1 r' (e1.trans .refl (fun z => nomatch z) fun z => rfl)⟩
/-- a, b = x, y, stored from the right -/
theorem sok_par {i j : Nat} {x y : Str} {a b : Expr} {px py pt : Pos} {kt k2 : Nat} {pt2 : Pos} {ca cb : Ev.CE} (hc : X.calm = true) (hN : X.N.Nodup) (hi : X.N[i]? = some x) (hj : X.N[j]? = some y) (hij : i ≠ j)
    (hx : X.env.scope.names.lookup x = some .local) (hy : X.env.scope.names.lookup y = some .local) (h : EOks X Γ [a, b] [ca, cb])
    (hw : swappedStores [.Tuple [.Name x px, .Name y py] kt pt] (.Tuple [a, b] k2 pt2) X.env = pure (some [x, y])) : SOk X Γ (.Assign [.Tuple [.Name x px, .Name y py] kt pt] (.Tuple [a, b] k2 pt2) pos) (.par [i, j] [ca, cb]) := by
  refine PS_imp (ps_par hc hN hi hj hij hx hy (pa_vals h) hw sw_tup) fun D σ H ⟨g, st, r, w⟩ => ⟨g, st, r, ?_⟩
  simp only [Ev.exec] at w
  rw [wpO_bind] at w
  refine wpO_mono w fun ps st1 w vs H1 g1 r1 e1 b1 => ?_
  rw [wpO_bind, wpO_opt] at w
  obtain ⟨st2, eb, w⟩ := w
  match ps, vs, b1, eb with
  | [], _, _, eb => simp [Ev.putAll] at eb
  | [p], _, _, eb => simp [Ev.putAll] at eb
  | [p, q], [v, u], b1, eb =>
    simp only [Ev.putAll] at eb
    split at eb <;> first | cases eb | skip
    rename_i h1
    split at eb <;> cases eb
    rename_i h2
    exact ⟨v, u, rfl, w _ H1 g1 ((r1.putV h1 b1.1).putV h2 b1.2.1) (e1.trans .refl (fun z => nomatch z) fun z => rfl)⟩
  | p :: q :: r :: s, _, _, eb =>
    simp only [Ev.putAll] at eb
    split at eb <;> first | cases eb | skip
    split at eb <;> cases eb
/-- a, b = x, y, where y is new -/
theorem sok_parO {i j : Nat} {x y : Str} {a b : Expr} {px py pt : Pos} {kt k2 : Nat} {pt2 : Pos} {ca cb : Ev.CE} (hc : X.calm = true) (hN : X.N.Nodup) (hi : X.N[i]? = some x) (hj : X.N[j]? = some y) (hij : i ≠ j)
    (hx : X.env.scope.names.lookup x = some .local) (hy : X.env.scope.names.lookup y = some .local) (ha : EOk X Γ a ca) (na : notStar a = true) (hb : EOk X Γ b cb) (nb : notStar b = true)
    (hw : swappedStores [.Tuple [.Name x px, .Name y py] kt pt] (.Tuple [a, b] k2 pt2) X.env = pure (some [x, y])) : SOk X Γ (.Assign [.Tuple [.Name x px, .Name y py] kt pt] (.Tuple [a, b] k2 pt2) pos) (.parO i j ca cb) := by
  refine PS_imp (ps_par hc hN hi hj hij hx hy (pa_cons ha.val (pa_cons hb.fr pa_nil (star_cons nb)) (star_cons na)) hw sw_tup) fun D σ H ⟨g, st, r, w⟩ => ?_
  simp only [Ev.exec] at w
  rw [wpO_bind] at w
  refine ⟨g, st, r, wpO_mono w fun v st1 w x1 H1 g1 r1 e1 b1 => ?_⟩
  rw [wpO_bind] at w
  refine ⟨g1, st1, r1, wpO_mono w fun u st2 w y1 H2 g2 r2 e2 b2 => ?_⟩
  by_cases h1 : i < st2.sl.length
  · rw [if_pos h1] at w
    by_cases h2 : j < st2.sl.length
    · rw [if_pos h2] at w
      refine ⟨x1, y1, rfl, ?_⟩
      have r3 := (r2.putF h2 b2).putV (i := i) (by unfold Ev.St.put; rw [List.length_set]; exact h1) (Rep.mono e2.f b1)
      rw [List.set_comm _ _ (Ne.symm hij)] at r3
      exact w _ H2 g2 r3 (e1.trans e2 (fun z => nomatch z) fun z => nomatch z)
    · rw [if_neg h2] at w; exact w.elim
  · rw [if_neg h1] at w; exact w.elim
end
end Sd
end
section
set_option Elab.async false
set_option linter.all false
set_option maxRecDepth 100000
set_option maxHeartbeats 4000000
set_option autoImplicit false
namespace Sd
open PySem PySem.Spec PyProof.Rows L2
section
variable {X : L2.Cx} {Γ : Ev.Cx} {pos p : Pos}
/-! ### name = {..} on one line -/
theorem ps_setDc {i : Nat} {y : Str} {py : Pos} {kx vx tg iter : Expr} {ifs : List Expr} {scope : Scope} {own : List (Str × Nat)} {pos spos : Pos} {wi : TI} {g : TG} {tt : TT} {tk tv : TE} (hc : X.calm = true) (hN : X.N.Nodup) (hy : X.N[i]? = some y) (hyl : X.env.scope.names.lookup y = some .local)
    (hsw : swapsWith (.DictComp kx vx [⟨tg, iter, ifs, 0⟩] scope pos) (some (.Name y py)) spos.line X.env = pure true) (hi : PI X tg iter wi) (ok : BlkOk X.N X.env.scope scope own)
    (hg : ∀ (s : Shared) (H : Hp) (C : Addr) (cl : List (Str × Addr)) (fp : List Addr), PG (X.blk s H scope (compEnvC scope cl C X.env) fp) tg g) (ht : ∀ (s : Shared) (H : Hp) (C : Addr) (cl : List (Str × Addr)) (fp : List Addr), PTs (X.blk s H scope (compEnvC scope cl C X.env) fp) ifs tt)
    (hk : ∀ (s : Shared) (H : Hp) (C : Addr) (cl : List (Str × Addr)) (fp : List Addr), PE (X.blk s H scope (compEnvC scope cl C X.env) fp) kx tk)
    (he : ∀ (s : Shared) (H : Hp) (C : Addr) (cl : List (Str × Addr)) (fp : List Addr), PE (X.blk s H scope (compEnvC scope cl C X.env) fp) vx tv) (hs : ∀ x, foldedSetIterable iter X.env x = pure x) :
    PS X (.Assign [.Name y py] (.DictComp kx vx [⟨tg, iter, ifs, 0⟩] scope pos) spos) (tAsg (tDc wi g tt tk tv (own.map (·.2))) (gName i)) := by
  refine ⟨fun pins s σ H D I h => ?_⟩
  rw [exec_Assign_Name_used _ _ _ _ hsw]
  refine wpAny_bind (wpAny_standAt (wpAny_bind ?_))
  show wpAny _ X.A (do let _ ← comprehension (.DictComp kx vx [⟨tg, iter, ifs, 0⟩] scope pos) scope X.env (firstIterPos [⟨tg, iter, ifs, 0⟩] pos) newDict false (eval iter X.env) (some (assign (.Name y py) X.env))) _ _ s
  have h : tDc wi g tt tk tv (own.map (·.2)) σ H (fun x H1 => gName i x σ H1 D.nx) := h
  refine wpAny_bind (thn (dc_core (Qf := fun _ s' => SP X pins D .next s') hc hN I hi ok hg ht hk he hs h fun L C s' m H' I' q hn f => ?_) fun _ s' hq => wpAny_pure (wpAny_pure hq))
  show wpAny _ _ (assign (.Name y py) X.env (.ref L)) _ _ _
  refine wpAny_assign_Name (store_ok2 (v := V.ref L) I' hN hy (.inl hyl) rfl (fun s2 I2 ⟨a, sb, ha⟩ => ?_) (.inr hyl))
  obtain ⟨f0, f1, f2, f3, f4, f5⟩ := f
  have haC : C ≠ a := by
    rcases ha with z | z
    · rw [z]; exact f1
    · exact fun e => f4 y a z e.symm
  refine ⟨m, hn.sameBut sb haC, fun h3 sb3 => ?_⟩
  exact ⟨_, H', I2.turned (t' := s2.toks) (fun b o hb e => (sb3.2 b hb).trans e) f0 f1 f3 f4 f5, q⟩
theorem swok_dc {elt kx tg iter : Expr} {ifs : List Expr} {scope : Scope} {own : List (Str × Nat)} {t : Ev.TG} {sk : Ev.SK} {src cs : List Ev.CE} {e k : Ev.CE} (hc : X.calm = true) (hN : X.N.Nodup) (hi : PI X tg iter (TX X.K (srcM Γ (Ev.calm k && Ev.calm e && Ev.calms cs) sk src) (Ev.calms src) (RI X.K (Ev.calm k && Ev.calm e && Ev.calms cs)))) (ok : BlkOk X.N X.env.scope scope own) (hv : ∀ i ∈ slotsT t, i ∈ own.map (·.2))
    (hg : Blk X scope fun X' => TGOk X' tg t) (ht : Blk X scope fun X' => CsOk X' Γ ifs cs) (hk : Blk X scope fun X' => EOk X' Γ kx k) (he : Blk X scope fun X' => EOk X' Γ elt e) (hs : notSet iter = true) :
    SwOk X Γ (.DictComp kx elt [⟨tg, iter, ifs, 0⟩] scope pos) (.dcomp (own.map (·.2)) k e t sk src cs) :=
  fun i y py spos hy hl hsw => PS_imp (ps_setDc hc hN hy hl hsw hi ok (fun s H C cl fp => pg_ok (X := X.blk s H scope (compEnvC scope cl C X.env) fp) hc hN (hg s H C cl fp)) (fun s H C cl fp => (ht s H C cl fp).pts) (fun s H C cl fp => (hk s H C cl fp).val) (fun s H C cl fp => (he s H C cl fp).val) (folded_not hs)) fun D σ H q => dc_read (nm := false) rfl hv (fun z => nomatch z) (box_asg (fun _ => rfl) q)
/-! ### calls with defaults, with keywords -/
structure CallD (X : L2.Cx) (cf : List Ev.PV → Option Ev.SV) (x : Str) (np : Nat) (dps : List Ev.PV) : Prop where
  ex : ∃ (k : Nat) (f : Addr) (fd : FuncData) (ps : List Str) (dvs : List V) (ds : List Value), FnOk X.prog X.w X.K X.mg X.base CX0 k f fd ps (spOf X.K cf np) ∧ Room k X.A ∧ X.mg x = some (.ref f) ∧ PySem.W.keepIn X.K (.ref f) = true ∧ Binds X.K fd ps ds ∧ Vals dvs ds ∧ ∀ F, Reps X.K F dps dvs
structure CallK (X : L2.Cx) (cf : List Ev.PV → Option Ev.SV) (x : Str) (np n : Nat) (ks : List Str) : Prop where
  ex : ∃ (k : Nat) (f : Addr) (fd : FuncData) (ps : List Str) (g : List Value → List Value → List Value), FnOk X.prog X.w X.K X.mg X.base CX0 k f fd ps (spOf X.K cf np) ∧ Room k X.A ∧ X.mg x = some (.ref f) ∧ PySem.W.keepIn X.K (.ref f) = true ∧ KBn X.K fd ps n ks g (fun vs zs => vs ++ zs)
theorem evalVs_append : ∀ (a b : List Ev.CE) (s : Ev.St), Ev.evalVs Γ (a ++ b) s = (Ev.evalVs Γ a s).bind fun vs s' => (Ev.evalVs Γ b s').bind fun ws s'' => .ok (vs ++ ws) s''
  | [], b, s => by
    simp only [List.nil_append, Ev.evalVs, bind_ok]
    cases Ev.evalVs Γ b s <;> rfl
  | c :: a, b, s => by
    simp only [List.cons_append, Ev.evalVs, bind_assoc]
    congr 1
    funext v s1
    rw [evalVs_append a b s1]
    simp only [bind_assoc, bind_ok, List.cons_append]
theorem evalVs_lits : ∀ (ps : List Ev.PV) (s : Ev.St), Ev.evalVs Γ (ps.map .lit) s = .ok ps s
  | [], s => by simp [Ev.evalVs]
  | p :: ps, s => by
    rw [List.map_cons]
    simp only [Ev.evalVs, Ev.evalE]
    rw [bind_ok, evalVs_lits ps s]
    rfl
theorem calms_append : ∀ (a b : List Ev.CE), Ev.calms (a ++ b) = (Ev.calms a && Ev.calms b)
  | [], b => by simp [Ev.calms]
  | c :: a, b => by simp [Ev.calms, calms_append a b, Bool.and_assoc]
theorem calms_lits : ∀ (ps : List Ev.PV), Ev.calms (ps.map .lit) = true
  | [] => rfl
  | p :: ps => by simp [Ev.calms, Ev.calm, calms_lits ps]
theorem eok_of_fr {e : Expr} {f : Nat} {cs : List Ev.CE} (ff : PE X e (TX X.K (Ev.evalF Γ (.call f cs)) (Ev.calm (.call f cs)) (RF X.K))) : EOk X Γ e (.call f cs) := by
  have raw : PE X e (TX X.K (Ev.evalE Γ (.call f cs)) (Ev.calm (.call f cs)) (RW X.K (Ev.freshE (.call f cs)))) := by
    refine PE_imp ff fun σ H Q ⟨g, st, r, w⟩ => ⟨g, st, r, ?_⟩
    have e1 : Ev.evalE Γ (.call f cs) st = (Ev.evalF Γ (.call f cs) st).bind fun r s'' => .ok r.v s'' := by
      show (Ev.evalVs Γ cs st).bind _ = ((Ev.evalVs Γ cs st).bind _).bind _
      rw [bind_assoc]
    rw [e1, wpO_bind] at w
    exact wpO_mono w fun v st' z y H' g' r' ex rf => z y H' g' r' ex (rf_rw rf)
  exact ⟨raw, ff, fun cr => pe_lend (pe_share raw)⟩
theorem eok_callD {f np : Nat} {x : Str} {es : List Expr} {cs : List Ev.CE} {dps : List Ev.PV} (F : CallD X (Γ.call f) x np dps) (hg : Gl X x) (hdb : (x == ("__debug__" : Str)) = false) (h : EOks X Γ es cs) (hl : cs.length + dps.length = np) (hne : es ≠ []) :
    EOk X Γ (.Call (.Name x p) es [] pos) (.call f (cs ++ dps.map .lit)) := by
  obtain ⟨k, fa, fd, ps, dvs, ds, F1, hr, hm, hk, hb, hd, hD⟩ := F.ex
  refine eok_of_fr ?_
  cases es with
  | nil => exact absurd rfl hne
  | cons e es =>
    cases h with
    | cons he hn hes =>
      rename_i c cs
      refine PE_imp (pe_call F1 hr hg hm hk hb hd pass0' (pa_vals (.cons he hn hes)) hdb (star_cons hn) (back_any (hes.star _))) fun σ H Q q => ?_
      have e1 : Ev.evalF Γ (.call f (c :: cs ++ dps.map .lit)) = fun s => (Ev.evalVs Γ (c :: cs) s).bind fun vs s' => Ev.Out.ofOpt (Γ.call f (vs ++ dps)) s' := by
        funext s
        show (Ev.evalVs Γ (c :: cs ++ dps.map .lit) s).bind _ = _
        rw [evalVs_append, bind_assoc]
        congr 1
        funext vs s'
        rw [evalVs_lits]; rfl
      have ec : Ev.calm (.call f (c :: cs ++ dps.map .lit)) = Ev.calms (c :: cs) := by
        show Ev.calms (c :: cs ++ dps.map .lit) = _
        rw [calms_append, calms_lits, Bool.and_true]
      rw [e1, ec] at q
      refine TX_split q fun g qs xs H1 g1 st1 r1 e1 b1 w ⟨st, em⟩ => ?_
      rw [wpO_opt] at w
      obtain ⟨r, er, w⟩ := w
      refine ⟨g1.F, qs ++ dps, r, r1.sub, Reps.append b1 (hD _), by rw [List.length_append, evalVs_len _ _ _ _ em]; exact hl, er, fun z F' H' bk rv => ?_⟩
      obtain ⟨g', r', ex, d⟩ := bk.ret r1 rv
      exact w z H' g' r' (e1.trans ex (fun z => z) fun _ => rfl) d
theorem scalar_rep {K : PySem.W.Frag} {F F2 : Hp} {p : Ev.PV} {z : V} (h : Ev.scalar p = true) (r : Rep K F p z) : Rep K F2 p z := by
  cases p <;> first | exact r | exact Bool.noConfusion h
/-- f(x, ..), x only lent: the answer is a plain thing -/
theorem eok_callL {f np i : Nat} {x y : Str} {q : Pos} {es : List Expr} {cs : List Ev.CE} (F : CallD X (Γ.call f) x np []) (hg : Gl X x) (hdb : (x == ("__debug__" : Str)) = false) (hN : X.N[i]? = some y) (hv : Vis X.env.scope y) (hd : (y == ("__debug__" : Str)) = false) (hcd : (y == ("__classdict__" : Str)) = false)
    (h : EOks X Γ es cs) (hl : cs.length + 1 = np) : EOk X Γ (.Call (.Name x p) (.Name y q :: es) [] pos) (.callL f i cs) := by
  obtain ⟨k, fa, fd, ps, dvs, ds, F1, hr, hm, hk, hb, hdv, hD⟩ := F.ex
  have hdn : dvs = [] := by
    have := hD (fun _ => none)
    cases dvs with
    | nil => rfl
    | cons _ _ => exact this.elim
  subst hdn
  refine .of_raw (PE_imp (pe_call F1 hr hg hm hk hb hdv pass0' (pa_cons (pe_var hN hv hd hcd) (pa_vals h) rfl) hdb rfl (back_any (h.star _))) fun σ H Q ⟨g, st, r, w⟩ => ?_) rfl fun v h => nomatch h
  simp only [Ev.evalE] at w
  cases e0 : st.get i with
  | none => rw [e0] at w; exact w.elim
  | some sv =>
    rw [e0] at w
    simp only at w
    obtain ⟨y0, h1, _⟩ := r.slot i _ e0
    rw [wpO_bind] at w
    cases em : Ev.evalVs Γ cs st with
    | exc _ _ => rw [em] at w; exact w.elim
    | no => rw [em] at w; exact w.elim
    | ok qs st1 =>
      rw [em] at w
      refine ⟨y0, h1, g, st, r, ?_⟩
      rw [em]
      intro xs H1 g1 r1 e1 b1
      change wpO (match st1.get i with
        | some v => (Ev.Out.ofOpt (Γ.call f (v.v :: qs)) st1).bind fun r s'' => if Ev.scalar r.v = true then .ok r.v s'' else .no
        | none => .no) _ at w
      cases e2 : st1.get i with
      | none => rw [e2] at w; exact w.elim
      | some v =>
        rw [e2] at w
        simp only at w
        rw [wpO_bind, wpO_opt] at w
        obtain ⟨rv, er, w⟩ := w
        obtain ⟨y1, h2, h3⟩ := r1.slot i _ e2
        rw [h1] at h2; cases h2
        have hsc : Ev.scalar rv.v = true := by
          cases hs : Ev.scalar rv.v with
          | true => rfl
          | false => rw [hs] at w; exact w.elim
        rw [hsc, if_pos rfl] at w
        have b1' : Reps X.K g1.F qs xs := b1
        have lq := evalVs_len _ _ _ _ em
        have fin : ∀ (Fx : Hp), Sub g1.F Fx → ∀ z F' H', Back X.K Fx H1 F' H' → RetV X.K H1 F' H' rv z → Q z H' := fun Fx sx z F' H' bk rt => by
          have w2 : Grow g1.F H1 g1.F H' := ⟨.refl _, r1.sub.trans bk.h, bk.h, fun a o h => .inl h⟩
          refine w z H' _ (r1.grow w2) (e1.trans w2.ext (fun z => z) fun _ => rfl) (.inl ⟨?_, rfl⟩)
          cases rv with
          | val pp => exact scalar_rep hsc rt
          | own pp =>
            obtain ⟨_, _, _, _, _, hbx, _⟩ := rt
            cases pp <;> first | exact Bool.noConfusion hsc | exact Bool.noConfusion hbx
        rw [List.append_nil]
        cases v with
        | val pp => exact ⟨g1.F, pp :: qs, rv, r1.sub, ⟨h3, b1'⟩, by rw [List.length_cons, lq]; exact hl, er, fin g1.F (.refl _)⟩
        | own pp =>
          obtain ⟨a, o, rfl, f2, f3, f4, f5, f6, f7⟩ := h3
          have up : Sub g1.F (upd g1.F a o) := Sub.upd_new f5
          have sb : Sub (upd g1.F a o) H1 := fun b u e => by
            by_cases q : b = a
            · subst q; rw [upd_same] at e; cases e; exact f2
            · rw [upd_ne q] at e; exact r1.sub b u e
          exact ⟨upd g1.F a o, pp :: qs, rv, sb, ⟨(f3.mono up).rep upd_same, b1'.mono up⟩, by rw [List.length_cons, lq]; exact hl, er, fin _ up⟩
/-- keywords, one by one -/
inductive KOks (X : L2.Cx) (Γ : Ev.Cx) : List Keyword → List Str → List Ev.CE → Prop
  | nil : KOks X Γ [] [] []
  | cons {nm : Str} {e : Expr} {kp : Pos} {kws : List Keyword} {ks : List Str} {c : Ev.CE} {cs : List Ev.CE} : EOk X Γ e c → KOks X Γ kws ks cs → KOks X Γ (⟨some nm, e, kp⟩ :: kws) (nm :: ks) (c :: cs)
theorem PK_imp {kws : List Keyword} {t t' : TA} (h : PK X kws t) (k : ∀ σ H Q, t' σ H Q → t σ H Q) : PK X kws t' :=
  ⟨fun pos pins s σ H Q I q => h.run pos pins s σ H Q I (k σ H Q q)⟩
theorem pk_vals {kws : List Keyword} {ks : List Str} {cs : List Ev.CE} (h : KOks X Γ kws ks cs) : PK X kws (TX X.K (Ev.evalVs Γ cs) (Ev.calms cs) (RVs X.K)) := by
  induction h with
  | nil =>
    refine PK_imp pk_nil fun σ H Q ⟨g, st, r, w⟩ => ?_
    exact w [] H g r .refl trivial
  | @cons nm e kp kws ks c cs h hs ih =>
    refine PK_imp (pk_cons h.val ih) fun σ H Q q => ?_
    have e : Ev.evalVs Γ (c :: cs) = fun s => (Ev.evalE Γ c s).bind fun v s' => (Ev.evalVs Γ cs s').bind fun vs s'' => .ok (v :: vs) s'' := by
      funext s
      rw [Ev.evalVs]
    rw [e] at q
    refine TX_split q fun g p x H1 g1 st1 r1 e1 b1 w _ => ⟨g1, st1, r1, ?_⟩
    rw [wpO_bind] at w
    refine wpO_mono w fun ps st2 w xs H2 g2 r2 e2 b2 => ?_
    refine w (x :: xs) H2 g2 r2 (e1.trans e2 (fun z => ?_) fun z => ?_) ⟨Rep.mono e2.f b1, b2⟩
    · simp only [Ev.calms, Bool.and_eq_true] at z; exact z.1
    · simp only [Ev.calms, Bool.and_eq_true] at z; exact z.2
theorem KOks.names {kws : List Keyword} {ks : List Str} {cs : List Ev.CE} (h : KOks X Γ kws ks cs) (pos : Pos) (env : Env) :
    (backToKw pos (keywordEach kws env)).all (·.1.isSome) = true ∧ (backToKw pos (keywordEach kws env)).filterMap (·.1) = ks ∧ (backToKw pos (keywordEach kws env)).any (·.1.isNone) = false := by
  induction h with
  | nil => exact ⟨rfl, rfl, rfl⟩
  | @cons nm e kp kws ks c cs h hs ih =>
    obtain ⟨h1, h2, h3⟩ := ih
    refine ⟨?_, ?_, ?_⟩
    · show (true && (backToKw pos (keywordEach kws env)).all (·.1.isSome)) = true
      rw [h1]; rfl
    · show nm :: (backToKw pos (keywordEach kws env)).filterMap (·.1) = _
      rw [h2]
    · show (false || (backToKw pos (keywordEach kws env)).any (·.1.isNone)) = false
      rw [h3]; rfl
theorem KOks.len {kws : List Keyword} {ks : List Str} {cs : List Ev.CE} (h : KOks X Γ kws ks cs) : cs.length = ks.length := by
  induction h with
  | nil => rfl
  | cons _ _ ih => rw [List.length_cons, List.length_cons, ih]
theorem eok_callK {f np n : Nat} {x : Str} {es : List Expr} {cs ck : List Ev.CE} {kws : List Keyword} {ks : List Str} (F : CallK X (Γ.call f) x np n ks) (hg : Gl X x) (hdb : (x == ("__debug__" : Str)) = false) (h : EOks X Γ es cs) (hk : KOks X Γ kws ks ck) (hl : cs.length = n) (hnp : n + ks.length = np) (hne : es ≠ []) :
    EOk X Γ (.Call (.Name x p) es kws pos) (.call f (cs ++ ck)) := by
  obtain ⟨k, fa, fd, ps, g, F1, hr, hm, hkp, hb⟩ := F.ex
  refine eok_of_fr ?_
  cases es with
  | nil => exact absurd rfl hne
  | cons e es =>
    cases h with
    | cons he hn hes =>
      rename_i c cs
      obtain ⟨k1, k2, k3⟩ := hk.names pos X.env
      have hpl : ((backTo pos (starEach (e :: es) X.env)).any (·.1) || (backToKw pos (keywordEach kws X.env)).any (·.1.isNone)) = false := by
        rw [back_any (EOks.star (.cons he hn hes) _), k3]; rfl
      refine PE_imp (pe_callN F1 hr hg hm hkp hb pass0' (pa_vals (.cons he hn hes)) (pk_vals hk) k1 k2 hdb (star_cons hn) hpl) fun σ H Q q => ?_
      have e1 : Ev.evalF Γ (.call f (c :: cs ++ ck)) = fun s => (Ev.evalVs Γ (c :: cs) s).bind fun vs s' => (Ev.evalVs Γ ck s').bind fun ws s'' => Ev.Out.ofOpt (Γ.call f (vs ++ ws)) s'' := by
        funext s
        show (Ev.evalVs Γ (c :: cs ++ ck) s).bind _ = _
        rw [evalVs_append, bind_assoc]
        congr 1
        funext vs s'
        rw [bind_assoc]; rfl
      have ec : Ev.calm (.call f (c :: cs ++ ck)) = (Ev.calms (c :: cs) && Ev.calms ck) := by
        show Ev.calms (c :: cs ++ ck) = _
        rw [calms_append]
      rw [e1, ec] at q
      refine TX_split q fun g qs xs H1 g1 st1 r1 e1 b1 w ⟨st, em⟩ => ⟨g1, st1, r1, ?_⟩
      rw [wpO_bind] at w
      cases e2 : Ev.evalVs Γ ck st1 with
      | exc _ _ => rw [e2] at w; exact w.elim
      | no => rw [e2] at w; exact w.elim
      | ok ws st2 =>
        rw [e2] at w
        intro zs H2 g2 r2 ex2 b2
        change wpO (Ev.Out.ofOpt (Γ.call f (qs ++ ws)) st2) _ at w
        rw [wpO_opt] at w
        obtain ⟨r, er, w⟩ := w
        have l1 := evalVs_len _ _ _ _ em
        have l2 := evalVs_len _ _ _ _ e2
        have b1' : Reps X.K g1.F qs xs := b1
        have b2' : Reps X.K g2.F ws zs := b2
        refine ⟨by rw [← b1'.length, l1]; exact hl, by rw [← b2'.length, l2]; exact hk.len, g2.F, qs ++ ws, r, r2.sub, (b1'.mono ex2.f).append b2', by rw [List.length_append, l1, l2, hl, hk.len]; exact hnp, er, fun z F' H' bk rv => ?_⟩
        obtain ⟨g', r', ex, d⟩ := bk.ret r2 rv
        exact w z H' g' r' ((e1.trans ex2 (fun z => by rw [Bool.and_eq_true] at z; exact z.1) fun z => by rw [Bool.and_eq_true] at z; exact z.2).trans ex (fun z => z) fun _ => rfl) d
/-! ### enumerate -/
theorem range_ints {K : PySem.W.Frag} {F : Hp} (n : Nat) : Reps K F ((List.range n).map fun (i : Nat) => Ev.PV.int i) ((List.range n).map fun (i : Nat) => V.int i) := by
  have : ∀ l : List Nat, Reps K F (l.map fun (i : Nat) => Ev.PV.int i) (l.map fun (i : Nat) => V.int i) := fun l => by
    induction l with
    | nil => trivial
    | cons a l ih => exact ⟨rfl, ih⟩
  exact this _
theorem pi_enumL {es : List Expr} {kk : Nat} {tpos : Pos} {a : Expr} {c : Ev.CE} {p pos : Pos} (b : Bool) (hg : Gl X "enumerate") (hm : X.mg "enumerate" = none) (h : EOk X Γ a c) (hn : notStar a = true)
    (ht : PI X (.Tuple es kk tpos) (.Call (.Name "enumerate" p) [a] [] pos) (fun σ H R => (TX X.K (fun s => if b then Ev.evalAs Γ [c] s else Ev.evalVs Γ [c] s) (Ev.calms [c]) (RLs X.K b) σ H fun vs H1 => ∃ a xs, vs = [.ref a] ∧ ((SqL X.K H1 a xs ∧ R (Ite X.K a) H1) ∨ (SqT X.K H1 a xs ∧ ∀ J : It, (∀ H', SqT X.K H' a xs → J.stop xs.length H' ∧ ∀ i, i < xs.length → J.go i H' ∧ ∀ x H'', J.yld i H' x H'' → ∃ T x1, x = .ref T ∧ H' T = none ∧ H'' = upd H' T (.tup [.int (i : Nat), x1]) ∧ xs[i]? = some x1) → R J H1)))) ) :
    PI X (.Tuple es kk tpos) (.Call (.Name "enumerate" p) [a] [] pos) (TX X.K (srcM Γ b .enum [c]) (Ev.calms [c]) (RI X.K b)) := by
  refine pi_of ht fun σ H R q => TX_post q fun vs H1 w => ?_
  obtain ⟨F, qs, xs, sb, bl, bs, hl, ex, k⟩ := w
  match qs, bl, bs, hl, ex with
  | [p], bl, bs, hl, ex =>
    obtain ⟨x, rfl, bx⟩ := brep1 bl
    cases p <;> simp [Ev.items] at ex
    all_goals subst ex
    · rename_i ps
      obtain ⟨a1, v1, rfl, r1, q1, k1⟩ := stay_tup sb bx
      refine ⟨a1, v1, rfl, .inr ⟨q1, fun J hJ => k J ?_⟩⟩
      have hlen := r1.length
      refine it_pair (F := F) (range_ints ps.length) r1 fun F' H' s1 s2 s3 => ?_
      obtain ⟨j1, j2⟩ := hJ H' (k1 F' H' s1 s2)
      have hmin : min ((List.range ps.length).map fun (i : Nat) => V.int i).length v1.length = v1.length := by simp [hlen]
      rw [hmin]
      refine ⟨j1, fun i hi => ⟨(j2 i hi).1, fun x H'' y => ?_⟩⟩
      obtain ⟨T, x1, e1, e2, e3, e4⟩ := (j2 i hi).2 x H'' y
      exact ⟨T, .int (i : Nat), x1, e1, e2, e3, by simp [show i < ps.length by omega], e4⟩
    · rename_i ps
      obtain ⟨a1, v1, rfl, r1, q1, k1⟩ := stay_list sb bx fun z => (bs z).1
      refine ⟨a1, v1, rfl, .inl ⟨q1, k _ ?_⟩⟩
      have hlen := r1.length
      refine it_pair (F := F) (range_ints ps.length) r1 fun F' H' s1 s2 s3 => ?_
      have u1 := k1 F' H' s1 s2 s3
      have hmin : min ((List.range ps.length).map fun (i : Nat) => V.int i).length v1.length = v1.length := by simp [hlen]
      rw [hmin]
      refine ⟨⟨v1, u1, Nat.le_refl _⟩, fun i hi => ⟨⟨v1, v1[i], u1, by simp [hi]⟩, fun x H'' y => ?_⟩⟩
      obtain ⟨T, x1, e1, e2, e3, e4⟩ := y
      exact ⟨T, .int (i : Nat), x1, e1, e2, e3, by simp [show i < ps.length by omega], e4 _ u1⟩
end
end Sd
end
section
set_option Elab.async false
set_option linter.all false
set_option maxRecDepth 100000
set_option maxHeartbeats 4000000
set_option autoImplicit false
namespace Sd
open PySem PySem.Spec PyProof.Rows L2
/-! ### from a def's text to core code -/
structure DfI where
  nm : Str
  ix : Nat
  np : Nat
  dps : List Ev.PV
structure KwI where
  nm : Str
  ix : Nat
  np : Nat
  n : Nat
  ks : List Str
structure SC where
  sc : Scope
  ws : Scope
  N : List Str
  defs : List DfI
  kws : List KwI
  gl : List (Str × Ev.PV)
  bl : List Str
  ln : List Str
def idx : List Str → Str → Option Nat
  | [], _ => none
  | y :: r, x => if y = x then some 0 else (idx r x).map (· + 1)
theorem idx_ok : ∀ {N : List Str} {x : Str} {i : Nat}, idx N x = some i → N[i]? = some x
  | [], _, _, h => nomatch h
  | y :: r, x, i, h => by
    unfold idx at h
    split at h
    · cases h
      rename_i e
      subst e; rfl
    · rw [Option.map_eq_some_iff] at h
      obtain ⟨j, h1, rfl⟩ := h
      simpa using idx_ok h1
def okN (x : Str) : Bool := !(x == ("__debug__" : Str)) && !(x == ("__classdict__" : Str)) && !decide (x = ("__name__" : Str))
def visB (sc : Scope) (x : Str) : Bool :=
  match sc.names.lookup x with
  | some .local => true
  | some .cell => true
  | some .free => true
  | _ => false
def locB (sc : Scope) (x : Str) : Bool :=
  match sc.names.lookup x with
  | some .local => true
  | some .cell => true
  | _ => false
def glB (sc : Scope) (x : Str) : Bool := decide (sc.names.lookup x = some .globalImplicit)
def SC.fnB (S : SC) (x : Str) : Bool := (S.ws.names.lookup x == some .cell) || decide (S.sc.names.lookup x = some .local)
def SC.var (S : SC) (x : Str) : Option Nat := if okN x && visB S.sc x then idx S.N x else none
def SC.st (S : SC) (x : Str) : Option Nat := if okN x && locB S.sc x && S.fnB x then idx S.N x else none
def SC.bln (S : SC) (x : Str) : Bool := okN x && glB S.sc x && decide (x ∈ S.bl)
def noC : Ev.CE := .attr (.lit .non) 0
def isNo : Ev.CE → Bool
  | .attr _ _ => true
  | _ => false
def typeN (x : Str) : Option Nat :=
  if x = ("str" : Str) then some 0 else if x = ("int" : Str) then some 1 else if x = ("bool" : Str) then some 2 else if x = ("tuple" : Str) then some 3 else if x = ("list" : Str) then some 4 else if x = ("dict" : Str) then some 5 else none
def binB : Operator → Option Ev.Blt
  | .Add => some .add
  | .Sub => some .sub
  | .Mult => some .mul
  | .FloorDiv => some .fdiv
  | .Mod => some .mod
  | .Pow => some .pow
  | _ => none
def cmpB : CmpOp → Ev.Blt
  | .Eq => .eq
  | .NotEq => .ne
  | .Lt => .lt
  | .LtE => .le
  | .Gt => .gt
  | .GtE => .ge
  | .Is => .isN
  | .IsNot => .notN
  | .In => .inn
  | .NotIn => .nin
def bltF (x : Str) (n : Nat) : Option Ev.Blt :=
  match n with
  | 1 => if x = ("len" : Str) then some .len else if x = ("int" : Str) then some .toInt else if x = ("list" : Str) then some .listOf else if x = ("tuple" : Str) then some .tupleOf else if x = ("sum" : Str) then some .sum
    else if x = ("all" : Str) then some .all else if x = ("any" : Str) then some .any else if x = ("max" : Str) then some .max1 else if x = ("min" : Str) then some .min1 else if x = ("sorted" : Str) then some .sorted else none
  | 2 => if x = ("isinstance" : Str) then some .isInst else if x = ("max" : Str) then some .max2 else if x = ("min" : Str) then some .min2 else none
  | _ => none
def tst : Expr → Ev.CE → Bool
  | .IfExp _ _ _ _, _ => false
  | .UnaryOp .Not _ _, .bi .not [.var _] => false
  | _, _ => true
def optAll {α : Type} : List (Option α) → Option (List α)
  | [] => some []
  | none :: _ => none
  | some a :: r => (optAll r).map (a :: ·)
def cTG : Nat → SC → Expr → Option Ev.TG
  | n + 1, S, .Name x _ => (S.st x).map .nm
  | n + 1, S, .Tuple es _ _ => (optAll (es.map (cTG n S))).map .tp
  | _, _, _ => none
def ownOf (N : List Str) (scope : Scope) : List (Str × Nat) := scope.names.filterMap fun y =>
  match y.2 with
  | .local => (idx N y.1).map fun i => (y.1, i)
  | .cell => (idx N y.1).map fun i => (y.1, i)
  | _ => none
def SC.blk (S : SC) (scope : Scope) : SC := { S with sc := L2.relS scope S.sc, ws := scope }
def okArgs (es : List Expr) : Bool := es.all notStar && decide (es.length ≤ 1000)
def isT : Expr → Bool
  | .Tuple _ _ _ => true
  | _ => false
def kwNames : List Keyword → Option (List Str)
  | [] => some []
  | k :: r => match k.arg with
    | some x => (kwNames r).map (x :: ·)
    | none => none
def findD (l : List DfI) (x : Str) (n : Nat) : Option DfI := l.find? fun d => decide (d.nm = x) && decide (n + d.dps.length = d.np)
def findK (l : List KwI) (x : Str) (n : Nat) (ks : List Str) : Option KwI := l.find? fun d => decide (d.nm = x) && decide (d.n = n) && decide (d.ks = ks) && decide (n + ks.length = d.np)
def blkOkB (N : List Str) (sc scope : Scope) (own : List (Str × Nat)) (t : Ev.TG) : Bool := L2.blkC N sc scope own && (slotsT t).all fun i => decide (i ∈ own.map (·.2))
def isVar : Ev.CE → Bool
  | .var _ => true
  | _ => false
/-- a call: its first operand lent, where the name says so -/
def lendC (S : SC) (x : Str) (d : DfI) (es : List Expr) (cs cs' : List Ev.CE) : Ev.CE :=
  if decide (x ∈ S.ln) && d.dps.isEmpty then
    match es, cs with
    | .Name y _ :: _, _ :: r => match S.var y with
      | some i => .callL d.ix i r
      | none => .call d.ix cs'
    | _, _ => .call d.ix cs'
  else .call d.ix cs'
def cI (ce : SC → Expr → Ev.CE) (S : SC) (t it : Expr) : Ev.SK × List Ev.CE :=
  match it with
  | .Call (.Name f p) args [] q => if S.bln f && okArgs args then (
      if decide (f = ("range" : Str)) && (args.length == 1 || args.length == 2) then (.rng, args.map (ce S))
      else if decide (f = ("zip" : Str)) && args.length == 2 && isT t then (.zip, args.map (ce S))
      else if decide (f = ("enumerate" : Str)) && args.length == 1 && isT t then (.enum, args.map (ce S))
      else (.seq, [ce S (.Call (.Name f p) args [] q)])) else (.seq, [ce S (.Call (.Name f p) args [] q)])
  | it => (.seq, [ce S it])
/-- a builtin's call within a builtin's call -/
def cNest (n : Nat) (ce : SC → Expr → Ev.CE) (S : SC) (x : Str) (es : List Expr) : Option Ev.CE :=
  match es with
  | [.Call (.Name y _) [a, b] [] _] => if S.bln x && S.bln y && decide (x = ("list" : Str)) && decide (y = ("zip" : Str)) && notStar a && notStar b then some (.bi .listZip [ce S a, ce S b]) else none
  | [.Call (.Name y _) [a] [] _] => if S.bln x && S.bln y && decide (x = ("sorted" : Str)) && decide (y = ("set" : Str)) && notStar a then some (.bi .setSorted [ce S a]) else none
  | [.SetComp elt [⟨t, it, ifs, 0⟩] scope _] => match cTG n (S.blk scope) t with
    | some tg => if S.bln x && decide (x = ("sorted" : Str)) && blkOkB S.N S.sc scope (ownOf S.N scope) tg && notSet it && decide (ifs.length ≤ 1) && ifs.all (fun c => tst c (ce (S.blk scope) c)) then
        some (.scomp ((ownOf S.N scope).map (·.2)) (ce (S.blk scope) elt) tg (cI ce S t it).1 (cI ce S t it).2 (ifs.map (ce (S.blk scope)))) else none
    | none => none
  | _ => none
def cE : Nat → SC → Expr → Ev.CE
  | 0, _, _ => noC
  | n + 1, S, .Constant c _ _ => match c with
    | .int i => .lit (.int i)
    | .bool b => .lit (.bl b)
    | .none => .lit .non
    | .str s => if s.cps.toList.all (fun c => decide (c < 1114112)) then .lit (.str s.cps.toList) else noC
    | _ => noC
  | n + 1, S, .Name x _ => match S.var x with
    | some i => .var i
    | none => if okN x && glB S.sc x then match S.gl.lookup x with
        | some v => .lit v
        | none => if decide (x ∈ S.bl) then (match typeN x with
          | some k => .lit (.fn k)
          | none => noC) else noC
      else noC
  | n + 1, S, .Tuple es _ _ => if okArgs es then .tup (es.map (cE n S)) else noC
  | n + 1, S, .List es _ => if okArgs es then .lst (es.map (cE n S)) else noC
  | n + 1, S, .Dict [] [] _ => .dsp [] []
  | n + 1, S, .BinOp a op b _ => match binB op with
    | some b' => .bi b' [cE n S a, cE n S b]
    | none => noC
  | n + 1, S, .UnaryOp op a _ => match op with
    | .Not => if tst a (cE n S a) then .bi .not [cE n S a] else noC
    | .USub => .bi .neg [cE n S a]
    | _ => noC
  | n + 1, S, .BoolOp op vs pos => match vs with
    | [] => noC
    | [a] => if tst a (cE n S a) then cE n S a else noC
    | a :: b :: r => if tst a (cE n S a) then (match op with
      | .And => .and (cE n S a) (cE n S (.BoolOp op (b :: r) pos))
      | .Or => .or (cE n S a) (cE n S (.BoolOp op (b :: r) pos))) else noC
  | n + 1, S, .Compare a ops bs _ => match ops, bs with
    | [op], [b] => if behindInMarks op b then noC else .bi (cmpB op) [cE n S a, cE n S b]
    | [op, op'], [b, c] => if lastMarks [op, op'] [b, c] || !Ev.calm (cE n S c) then noC else .chain (cmpB op) (cmpB op') [cE n S a, cE n S b] (cE n S c)
    | _, _ => noC
  | n + 1, S, .IfExp t a b _ => if tst t (cE n S t) then .ife (cE n S t) (cE n S a) (cE n S b) else noC
  | n + 1, S, .Subscript a i _ => match i with
    | .Slice (some l) (some h) none _ => .bi .slLH [cE n S a, cE n S l, cE n S h]
    | .Slice (some l) none none _ => .bi .slL [cE n S a, cE n S l]
    | .Slice none (some h) none _ => .bi .slH [cE n S a, cE n S h]
    | .Slice _ _ _ _ => noC
    | i => .bi .ix [cE n S a, cE n S i]
  | n + 1, S, .Call f es kws pos => match f, kws with
    | .Name x _, [] => match cNest n (cE n) S x es with
      | some c => c
      | none => if okArgs es && !es.isEmpty then
        if okN x && glB S.sc x then match findD S.defs x es.length with
          | some d => lendC S x d es (es.map (cE n S)) (es.map (cE n S) ++ d.dps.map .lit)
          | none => if decide (x ∈ S.bl) then (match bltF x es.length with
            | some b => .bi b (es.map (cE n S))
            | none => noC) else noC
        else noC
      else noC
    | .Name x _, kws => if okArgs es && !es.isEmpty && okN x && glB S.sc x then match kwNames kws with
        | some ks => match findK S.kws x es.length ks with
          | some d => .call d.ix (es.map (cE n S) ++ kws.map fun k => cE n S k.value)
          | none => noC
        | none => noC
      else noC
    | .Attribute (.Name x _) m apos, [] => match es with
      | [e] => if decide (m = ("append" : Str)) && notStar e && (apos.endLine == pos.line) then match S.var x with
          | some i => .mut .append i [cE n S e]
          | none => noC
        else noC
      | _ => noC
    | _, _ => noC
  | n + 1, S, .ListComp elt gs scope _ => match gs with
    | [⟨t, it, ifs, 0⟩] => match cTG n (S.blk scope) t with
      | some tg => if blkOkB S.N S.sc scope (ownOf S.N scope) tg && notSet it && decide (ifs.length ≤ 1) && ifs.all (fun c => tst c (cE n (S.blk scope) c)) then
          .comp ((ownOf S.N scope).map (·.2)) (cE n (S.blk scope) elt) tg (cI (cE n) S t it).1 (cI (cE n) S t it).2 (ifs.map (cE n (S.blk scope)))
        else noC
      | none => noC
    | [⟨t, it, [], 0⟩, ⟨t2, it2, [], 0⟩] => match cTG n (S.blk scope) t, cTG n (S.blk scope) t2 with
      | some tg, some tg2 => if blkOkB S.N S.sc scope (ownOf S.N scope) tg && blkOkB S.N S.sc scope (ownOf S.N scope) tg2 && notSet it && notSet it2 then
          .comp2 ((ownOf S.N scope).map (·.2)) (slotsT tg2) (cE n (S.blk scope) elt) tg (cI (cE n) S t it).1 (cI (cE n) S t it).2 tg2 (cI (cE n) (S.blk scope) t2 it2).1 (cI (cE n) (S.blk scope) t2 it2).2
        else noC
      | _, _ => noC
    | _ => noC
  | n + 1, S, .DictComp k elt gs scope _ => match gs with
    | [⟨t, it, ifs, 0⟩] => match cTG n (S.blk scope) t with
      | some tg => if blkOkB S.N S.sc scope (ownOf S.N scope) tg && notSet it && decide (ifs.length ≤ 1) && ifs.all (fun c => tst c (cE n (S.blk scope) c)) then
          .dcomp ((ownOf S.N scope).map (·.2)) (cE n (S.blk scope) k) (cE n (S.blk scope) elt) tg (cI (cE n) S t it).1 (cI (cE n) S t it).2 (ifs.map (cE n (S.blk scope)))
        else noC
      | none => noC
    | _ => noC
  | _, _, _ => noC
structure OkX (X : L2.Cx) (Γ : Ev.Cx) (S : SC) : Prop where
  env : X.env.scope = S.sc
  fn : ∀ x, (S.ws.names.lookup x == some .cell) = true → X.fn x = true
  N : X.N = S.N
  nd : X.N.Nodup
  calm : X.calm = true
  units : X.A.units + 66 < cLine
  defs : ∀ d ∈ S.defs, CallD X (Γ.call d.ix) d.nm d.np d.dps
  kws : ∀ d ∈ S.kws, CallK X (Γ.call d.ix) d.nm d.np d.n d.ks
  gl : ∀ x p, S.gl.lookup x = some p → ∃ u v, X.mg x = some u ∧ RelV v u ∧ ∀ F, Rep X.K F p v
  bl : ∀ x ∈ S.bl, X.mg x = none
  kit : KitOk X.K
section
variable {X : L2.Cx} {Γ : Ev.Cx} {S : SC}
theorem OkX.blk (o : OkX X Γ S) (scope : Scope) (s : Shared) (H : Hp) (C : Addr) (cl : List (Str × Addr)) (fp : List Addr) : OkX (X.blk s H scope (compEnvC scope cl C X.env) fp) Γ (S.blk scope) where
  env := by
    show L2.relS scope X.env.scope = L2.relS scope S.sc
    rw [o.env]
  fn := fun x h => h
  N := o.N
  nd := o.nd
  calm := o.calm
  units := o.units
  defs := fun d h => ⟨(o.defs d h).ex⟩
  kws := fun d h => ⟨(o.kws d h).ex⟩
  gl := o.gl
  bl := o.bl
  kit := o.kit
theorem okN_ok {x : Str} (h : okN x = true) : (x == ("__debug__" : Str)) = false ∧ (x == ("__classdict__" : Str)) = false ∧ x ≠ ("__name__" : Str) := by
  unfold okN at h
  simpa [and_assoc] using h
theorem OkX.var (o : OkX X Γ S) {x : Str} {i : Nat} (h : S.var x = some i) : X.N[i]? = some x ∧ Vis X.env.scope x ∧ (x == ("__debug__" : Str)) = false ∧ (x == ("__classdict__" : Str)) = false := by
  unfold SC.var at h
  split at h <;> first | cases h | skip
  rename_i hc
  rw [Bool.and_eq_true] at hc
  obtain ⟨h1, h2, _⟩ := okN_ok hc.1
  refine ⟨by rw [o.N]; exact idx_ok h, ?_, h1, h2⟩
  have hv := hc.2
  unfold visB at hv
  rw [o.env]
  split at hv
  · exact .inl ‹_›
  · exact .inr (.inl ‹_›)
  · exact .inr (.inr ‹_›)
  · cases hv
theorem OkX.st (o : OkX X Γ S) {x : Str} {i : Nat} (h : S.st x = some i) : X.N[i]? = some x ∧ Loc X.env.scope x ∧ (X.fn x = true ∨ X.env.scope.names.lookup x = some .local) := by
  unfold SC.st at h
  split at h <;> first | cases h | skip
  rename_i hc
  rw [Bool.and_eq_true, Bool.and_eq_true] at hc
  refine ⟨by rw [o.N]; exact idx_ok h, ?_, ?_⟩
  · have hv := hc.1.2
    unfold locB at hv
    rw [o.env]
    split at hv
    · exact .inl ‹_›
    · exact .inr ‹_›
    · cases hv
  · have hf := hc.2
    unfold SC.fnB at hf
    rw [Bool.or_eq_true, decide_eq_true_eq] at hf
    rw [o.env]
    exact hf.imp (o.fn x) id
theorem OkX.glo (o : OkX X Γ S) {x : Str} (h : glB S.sc x = true) : Gl X x := by
  unfold glB at h
  show X.env.scope.names.lookup x = _
  rw [o.env]
  exact of_decide_eq_true h
theorem OkX.bln (o : OkX X Γ S) {x : Str} (h : S.bln x = true) : Gl X x ∧ X.mg x = none ∧ (x == ("__debug__" : Str)) = false ∧ x ≠ ("__name__" : Str) := by
  unfold SC.bln at h
  rw [Bool.and_eq_true, Bool.and_eq_true, decide_eq_true_eq] at h
  obtain ⟨h1, _, h3⟩ := okN_ok h.1.1
  exact ⟨o.glo h.1.2, o.bl x h.2, h1, h3⟩
/-! ### the no -/
theorem tx_no {α β : Type} {K : PySem.W.Frag} {m : Ev.St → Ev.Out α} {nm : Bool} {RR : RRel α β} {σ : L2.St} {H : Hp} {Q : β → Hp → Prop} (hm : ∀ s, m s = .no) (h : TX K m nm RR σ H Q) : False := by
  obtain ⟨g, st, r, w⟩ := h
  rw [hm] at w
  exact w
theorem eok_no {e : Expr} : EOk X Γ e noC :=
  ⟨⟨fun _ _ _ _ _ _ h => (tx_no (fun _ => rfl) h).elim⟩, ⟨fun _ _ _ _ _ _ h => (tx_no (fun _ => rfl) h).elim⟩, fun cr => ⟨fun _ _ _ _ _ _ h => (tx_no (fun _ => rfl) h).elim⟩⟩
/-- all that an expression's core code is good for -/
structure GdE (X : L2.Cx) (Γ : Ev.Cx) (e : Expr) (c : Ev.CE) : Prop where
  ok : EOk X Γ e c
  ts : tst e c = true → TOk X Γ e c
  wk : ∀ op vs pos, e = .BoolOp op vs pos → WOk X Γ e c
  sw : isComp e = true → SwOk X Γ e c
theorem good_no {e : Expr} : GdE X Γ e noC :=
  ⟨eok_no, fun _ => ⟨fun _ _ _ _ _ _ h => (tx_no (fun _ => rfl) h).elim⟩, fun _ _ _ _ => ⟨fun _ _ _ _ _ _ _ h => (tx_no (fun _ => rfl) h).elim⟩, fun _ i y py spos _ _ _ => ⟨fun _ _ _ _ _ _ ⟨g, st, r, w⟩ => by
    have e0 : Ev.exec Γ (.asgO i noC) st = .no := rfl
    rw [e0] at w; exact w.elim⟩⟩
def plainT : Expr → Bool
  | .UnaryOp .Not _ _ => false
  | .BoolOp _ _ _ => false
  | .IfExp _ _ _ _ => false
  | .Compare _ _ _ _ => false
  | _ => true
theorem true_plain {e : Expr} {env : Env} (h : plainT e = true) (whole : Sem Value) : isTrue e env whole = (do let v ← whole; standAt e.pos; holding [v] (truthy v)) := by
  cases e <;> first | rfl | exact Bool.noConfusion h | skip
  rename_i op a p
  cases op <;> first | rfl | exact Bool.noConfusion h
theorem good_of {e : Expr} {c : Ev.CE} (h : EOk X Γ e c) (hp : plainT e = true) (hc : isComp e = false) : GdE X Γ e c :=
  ⟨h, fun _ => tok_val h.val fun w => true_plain hp w, fun op vs pos q => by subst q; exact Bool.noConfusion hp, fun z => by rw [hc] at z; exact Bool.noConfusion z⟩
end
end Sd
end
section
set_option Elab.async false
set_option linter.all false
set_option maxRecDepth 100000
set_option maxHeartbeats 4000000
set_option autoImplicit false
namespace Sd
open PySem PySem.Spec PyProof.Rows L2
theorem zip_no_len : typeLookup (.type "zip") "__len__" = pure none := by rw [typeLookup_type, builtinLookup_eq_fast]; kernel_rfl
theorem zip_no_hint : typeLookup (.type "zip") "__length_hint__" = pure none := by rw [typeLookup_type, builtinLookup_eq_fast]; kernel_rfl
section
variable {prog : Program} {w : World} {A : Around} {s : Shared} {R : Result → Shared → Prop}
theorem extend_zip {z TI TO S : Addr} {res : Value} {c₀ : Nat} (hz : IsZip s.heap z TI TO .none) (hSz : S ≠ z) (hS : s.heap.get? S = some { cls := .type "list", data := .seq #[] c₀ })
    (loop : ∀ (h3 : Heap) (c : Nat), (∀ b o, b ≠ S → s.heap.get? b = some o → h3.get? b = some o) → h3.get? S = some { cls := .type "list", dict := none, data := .seq #[] c, slots := #[] } → h3.objs.size = s.heap.objs.size →
      codeAny (model prog w) A (.builtin "list.extend.loop" ⟨[.ref S, .ref z, res], []⟩) R { s with heap := h3 }) :
    wpAny (model prog w) A.in1 (Builtin.List.listExtendWith (.ref S) (.ref z) res)
      (fun fin s' => match fin with | .done f => R (.ok f) s' | .again c' => c'.quiet = true ∧ codeAny (model prog w) A c' R s') (fun e s' => R (.error e) s') s := by
  have hT : s.TypeIs (.ref z) "zip" := ⟨_, hz, rfl⟩
  unfold Builtin.List.listExtendWith
  refine wpAny_bind (wpAny_typeOf hT ?_)
  have h1 : Builtin.List.listSameRef (.ref S) (.ref z) = false := by simp [Builtin.List.listSameRef, hSz]
  have h2 : (Value.type "zip" == Value.type "list") = false := by decide
  have h3 : (Value.type "zip" == Value.type "tuple") = false := by decide
  simp only [h1, h2, h3, Bool.or_false, Bool.false_eq_true, if_false]
  refine wpAny_bind (wpAny_pyIter_zip hz ?_)
  refine wpAny_bind (wpAny_holding ?_)
  unfold Builtin.List.listLengthHint
  refine wpAny_bind (wpAny_specialOf hT zip_no_len ?_)
  show wpAny _ A.in1 (specialOf (Value.ref z) (Str.ofString "__length_hint__") >>= _) _ _ _
  refine wpAny_bind (wpAny_specialOf hT zip_no_hint ?_)
  refine wpAny_pure ?_
  show wpAny _ A.in1 (rule "list.extend.makes-room" >>= fun _ => Builtin.List.listTouch (.ref S) >>= fun _ =>
    again (.builtin "list.extend.loop" ⟨[.ref S, .ref z, res], []⟩)) _ _ _
  refine wpAny_bind (wpAny_rule ?_)
  refine wpAny_bind ?_
  show wpAny _ A.in1 (updateSeq S (·.push .none) >>= fun _ => updateSeq S (·.pop)) _ _ _
  refine wpAny_bind (wpAny_updateSeq hS rfl ?_)
  have hS₂ := Heap.get?_update_self (Obj.mapSeq (·.push Value.none)) hS rfl
  refine wpAny_updateSeq (hz := by seq_fits) hS₂ rfl ?_
  have hS₃ := Heap.get?_update_self (Obj.mapSeq (·.pop)) hS₂ rfl
  have oth : ∀ b o, b ≠ S → s.heap.get? b = some o → ((s.heap.update S (Obj.mapSeq (·.push Value.none))).update S (Obj.mapSeq (·.pop))).get? b = some o :=
    fun b o hb e => (Heap.get?_update_other _ _ (Ne.symm hb)).trans ((Heap.get?_update_other _ _ (Ne.symm hb)).trans e)
  refine wpAny_pure ⟨plainId_quiet F.plain_extend_loop _, loop _ _ oth hS₃ ?_⟩
  rw [Heap.size_after_update, Heap.size_after_update]
theorem init_zip {z TI TO S : Addr} (hz : IsZip s.heap z TI TO .none) (hSz : S ≠ z) (hS : s.heap.get? S = some { cls := .type "list", data := .seq #[] })
    (loop : ∀ (h3 : Heap) (c : Nat), (∀ b o, b ≠ S → s.heap.get? b = some o → h3.get? b = some o) → h3.get? S = some { cls := .type "list", dict := none, data := .seq #[] c, slots := #[] } → h3.objs.size = s.heap.objs.size →
      codeAny (model prog w) A (.builtin "list.extend.loop" ⟨[.ref S, .ref z, .none], []⟩) R { s with heap := h3 }) :
    wpAny (model prog w) A.in1 (Builtin.«list.__init__» ⟨[.ref S, .ref z], []⟩)
      (fun fin s' => match fin with | .done f => R (.ok f) s' | .again c' => c'.quiet = true ∧ codeAny (model prog w) A c' R s') (fun e s' => R (.error e) s') s := by
  show wpAny _ A.in1 (do let old ← Builtin.List.listItems (.ref S); Builtin.List.listUpdate (.ref S) (fun _ => #[]); letGo old.toList.reverse; Builtin.List.listExtendWith (.ref S) (.ref z) .none) _ _ s
  refine wpAny_bind ?_
  unfold Builtin.List.listItems
  refine wpAny_bind (wpAny_seqItems hS rfl (wpAny_pure ?_))
  show wpAny _ A.in1 (updateSeq S (fun _ => #[]) >>= fun _ => letGo (#[] : Array Value).toList.reverse >>= fun _ => Builtin.List.listExtendWith (.ref S) (.ref z) .none) _ _ s
  refine wpAny_bind (wpAny_updateSeq hS rfl ?_)
  have hS₂ := Heap.get?_update_self (Obj.mapSeq (fun _ => (#[] : Array Value))) hS rfl
  have oth : ∀ b o, b ≠ S → s.heap.get? b = some o → (s.heap.update S (Obj.mapSeq (fun _ => (#[] : Array Value)))).get? b = some o :=
    fun b o hb e => (Heap.get?_update_other _ _ (Ne.symm hb)).trans e
  refine wpAny_bind (wpAny_letGo ?_)
  refine extend_zip (TI := TI) (TO := TO) (s := { s with heap := _ }) (oth z _ (Ne.symm hSz) hz) hSz hS₂ fun h3 c k1 k2 k3 => ?_
  exact loop h3 c (fun b o hb e => k1 b o hb (oth b o hb e)) k2 (k3.trans (Heap.size_after_update ..))
end
section
variable {prog : Program} {w : World} {A : Around} {E : Value → Shared → Prop} {s : Shared}
theorem call_list_zip {z TI TO : Addr} {Q : Value → Shared → Prop} (hz : IsZip s.heap z TI TO .none)
    (loop : ∀ (h3 : Heap) (c : Nat), (∀ b o, s.heap.get? b = some o → h3.get? b = some o) → h3.get? s.heap.objs.size = some { cls := .type "list", dict := none, data := .seq #[] c, slots := #[] } → h3.objs.size = s.heap.objs.size + 1 →
      codeAny (model prog w) A.in1 (.builtin "list.extend.loop" ⟨[.ref s.heap.objs.size, .ref z, .none], []⟩) (wants (fun r s₂ => r = .none ∧ Q (.ref s.heap.objs.size) s₂) E) { s with heap := h3 }) :
    wpAny (model prog w) A (call (.type "list") [.ref z]) Q E s := by
  have hzl : z < s.heap.objs.size := Heap.lt_size hz
  refine callType_codes (Q₁ := fun obj s₁ => obj = .ref s.heap.objs.size ∧ s₁ = { s with heap := s.heap.push { cls := .type "list", data := .seq #[] } }) F.called_list (F.typeCall_list_1 _) F.entry_list_init
    (code_list_new _ ⟨rfl, rfl⟩) fun obj s₁ h₁ => ?_
  obtain ⟨rfl, rfl⟩ := h₁
  have hS : (s.heap.push { cls := .type "list", data := .seq #[] }).get? s.heap.objs.size = some { cls := .type "list", data := .seq #[] } := Heap.get?_push_size _ rfl
  refine ⟨⟨_, hS, rfl⟩, F.args_list_init_2 _ _, init_zip (TI := TI) (TO := TO) (s := { s with heap := _ }) (Heap.get?_push_of_some _ hz) (Nat.ne_of_gt hzl) hS fun h3 c k1 k2 k3 => ?_⟩
  exact loop h3 c (fun b o e => k1 b o (Nat.ne_of_lt (Heap.lt_size e)) (Heap.get?_push_of_some _ e)) k2 (k3.trans (Heap.size_push ..))
end
/-- the zip object's turn i, as the list at S takes its items -/
def ZS (z TI TO i1 i2 a b S : Addr) (i : Nat) (h : Heap) : Prop := TO < h.objs.size ∧ IsPair h TI (.ref i1) (.ref i2) ∧ h.IsListIter i1 a i ∧ h.IsListIter i2 b i ∧
  ((IsZip h z TI TO .none ∧ ∃ x y, IsPair h TO x y) ∨ ∃ T f oT, IsZipHeld h z TI TO T f ∧ h.get? T = some oT ∧ T ≠ z ∧ T ≠ i1 ∧ T ≠ i2 ∧ T ≠ S)
theorem zip_loop {X : L2.Cx} {pins : List (Addr × Obj)} {σ : L2.St} {A : Around} {R : Result → Shared → Prop} {z TI TO i1 i2 a b S : Addr} {F0 H0 : Hp} {ps qs : List Ev.PV} {xs ys : List V} (D : ZipApart z TI TO i1 i2 a b) (hh : A.handled = none)
    (sub0 : Sub F0 H0) (rx : Reps X.K F0 ps xs) (ry : Reps X.K F0 qs ys) (ha : SqL X.K H0 a xs) (hb : SqL X.K H0 b ys)
    (fin : ∀ (s' : Shared) (F1 H1 : Hp) (acc : List V), Inv X pins σ (upd H1 S (.lst acc)) s' → Grow F0 H0 F1 H1 → H1 S = none → Reps X.K F1 ((ps.zip qs).map fun p => .tup [p.1, p.2]) acc → R (.ok (.ret .none)) s') :
    ∀ (k i : Nat) (s : Shared) (F1 H1 : Hp) (acc : List V), min xs.length ys.length - i = k → i ≤ min xs.length ys.length → Inv X pins σ (upd H1 S (.lst acc)) s → ZS z TI TO i1 i2 a b S i s.heap → (∀ c ∈ [z, TI, TO, i1, i2], FpOk X pins (upd H1 S (.lst acc)) c) →
      Grow F0 H0 F1 H1 → H1 S = none → Reps X.K F1 (((ps.zip qs).map fun p => Ev.PV.tup [p.1, p.2]).take i) acc → acc.length = i →
      codeAny (model X.prog X.w) A (.builtin "list.extend.loop" ⟨[.ref S, .ref z, .none], []⟩) R s := by
  have lx := rx.length
  have ly := ry.length
  intro k
  induction k with
  | zero =>
    intro i s F1 H1 acc hk hi I st hf gr hS rs hl
    have hin : i = min xs.length ys.length := by omega
    refine codeAny_builtin F.entry_extend_loop ?_
    rw [Around.under_plainId F.plain_extend_loop _]
    show wpAny _ A.in1 (pyNext (.ref z) >>= _) _ _ s
    have sH : Sub H0 (upd H1 S (.lst acc)) := gr.h.trans (Sub.upd_new hS)
    obtain ⟨its, rv, p1, _⟩ := I.list (sH.seqL ha)
    obtain ⟨its2, rv2, p2, _⟩ := I.list (sH.seqL hb)
    have l1 := rv.length
    have l2 := rv2.length
    have he : its.toArray[i]? = none ∨ its2.toArray[i]? = none := by
      rcases Nat.le_total xs.length ys.length with h | h
      · rw [Nat.min_eq_left h] at hin; exact .inl (by simp; omega)
      · rw [Nat.min_eq_right h] at hin; exact .inr (by simp; omega)
    have done : ∀ h' : Heap, (∀ c o, c ∉ [z, TI, TO, i1, i2] → s.heap.get? c = some o → h'.get? c = some o) → R (.ok (.ret .none)) { s with heap := h' } := fun h' hk => by
      have I1 : Inv X pins σ (upd H1 S (.lst acc)) { s with heap := h' } := I.turnedL (t' := s.toks) (ch := [z, TI, TO, i1, i2]) hk hf
      refine fin _ F1 H1 acc I1 gr hS ?_
      have e : ((ps.zip qs).map fun p => Ev.PV.tup [p.1, p.2]).take i = (ps.zip qs).map fun p => Ev.PV.tup [p.1, p.2] := List.take_of_length_le (by simp [lx, ly]; omega)
      rw [e] at rs
      exact rs
    obtain ⟨hTOl, hTI, h1, h2, hz | ⟨T, f, oT, hz, hT, r1, r2, r3, r4⟩⟩ := st
    · obtain ⟨hz, x0, y0, hTO⟩ := hz
      exact wpAny_bind (wpAny_pyNext_zip_end hh D hz hTI hTO h1 h2 p1.isList p2.isList he fun h' hk => wpAny_pure (done h' fun c o hc e => hk c o (fun q => hc (by simp [q])) (fun q => hc (by simp [q])) (fun q => hc (by simp [q])) (fun q => hc (by simp [q])) e))
    · exact wpAny_bind (wpAny_pyNext_zip_end_held hh D hz hT hTI h1 h2 p1.isList p2.isList he fun h' hk => wpAny_pure (done h' fun c o hc e => hk c o (fun q => hc (by simp [q])) (fun q => hc (by simp [q])) (fun q => hc (by simp [q])) e))
  | succ k ih =>
    intro i s F1 H1 acc hk hi I st hf gr hS rs hl
    have hix : i < xs.length := by omega
    have hiy : i < ys.length := by omega
    refine codeAny_builtin F.entry_extend_loop ?_
    rw [Around.under_plainId F.plain_extend_loop _]
    show wpAny _ A.in1 (pyNext (.ref z) >>= _) _ _ s
    have sH : Sub H0 (upd H1 S (.lst acc)) := gr.h.trans (Sub.upd_new hS)
    obtain ⟨its, rv, p1, _⟩ := I.list (sH.seqL ha)
    obtain ⟨its2, rv2, p2, _⟩ := I.list (sH.seqL hb)
    have l1 := rv.length
    have l2 := rv2.length
    obtain ⟨u, hu, ru⟩ := rv.get (show xs[i]? = some xs[i] by simp [hix])
    obtain ⟨u2, hu2, ru2⟩ := rv2.get (show ys[i]? = some ys[i] by simp [hiy])
    have hSn : ∀ c ∈ [z, TI, TO, i1, i2], S ≠ c := fun c hc e => by
      have := (hf c hc).1
      rw [← e, upd_same] at this
      cases this
    -- a turn
    have step : ∀ h' : Heap, ZS z TI TO i1 i2 a b S (i + 1) h' → IsPair h' s.heap.objs.size u u2 → (∀ c o, c ∉ [z, TI, TO, i1, i2] → s.heap.get? c = some o → h'.get? c = some o) →
        wpAny (model X.prog X.w) A.in1 (updateSeq S (·.push (.ref s.heap.objs.size)) >>= fun _ => again (.builtin "list.extend.loop" ⟨[.ref S, .ref z, .none], []⟩))
          (fun fin s' => match fin with | .done f => R (.ok f) s' | .again c' => c'.quiet = true ∧ codeAny (model X.prog X.w) A c' R s') (fun e s' => R (.error e) s') { s with heap := h' } := fun h' st' hT hk => by
      have hTn : (upd H1 S (.lst acc)) s.heap.objs.size = none := I.hok.fresh (Nat.le_refl _)
      have hTS : s.heap.objs.size ≠ S := fun e => by rw [e, upd_same] at hTn; cases hTn
      have hT1 : H1 s.heap.objs.size = none := by rw [upd_ne hTS] at hTn; exact hTn
      have new : ObjOk X.prog X.w (upd (upd H1 S (.lst acc)) s.heap.objs.size (.tup [xs[i], ys[i]])) h' s.heap.objs.size (.tup [xs[i], ys[i]]) :=
        ⟨by show 2 ≤ sizeLine; decide, [u, u2], .cons ru (.cons ru2 .nil), ⟨_, hT, rfl, _, rfl⟩⟩
      have I1 : Inv X pins σ (upd (upd H1 S (.lst acc)) s.heap.objs.size (.tup [xs[i], ys[i]])) { s with heap := h' } := I.turnedNew (t' := s.toks) (ch := [z, TI, TO, i1, i2]) hk hf (Nat.le_refl _) new
      have hHS : (upd (upd H1 S (.lst acc)) s.heap.objs.size (.tup [xs[i], ys[i]])) S = some (.lst acc) := by rw [upd_ne (Ne.symm hTS), upd_same]
      obtain ⟨_, itS, nS, rS, lS, eS⟩ := I1.lstM hHS
      have hz : xs.length ≤ sizeLine := by
        obtain ⟨_, _, _, hz⟩ := I.list (sH.seqL ha)
        exact hz
      have h7 : acc.length = itS.length := lS
      have I2 := I1.lset (t' := s.toks) (its' := itS ++ [.ref s.heap.objs.size]) (f := (·.push (.ref s.heap.objs.size))) (ys := acc ++ [.ref s.heap.objs.size]) hHS eS (by simp) (rS.append (.cons (show RelV (.ref s.heap.objs.size) (.ref s.heap.objs.size) from rfl) .nil)) (by rw [List.length_append, List.length_singleton]; omega)
      have eH : upd (upd (upd H1 S (.lst acc)) s.heap.objs.size (.tup [xs[i], ys[i]])) S (.lst (acc ++ [.ref s.heap.objs.size])) = upd (upd H1 s.heap.objs.size (.tup [xs[i], ys[i]])) S (.lst (acc ++ [.ref s.heap.objs.size])) := by
        funext c
        by_cases e : c = S
        · subst e; rw [upd_same, upd_same]
        · rw [upd_ne e, upd_ne e]
          by_cases e2 : c = s.heap.objs.size
          · subst e2; rw [upd_same, upd_same]
          · rw [upd_ne e2, upd_ne e2, upd_ne e]
      rw [eH] at I2
      have w2 : Grow F1 H1 (upd F1 s.heap.objs.size (.tup [xs[i], ys[i]])) (upd H1 s.heap.objs.size (.tup [xs[i], ys[i]])) := .put gr.fh hT1
      have oth : ∀ c o, c ≠ S → h'.get? c = some o → (h'.update S (Obj.mapSeq (·.push (.ref s.heap.objs.size)))).get? c = some o := fun c o hc e => (Heap.get?_update_other _ _ (Ne.symm hc)).trans e
      refine wpAny_bind (wpAny_updateSeq eS rfl (wpAny_pure ⟨plainId_quiet F.plain_extend_loop _, ih (i + 1) _ (upd F1 s.heap.objs.size (.tup [xs[i], ys[i]])) (upd H1 s.heap.objs.size (.tup [xs[i], ys[i]])) (acc ++ [.ref s.heap.objs.size]) (by omega) (by omega) I2 ?_ (fun c hc => ⟨?_, (hf c hc).2⟩) (gr.trans w2) ?_ ?_ (by rw [List.length_append, List.length_singleton]; omega)⟩)
        (by rw [List.size_toArray]; omega) (by show (itS.toArray.push _).size ≤ sizeLine + 1; rw [Array.size_push, List.size_toArray]; omega))
      · obtain ⟨hTOl, hTI, h1, h2, hz⟩ := st'
        have nn := fun c hc => Ne.symm (hSn c hc)
        refine ⟨by rw [Heap.size_after_update]; exact hTOl, oth _ _ (nn TI (by simp)) hTI, h1.at fun o e => oth _ o (nn i1 (by simp)) e, h2.at fun o e => oth _ o (nn i2 (by simp)) e, ?_⟩
        rcases hz with ⟨hz, x0, y0, hTO⟩ | ⟨T, f, oT, hz, hT, r1, r2, r3, r4⟩
        · exact .inl ⟨oth _ _ (nn z (by simp)) hz, x0, y0, oth _ _ (nn TO (by simp)) hTO⟩
        · exact .inr ⟨T, f, oT, oth _ _ (nn z (by simp)) hz, oth _ _ r4 hT, r1, r2, r3, r4⟩
      · have hc0 := (hf c hc).1
        have hcS := Ne.symm (hSn c hc)
        rw [upd_ne hcS] at hc0
        rw [upd_ne hcS, upd_ne]
        · exact hc0
        · intro e
          have hlt : c < s.heap.objs.size := by
            obtain ⟨hTOl, hTI, h1, h2, hz⟩ := st
            simp only [List.mem_cons, List.not_mem_nil, or_false] at hc
            have hzz : ∃ o, s.heap.get? z = some o := by
              rcases hz with ⟨hz, _⟩ | ⟨_, _, _, hz, _⟩
              · exact ⟨_, hz⟩
              · exact ⟨_, hz⟩
            rcases hc with q | q | q | q | q
            · rw [q]; obtain ⟨_, h⟩ := hzz; exact Heap.lt_size h
            · rw [q]; exact Heap.lt_size hTI
            · rw [q]; exact hTOl
            · rw [q]; obtain ⟨_, e1, _⟩ := h1; exact Heap.lt_size e1
            · rw [q]; obtain ⟨_, e1, _⟩ := h2; exact Heap.lt_size e1
          exact absurd e (Nat.ne_of_lt hlt)
      · rw [upd_ne (Ne.symm hTS)]; exact hS
      · have hz2 : i < ((ps.zip qs).map fun p => Ev.PV.tup [p.1, p.2]).length := by simp [lx, ly]; omega
        have e : ((ps.zip qs).map fun p => Ev.PV.tup [p.1, p.2]).take (i + 1) = ((ps.zip qs).map fun p => Ev.PV.tup [p.1, p.2]).take i ++ [.tup [ps[i]'(by omega), qs[i]'(by omega)]] := by
          rw [List.take_succ_eq_append_getElem hz2]
          simp
        rw [e]
        obtain ⟨x1, e1, m1⟩ := rx.get (i := i) (p := ps[i]'(by omega)) (by simp [show i < ps.length by omega])
        obtain ⟨y1, e2, m2⟩ := ry.get (i := i) (p := qs[i]'(by omega)) (by simp [show i < qs.length by omega])
        rw [List.getElem?_eq_getElem hix] at e1; cases e1
        rw [List.getElem?_eq_getElem hiy] at e2; cases e2
        have up : Sub F0 (upd F1 s.heap.objs.size (.tup [xs[i], ys[i]])) := gr.f.trans w2.f
        exact (rs.mono w2.f).append ⟨⟨_, [xs[i], ys[i]], rfl, SqT.of upd_same, m1.mono up, m2.mono up, trivial⟩, trivial⟩
    obtain ⟨hTOl, hTI, h1, h2, hz | ⟨T, f, oT, hz, hT, r1, r2, r3, r4⟩⟩ := st
    · obtain ⟨hz, x0, y0, hTO⟩ := hz
      have lt : ∀ {c o}, s.heap.get? c = some o → s.heap.objs.size ≠ c := fun e => Nat.ne_of_gt (Heap.lt_size e)
      have n1 : s.heap.objs.size ≠ i1 := let ⟨_, e, _⟩ := h1; lt e
      have n2 : s.heap.objs.size ≠ i2 := let ⟨_, e, _⟩ := h2; lt e
      have nS : s.heap.objs.size ≠ S := fun e => by
        have : (upd H1 S (.lst acc)) s.heap.objs.size = none := I.hok.fresh (Nat.le_refl _)
        rw [e, upd_same] at this; cases this
      refine wpAny_bind (wpAny_pyNext_zip_item D hz hTI hTO h1 h2 p1.isList p2.isList (x := u) (y := u2) (by simpa using hu) (by simpa using hu2) fun h' a1 a2 a3 a4 a5 a6 hk => ?_)
      exact step h' ⟨Nat.lt_trans hTOl (Heap.lt_size a5), hk _ _ D.TIz D.TITO D.TIi1 D.TIi2 hTI, a3, a4, .inr ⟨s.heap.objs.size, false, _, a1, a5, lt hz, n1, n2, nS⟩⟩ a5 fun c o hc e => hk c o (fun q => hc (by simp [q])) (fun q => hc (by simp [q])) (fun q => hc (by simp [q])) (fun q => hc (by simp [q])) e
    · refine wpAny_bind (wpAny_pyNext_zip_item_held D hz hT hTI h1 h2 p1.isList p2.isList (x := u) (y := u2) (by simpa using hu) (by simpa using hu2) fun h' a1 a3 a4 a5 a6 hk => ?_)
      exact step h' ⟨Nat.lt_trans hTOl (Heap.lt_size a5), hk _ _ D.TIz D.TIi1 D.TIi2 hTI, a3, a4, .inr ⟨T, true, oT, a1, hk _ _ r1 r2 r3 hT, r1, r2, r3, r4⟩⟩ a5 fun c o hc e => hk c o (fun q => hc (by simp [q])) (fun q => hc (by simp [q])) (fun q => hc (by simp [q])) e
end Sd
end
section
set_option Elab.async false
set_option linter.all false
set_option maxRecDepth 100000
set_option maxHeartbeats 4000000
set_option autoImplicit false
namespace Sd
open PySem PySem.Spec PyProof.Rows L2
theorem ar5 {n m k : Nat} (e : n + k = m) (h : m = n + 5) (hk : k < 5) : False := by omega
section
variable {X : L2.Cx} {Γ : Ev.Cx} {pos : Pos}
theorem pe_listZip {e e2 : Expr} {ta : TA} {p p2 q : Pos} (hc : X.calm = true) (hg : Gl X "list") (hm : X.mg "list" = none) (hg2 : Gl X "zip") (hm2 : X.mg "zip" = none) (ha : PA X [e, e2] ta)
    (hs : starEach [e, e2] X.env = (false, eval e X.env) :: starEach [e2] X.env) (hpl : (backTo q (starEach [e2] X.env)).any (·.1) = false) :
    PE X (.Call (.Name "list" p) [.Call (.Name "zip" p2) [e, e2] [] q] [] pos) (tCB (rCB X.K .listZip) ta) := by
  refine ⟨fun pins s σ H Q I h => ?_⟩
  refine Call_ (ld_blt I hg hm boot_list ?_)
  refine PyProof.Rows.callWith_type1 (PyProof.Rows.args_cons ?_ rfl) rfl rfl
  refine Call_ (ld_blt I hg2 hm2 PyProof.Rows.boot_zip ?_)
  refine PyProof.Rows.callWith_type1 (thn (ha.run q pins s σ H _ I h) fun us s1 ⟨vs, H1, I1, r1, q1⟩ => ?_) hs hpl
  obtain ⟨F, ps, v, sf, bl, ev, k⟩ := q1
  change Ev.sListZip ps = some v at ev
  unfold Ev.sListZip at ev
  split at ev <;> cases ev
  obtain ⟨x, y, rfl, b1, b2⟩ := brep2 bl
  obtain ⟨a, xs, rfl, hqx, rx⟩ := b1.lstL sf
  obtain ⟨b, ys, rfl, hqy, ry⟩ := b2.lstL sf
  cases r1 with
  | cons r rr =>
    cases rr with
    | cons r' rr =>
      cases rr
      cases r
      cases r'
      obtain ⟨its, rv, p1, _⟩ := I1.list hqx
      obtain ⟨its2, rv2, p2, _⟩ := I1.list hqy
      have la : a < s1.heap.objs.size := p1.lt
      have lb : b < s1.heap.objs.size := p2.lt
      refine call_zip_2 p1.isList p2.isList fun h' hz hTI hTO h1 h2 hsz hk => PyProof.Rows.args_nil ?_
      refine call_list_zip hz fun h3 c k3 hS hsz3 => ?_
      have kk : ∀ b o, s1.heap.get? b = some o → h3.get? b = some o := fun b o e => k3 b o (hk b o e)
      have le : s1.heap.objs.size ≤ h'.objs.size := by omega
      have hS0 : H1 h'.objs.size = none := I1.hok.fresh le
      have I2 : Inv X pins σ (upd H1 h'.objs.size (.lst [])) { s1 with heap := h3, toks := s1.toks } := I1.laid kk le ⟨Nat.zero_le _, [], c, .nil, hS⟩
      refine zip_loop (PySem.W.ktu_apart s1.heap.objs.size a b la lb) (show X.A.in1.handled = none from I1.ok.hd hc) sf rx ry hqx hqy (fun s' F1 H2 acc I3 gr hn rs => ?_) (min xs.length ys.length) 0 _ F H1 [] rfl (Nat.zero_le _) I2 ?_ ?_ (.refl sf) hS0 (by rw [List.take_zero]; trivial) rfl
      · exact ⟨rfl, .ref h'.objs.size, _, I3, rfl, k _ _ ⟨F1, H2, gr, .inr ⟨_, .lst acc, rfl, hn, rfl, rs⟩⟩⟩
      · exact ⟨by rw [hsz3]; show s1.heap.objs.size + 3 < h'.objs.size + 1; rw [hsz]; omega, k3 _ _ hTI, h1.at fun o e => k3 _ o e, h2.at fun o e => k3 _ o e, .inl ⟨k3 _ _ hz, _, _, k3 _ _ hTO⟩⟩
      · intro c hcm
        have e' : c = s1.heap.objs.size + 4 ∨ c = s1.heap.objs.size + 2 ∨ c = s1.heap.objs.size + 3 ∨ c = s1.heap.objs.size ∨ c = s1.heap.objs.size + 1 := by simpa using hcm
        have hle : s1.heap.objs.size ≤ c := by
          rcases e' with z | z | z | z | z <;> rw [z] <;> first | exact Nat.le_refl _ | exact Nat.le_add_right _ _
        have hne : c ≠ h'.objs.size := by
          rcases e' with z | z | z | z | z <;> rw [z] <;> first | exact fun w => ar5 (show s1.heap.objs.size + _ = h'.objs.size from w) hsz (by decide) | exact fun w => ar5 (k := 0) w hsz (by decide)
        exact I1.fpOk hle (by rw [upd_ne hne]; exact I1.hok.fresh hle)
theorem eok_listZip {e e2 : Expr} {c c2 : Ev.CE} {p p2 q : Pos} (hc : X.calm = true) (hg : Gl X "list") (hm : X.mg "list" = none) (hg2 : Gl X "zip") (hm2 : X.mg "zip" = none) (h : EOks X Γ [e, e2] [c, c2]) :
    EOk X Γ (.Call (.Name "list" p) [.Call (.Name "zip" p2) [e, e2] [] q] [] pos) (.bi .listZip [c, c2]) := by
  cases h with
  | cons he hs hes =>
    exact .of_raw (PE_imp (pe_listZip hc hg hm hg2 hm2 (pa_lent (.cons he hs hes)) (star_cons hs) (back_any (hes.star _))) fun σ H Q h => cb_read h) rfl fun v h => freshB_box h
end
end Sd
end
section
set_option Elab.async false
set_option linter.all false
set_option maxRecDepth 100000
set_option maxHeartbeats 4000000
set_option autoImplicit false
namespace Sd
open PySem PySem.Spec PyProof.Rows L2
/-! ### sets of ints and texts -/
def keyV : Value → Key
  | .int i _ => .inl i
  | .str x _ => .inr x
  | _ => .inl 0
theorem keyV_of {k : Key} {v : Value} (h : keyIs k v = true) : keyV v = k := by
  rcases keyIs_shape h with ⟨i, t, rfl, rfl⟩ | ⟨i, t, rfl, rfl⟩ <;> rfl
theorem keyIs_scan {k : Key} {v : Value} (h : keyIs k v = true) : v.scannable = true := by
  rcases keyIs_shape h with ⟨i, t, rfl, rfl⟩ | ⟨i, t, rfl, rfl⟩ <;> rfl
def GoodK (w : World) (e : Int × Value) : Prop := ∃ k, keyIs k e.2 = true ∧ e.1 = keyH w k
/-- the members of the set at a -/
def SetG (w : World) (h : Heap) (a : Addr) (ks : List Key) : Prop :=
  ∃ o es ep t, h.get? a = some o ∧ o.ExactSet ∧ o.data = .set es ep t ∧ (∀ e ∈ es.toList, GoodK w e) ∧ (es.toList.map fun e => keyV e.2).Perm ks ∧ ks.Nodup ∧
    es.size < scanBound ∧ t.fits es.size = true ∧ Ris t.place.toList ∧ (w.params.followText "set-order" = true ∨ t.led = true)
open Classical in
noncomputable def addK (k : Key) (ks : List Key) : List Key := if k ∈ ks then ks else k :: ks
section
variable {P : Program} {w : World} {h h' : Heap} {a : Addr} {ks : List Key}
theorem SetG.at (R : SetG w h a ks) (k : ∀ o, h.get? a = some o → h'.get? a = some o) : SetG w h' a ks := by
  obtain ⟨o, es, ep, t, ho, r⟩ := R
  exact ⟨o, es, ep, t, k o ho, r⟩
theorem goodK_elems {l : List (Int × Value)} (g : ∀ e ∈ l, GoodK w e) : ElemsOf (mixKind P w) l := fun e he => by
  obtain ⟨k, h1, h2⟩ := g e he
  exact ⟨⟨k, h1, h2⟩, keyIs_scan h1⟩
theorem goodK_is {e : Int × Value} (g : GoodK w e) (k : Key) : keyIs k e.2 = true ↔ keyV e.2 = k := by
  obtain ⟨k0, h1, _⟩ := g
  constructor
  · exact keyV_of
  · intro q
    rw [← q, keyV_of h1]
    exact h1
theorem goodK_mem {l : List (Int × Value)} (g : ∀ e ∈ l, GoodK w e) (k : Key) : k ∈ l.map (fun e => keyV e.2) ↔ ∃ e ∈ l, (mixKind P w).is k e.2 = true := by
  rw [List.mem_map]
  constructor
  · rintro ⟨e, he, q⟩
    exact ⟨e, he, (goodK_is (g e he) k).2 q⟩
  · rintro ⟨e, he, q⟩
    exact ⟨e, he, (goodK_is (g e he) k).1 q⟩
open Classical in
theorem SetG.setOf (R : SetG w h a ks) : h.SetOf (mixKind P w) a (fun k => decide (k ∈ ks)) ks.length := by
  obtain ⟨o, es, ep, t, ho, hx, hd, g, pm, nd, hb, hf, _⟩ := R
  refine ⟨o, es, ep, t, ho, hx, hd, goodK_elems g, fun k => ?_, hb, hf, by rw [← pm.length_eq, List.length_map, Array.length_toList]⟩
  rw [decide_eq_true_eq, ← pm.mem_iff]
  exact goodK_mem g k
end
section
variable {P : Program} {w : World} {A : Around} {E : Value → Shared → Prop} {s : Shared} {a : Addr} {ks : List Key}
theorem storeG_at {h : Heap} {a : Addr} {o : Obj} {es es' : Array (Int × Value)} {ep : Nat} {t t' : SetTable} (ho : h.get? a = some o) (hd : o.data = .set es ep t) :
    (h.update a (Obj.putSet es' t')).get? a = some { o with data := .set es' (ep + 1) t' } := by
  have q := Heap.get?_update_self (Obj.putSet es' t') ho (by rw [putSet_of es' t' hd]; rfl)
  rw [putSet_of es' t' hd] at q
  exact q
theorem setG_add_tail {g : Bool → Sem Unit} (hg : ∀ (b : Bool) (s₁ : Shared) (Q' : Unit → Shared → Prop), Q' () s₁ → wpAny (model P w) A (g b) Q' E s₁)
    {o : Obj} {es : Array (Int × Value)} {ep : Nat} {t : SetTable} (ho : s.heap.get? a = some o) (hex : o.ExactSet) (hd : o.data = .set es ep t)
    {es1 : Array (Int × Value)} {t2 : SetTable} {ks' : List Key} (g1 : ∀ e ∈ es1.toList, GoodK w e) (pm1 : (es1.toList.map fun e => keyV e.2).Perm ks') (nd1 : ks'.Nodup)
    (hb1 : es1.size < scanBound) (hf2 : t2.fits es1.size = true) (hr : Ris t2.place.toList) (hl : w.params.followText "set-order" = true ∨ t2.led = true) {wasDummy : Bool} {R : Option Bool → Shared → Prop}
    (hR : ∀ h', Heap.SameBut a s.heap h' → SetG w h' a ks' → R (some true) { s with heap := h' }) :
    wpAny (model P w) A (do
        storeSet a es1 t2
        if (!wasDummy && t2.tooFull) = true then do
            g (relayAll t2 es1 (SetTable.grown es1.size)).2.2
            storeSet a (relayAll t2 es1 (SetTable.grown es1.size)).1 (relayAll t2 es1 (SetTable.grown es1.size)).2.1
            pure (some true)
          else pure (some true)) R E s := by
  refine wpAny_bind (wpAny_storeSet_of ho hd ?_ (fits_of_scanBound hb1))
  have ho1 := storeG_at (es' := es1) (t' := t2) ho hd
  have sb1 := Heap.SameBut.update s.heap a (Obj.putSet es1 t2)
  split
  · have pm := relayAll_perm t2 es1 (SetTable.grown es1.size)
    have hf3 := relayAll_fits t2 es1 (SetTable.grown es1.size)
    have hr3 := relayAll_ris t2 es1 (SetTable.grown es1.size)
    have hl3 := relayAll_led t2 es1 (SetTable.grown es1.size)
    generalize relayAll t2 es1 (SetTable.grown es1.size) = Z at pm hf3 hr3 hl3 ⊢
    obtain ⟨es2, t3, gave⟩ := Z
    dsimp only at pm hf3 hr3 hl3 ⊢
    have hsz : es2.size = es1.size := by rw [← Array.length_toList, pm.length_eq, Array.length_toList]
    have hb2 : es2.size < scanBound := by rw [hsz]; exact hb1
    refine wpAny_bind (hg _ _ _ ?_)
    refine wpAny_bind (wpAny_storeSet_of ho1 rfl ?_ (fits_of_scanBound hb2))
    have ho2 := storeG_at (es' := es2) (t' := t3) ho1 rfl
    refine wpAny_pure (hR _ (sb1.trans (Heap.SameBut.update _ a _)) ?_)
    exact ⟨_, es2, _, t3, ho2, hex, rfl, fun e he => g1 e (pm.mem_iff.mp he), (pm.map _).trans pm1, nd1, hb2, hf3, hr3, hl.imp id fun z => by rw [hl3]; exact z⟩
  · exact wpAny_pure (hR _ sb1 ⟨_, es1, _, t2, ho1, hex, rfl, g1, pm1, nd1, hb1, hf2, hr, hl⟩)
theorem setG_add_hashed {k : Key} {v : Value} {Q : Bool → Shared → Prop} (hk : keyIs k v = true) (R : SetG w s.heap a ks) (room : ks.length + 1 < scanBound)
    (hQ : ∀ (b : Bool) h', Heap.SameBut a s.heap h' → SetG w h' a (addK k ks) → Q b { s with heap := h' }) :
    wpAny (model P w) A (setAddHashed a v ((mixKind P w).hash k)) Q E s := by
  obtain ⟨o, es, ep, t, ho, hex, hd, g, pk0, nd, hb, hf, hr, hl⟩ := R
  have hkey : (mixKind P w).is k v = true := hk
  have hsc : v.scannable = true := keyIs_scan hk
  have hel : ElemsOf (mixKind P w) es.toList := goodK_elems g
  have hn : es.size = ks.length := by rw [← pk0.length_eq, List.length_map, Array.length_toList]
  unfold setAddHashed setAddHashedIn
  refine wpAny_holding (wpAny_bind (wpAny_setState_of ho hd hf ?_))
  dsimp only
  rw [byScan_of hsc hb hel]
  simp only [↓reduceIte]
  unfold setAddByScan
  refine wpAny_bind ?_
  refine wpAny_bind (wpAny_rule ?_)
  refine wpAny_bind (wpAny_setScan_of hkey ho hd hf hel ?_)
  cases hfi : List.findIdx? (fun e => (mixKind P w).is k e.2) es.toList with
  | some j =>
    dsimp only
    obtain ⟨hj, pj, _⟩ := List.findIdx?_eq_some_iff_getElem.mp hfi
    have hSk : k ∈ ks := pk0.mem_iff.mp ((goodK_mem (P := P) g k).2 ⟨es.toList[j], List.getElem_mem hj, pj⟩)
    refine wpAny_pure (wpAny_pure ?_)
    exact hQ _ s.heap (Heap.SameBut.refl a s.heap) ⟨o, es, ep, t, ho, hex, hd, g, by unfold addK; rw [if_pos hSk]; exact pk0, by unfold addK; rw [if_pos hSk]; exact nd, hb, hf, hr, hl⟩
  | none =>
    dsimp only
    have hSk : k ∉ ks := fun z => by
      obtain ⟨e, he, q⟩ := (goodK_mem (P := P) g k).1 (pk0.mem_iff.mpr z)
      have c := List.findIdx?_eq_none_iff.mp hfi e he
      rw [q] at c
      cases c
    have eK : addK k ks = k :: ks := by unfold addK; rw [if_neg hSk]
    have hgw : ∀ (b : Bool) {s₁ : Shared} {Q' : Unit → Shared → Prop}, Q' () s₁ → wpAny (model P w) A (match b with | true => rule "set.scan.the-table-gave-way" | false => pure ()) Q' E s₁ :=
      fun b s₁ Q' q => by cases b <;> first | exact wpAny_pure q | exact wpAny_rule q
    have pm := layNew_perm t es ((mixKind P w).hash k) v
    have hf1 := layNew_fits t es ((mixKind P w).hash k) v
    have hr1 := layNew_ris t es ((mixKind P w).hash k) v hr
    have hl1 := layNew_led t es ((mixKind P w).hash k) v
    generalize layNew t es ((mixKind P w).hash k) v = Z at pm hf1 hr1 hl1 ⊢
    obtain ⟨es1, t1, wasDummy, gave⟩ := Z
    dsimp only at pm hf1 hr1 hl1 ⊢
    rw [Array.toList_push] at pm
    have pc : es1.toList.Perm (((mixKind P w).hash k, v) :: es.toList) := pm.trans (List.perm_append_singleton _ _)
    have pk : (es1.toList.map fun e => keyV e.2).Perm (k :: ks) := by
      refine (pc.map _).trans ?_
      show (keyV v :: es.toList.map fun e => keyV e.2).Perm _
      rw [keyV_of hk]
      exact pk0.cons k
    have g1 : ∀ e ∈ es1.toList, GoodK w e := fun e he => by
      rcases List.mem_cons.mp (pc.mem_iff.mp he) with z | z
      · rw [z]; exact ⟨k, hk, rfl⟩
      · exact g e z
    have nd1 : (k :: ks).Nodup := List.nodup_cons.mpr ⟨hSk, nd⟩
    have hsz : es1.size = ks.length + 1 := by rw [← Array.length_toList, pc.length_eq, List.length_cons, Array.length_toList, hn]
    have hb1 : es1.size < scanBound := by rw [hsz]; exact room
    have hled : w.params.followText "set-order" = true ∨ t1.led = true := hl.imp id fun z => by rw [hl1]; exact z
    have fin : ∀ h', Heap.SameBut a s.heap h' → SetG w h' a (k :: ks) → Q true { s with heap := h' } := fun h' sb r => hQ true h' sb (by rw [eK]; exact r)
    refine wpAny_bind (hgw _ ?_)
    split
    · refine wpAny_bind ?_
      rw [hashByValue_scannable 8 hsc]
      refine wpAny_pure ?_
      refine setG_add_tail ?_ ho hex hd g1 pk nd1 hb1 ?_ ?_ ?_ ?_
      · intro b s₁ Q' q; cases b <;> first | exact wpAny_pure q | exact wpAny_rule q
      · first | (split <;> first | exact hf1 | exact SetTable.fits_plain_off hf1) | exact hf1
      · first | (split <;> exact hr1) | exact hr1
      · first | (split <;> exact hled) | exact hled
      · intro h' sb r; dsimp only; exact wpAny_pure (fin h' sb r)
    · refine wpAny_bind (wpAny_pure ?_)
      simp only [↓reduceIte]
      refine setG_add_tail ?_ ho hex hd g1 pk nd1 hb1 hf1 hr1 hled ?_
      · intro b s₁ Q' q; cases b <;> first | exact wpAny_pure q | exact wpAny_rule q
      · intro h' sb r; dsimp only; exact wpAny_pure (fin h' sb r)
/-- found.add(k) -/
theorem setG_add {k : Key} {v : Value} {Q : Value → Shared → Prop} (hk : keyIs k v = true) (R : SetG w s.heap a ks) (room : ks.length + 1 < scanBound)
    (hQ : ∀ h', Heap.SameBut a s.heap h' → SetG w h' a (addK k ks) → Q .none { s with heap := h', toks := s.toks + 1 }) :
    wpAny (model P w) A (call (.builtin "set.add") [.ref a, v]) Q E s := by
  have hS : s.heap.SetOf (mixKind P w) a _ _ := R.setOf
  refine wpAny_call_entry F.slot_set_add hS.typeIs F.entry_set_add ?_ (F.args_set_add_2 _ _)
  unfold Builtin.«set.add» Builtin.Frozenset.oneOther
  simp only [List.isEmpty_nil, bind_assoc]
  unfold Builtin.Frozenset.addrOf setAdd
  refine wpAny_bind (wpAny_pure ?_)
  try dsimp only
  refine wpAny_bind ?_
  refine wpAny_holding ?_
  refine wpAny_bind ((mixKind P w).pyHash hk ?_)
  refine setG_add_hashed (s := { s with toks := s.toks + 1 }) hk R room fun b h' sb r => ?_
  show wpAny _ _ (ret Value.none) _ _ _
  exact wpAny_pure ⟨_, rfl, hQ h' sb r⟩
theorem setG_fresh {h : Heap} (w : World) : SetG w (h.push { cls := .type "set", dict := none, data := .set #[] 0 (.fresh 0 0 (!w.params.followText "set-order")) }) h.objs.size [] :=
  ⟨_, #[], 0, _, Heap.get?_push_size _ rfl, ⟨rfl, rfl, rfl⟩, rfl, (fun e he => by simp at he), .nil, .nil, (by decide), (by rfl), List.Pairwise.nil, by
    show _ ∨ (!w.params.followText "set-order") = true
    cases w.params.followText "set-order"
    · exact .inr rfl
    · exact .inl rfl⟩
/-- as an object -/
def SetGO (w : World) (a : Addr) (ks : List Key) : HO := .ext fun h => SetG w h a ks
theorem setGO_new {w : World} {P : Program} {H : Hp} {h : Heap} {a : Addr} {ks : List Key} (R : SetG w h a ks) : ObjOk P w H h a (SetGO w a ks) := by
  have ⟨o, _, _, _, ho, _⟩ := R
  exact ⟨R, ⟨o, ho⟩, fun h1 h2 p k => SetG.at p k⟩
theorem setGO_get {X : L2.Cx} {pins : List (Addr × Obj)} {σ : L2.St} {H : Hp} {s : Shared} {a : Addr} {ks : List Key} (I : Inv X pins σ H s) (ha : H a = some (SetGO X.w a ks)) : SetG X.w s.heap a ks := (I.hok a _ ha).1
end
end Sd
end
section
set_option Elab.async false
set_option linter.all false
set_option maxRecDepth 100000
set_option maxHeartbeats 4000000
set_option autoImplicit false
namespace Sd
open PySem PySem.Spec PyProof.Rows L2
/-! ### sorted of a set -/
section
variable {P : Program} {w : World} {A : Around} {E : Value → Shared → Prop} {s : Shared} {a : Addr} {ks : List Key}
/-- the shell: the members gathered, then sorted by the list's own sort -/
theorem sortedG_shell {Q : Value → Shared → Prop} (R : SetG w s.heap a ks) (hh : A.handled = none) (h64 : ks.length < 64)
    (hQ : ∀ (s1 : Shared) (vs : List Value), (∀ b o, s.heap.get? b = some o → s1.heap.get? b = some o) → s.heap.objs.size ≤ s1.heap.objs.size → s1.gens = s.gens → s1.os = s.os → (vs.map keyV).Perm ks → (∀ v ∈ vs, ∃ k, keyIs k v = true) →
      wpAny (model P w) A.in1.in1 (Builtin.«list.sort» ⟨[.ref s1.heap.objs.size], []⟩) (fun f s' => ∃ v, f = .done (.ret v) ∧ Q (.ref s1.heap.objs.size) s') E { s1 with heap := s1.heap.push (seqObj "list" vs.toArray 0) }) :
    wpAny (model P w) A (call (.builtin "sorted") [.ref a]) Q E s := by
  obtain ⟨o, es, ep, t, ho, hex, hd, g, pm0, nd, hb, hf, hr, hl⟩ := R
  have hn : es.size = ks.length := by rw [← pm0.length_eq, List.length_map, Array.length_toList]
  refine Calls.call_function_entry kind_sorted plain_sorted entry_sorted (args_sorted1 _) ?_
  unfold Builtin.«sorted»
  refine wpAny_bind (m := checkCount "sorted" 1 1 _) (wpAny_pure ?_)
  refine wpAny_bind (L2.collect_set (A := A.in1) hh ⟨o, ho, hex.1, hd⟩ hf hb hr hl fun s1 vs k1 hz g1 o1 pm => ?_)
  have hvl : vs.length = ks.length := by rw [pm.length_eq, List.length_map, Array.length_toList]; exact hn
  refine wpAny_bind (wpAny_newList ?_ (by rw [hvl, sizeLine_eq]; omega))
  have hoL : (s1.heap.push (seqObj "list" vs.toArray 0)).get? s1.heap.objs.size = some (seqObj "list" vs.toArray 0) := Heap.get?_push_size _ rfl
  have key := hQ s1 vs k1 hz g1 o1 (by
    refine ((pm.map keyV).trans ?_)
    rw [List.map_map]
    exact pm0) fun v hv => by
      obtain ⟨e, he, q⟩ := List.mem_map.mp (pm.mem_iff.mp hv)
      obtain ⟨k, h1, _⟩ := g e he
      exact ⟨k, by rw [← q]; exact h1⟩
  refine wpAny_bind (wpAny_holding (wpAny_call_entry slot_list_sort ⟨_, hoL, rfl⟩ entry_list_sort (wpAny_mono key (fun f s' ⟨v, e, q⟩ => ⟨v, e, ?_⟩) fun _ _ x => x) (args_list_sort _)))
  exact wpAny_pure ⟨_, rfl, q⟩
theorem after_sort {s1 : Shared} {vs : List Value} (out : Array Value) : (∀ b o, s1.heap.get? b = some o → (sortedHeap (s1.heap.push (seqObj "list" vs.toArray 0)) s1.heap.objs.size vs out).get? b = some o) ∧
    ∃ c, (sortedHeap (s1.heap.push (seqObj "list" vs.toArray 0)) s1.heap.objs.size vs out).get? s1.heap.objs.size = some (seqObj "list" out c) := by
  have hoL : (s1.heap.push (seqObj "list" vs.toArray 0)).get? s1.heap.objs.size = some (seqObj "list" vs.toArray 0) := Heap.get?_push_size _ rfl
  refine ⟨fun b o q => ?_, sortedHeap_at (vs := vs) (out := out) hoL⟩
  have hlt := Heap.lt_size q
  rw [sortedHeap_old (Nat.ne_of_lt hlt) (by rw [size_push']; exact Nat.lt_succ_of_lt hlt)]
  exact Heap.get?_push_of_some _ q
theorem ints_keys : ∀ {vs : List Value}, (∀ v ∈ vs, ∃ k, keyIs k v = true) → ∀ {is : List Int}, vs.map keyV = is.map Sum.inl → IntsAre vs is
  | [], _, [], _ => .nil
  | [], _, _ :: _, e => nomatch e
  | _ :: _, _, [], e => nomatch e
  | v :: vs, h, i :: is, e => by
    injection e with e1 e2
    obtain ⟨k, hk⟩ := h v List.mem_cons_self
    rw [keyV_of hk] at e1
    subst e1
    rcases keyIs_shape hk with ⟨j, t, q, rfl⟩ | ⟨j, t, q, rfl⟩
    · injection q with q; subst q; exact .cons _ t (ints_keys (fun v hv => h v (List.mem_cons_of_mem _ hv)) e2)
    · cases q
theorem strs_keys : ∀ {vs : List Value}, (∀ v ∈ vs, ∃ k, keyIs k v = true) → ∀ {is : List Str}, vs.map keyV = is.map Sum.inr → StrsAre vs is
  | [], _, [], _ => .nil
  | [], _, _ :: _, e => nomatch e
  | _ :: _, _, [], e => nomatch e
  | v :: vs, h, i :: is, e => by
    injection e with e1 e2
    obtain ⟨k, hk⟩ := h v List.mem_cons_self
    rw [keyV_of hk] at e1
    subst e1
    rcases keyIs_shape hk with ⟨j, t, q, rfl⟩ | ⟨j, t, q, rfl⟩
    · cases q
    · injection q with q; subst q; exact .cons _ t (strs_keys (fun v hv => h v (List.mem_cons_of_mem _ hv)) e2)
theorem all_inl : ∀ {l : List Key}, (∀ k ∈ l, ∃ i, k = Sum.inl i) → ∃ is : List Int, l = is.map Sum.inl
  | [], _ => ⟨[], rfl⟩
  | k :: l, h => by
    obtain ⟨i, rfl⟩ := h k List.mem_cons_self
    obtain ⟨is, rfl⟩ := all_inl (l := l) fun k hk => h k (List.mem_cons_of_mem _ hk)
    exact ⟨i :: is, rfl⟩
theorem all_inr : ∀ {l : List Key}, (∀ k ∈ l, ∃ i, k = Sum.inr i) → ∃ is : List Str, l = is.map Sum.inr
  | [], _ => ⟨[], rfl⟩
  | k :: l, h => by
    obtain ⟨i, rfl⟩ := h k List.mem_cons_self
    obtain ⟨is, rfl⟩ := all_inr (l := l) fun k hk => h k (List.mem_cons_of_mem _ hk)
    exact ⟨i :: is, rfl⟩
theorem sortedG_ints {is : List Int} {Q : Value → Shared → Prop} (R : SetG w s.heap a (is.map Sum.inl)) (hh : A.handled = none) (h64 : is.length < 64)
    (hQ : ∀ s' p (out : Array Value) (c : Nat) (ns : List Int), (∀ b o, s.heap.get? b = some o → s'.heap.get? b = some o) → s'.gens = s.gens → s'.os = s.os → s.heap.objs.size ≤ p →
      s'.heap.get? p = some (seqObj "list" out c) → IntsAre out.toList ns → ns.Pairwise (· ≤ ·) → ns.Perm is → Q (.ref p) s') :
    wpAny (model P w) A (call (.builtin "sorted") [.ref a]) Q E s := by
  refine sortedG_shell R hh (by rw [List.length_map]; exact h64) fun s1 vs k1 hz g1 o1 pm hk => ?_
  have hoL : (s1.heap.push (seqObj "list" vs.toArray 0)).get? s1.heap.objs.size = some (seqObj "list" vs.toArray 0) := Heap.get?_push_size _ rfl
  obtain ⟨js, ej⟩ := all_inl (l := vs.map keyV) fun k hk => by
    obtain ⟨i, _, e⟩ := List.mem_map.mp (pm.mem_iff.mp hk)
    exact ⟨i, e.symm⟩
  have hI := ints_keys hk ej
  rw [ej] at pm
  have pj : js.Perm is := by
    have := pm.map (fun k : Key => match k with | .inl i => i | .inr _ => 0)
    rw [List.map_map, List.map_map] at this
    have e : ∀ l : List Int, l.map ((fun k : Key => match k with | .inl i => i | .inr _ => 0) ∘ Sum.inl) = l := fun l => by
      conv => rhs; rw [← List.map_id l]
      rfl
    rw [e, e] at this
    exact this
  have hl : vs.length < 64 := by rw [hI.length, pj.length_eq]; exact h64
  refine list_sort_tree hoL hI hl fun out ns' a1 a2 a3 => ⟨_, rfl, ?_⟩
  obtain ⟨k2, c, hc⟩ := after_sort (s1 := s1) (vs := vs) out
  exact hQ _ _ out c ns' (fun b o e => k2 b o (k1 b o e)) g1 o1 hz hc a1 a3 (a2.trans pj)
theorem sortedG_strs {is : List Str} {Q : Value → Shared → Prop} (R : SetG w s.heap a (is.map Sum.inr)) (hh : A.handled = none) (h64 : is.length < 64)
    (hQ : ∀ s' p (out : Array Value) (c : Nat) (ns : List Str), (∀ b o, s.heap.get? b = some o → s'.heap.get? b = some o) → s'.gens = s.gens → s'.os = s.os → s.heap.objs.size ≤ p →
      s'.heap.get? p = some (seqObj "list" out c) → StrsAre out.toList ns → sortedS ns = true → ns.Perm is → Q (.ref p) s') :
    wpAny (model P w) A (call (.builtin "sorted") [.ref a]) Q E s := by
  refine sortedG_shell R hh (by rw [List.length_map]; exact h64) fun s1 vs k1 hz g1 o1 pm hk => ?_
  have hoL : (s1.heap.push (seqObj "list" vs.toArray 0)).get? s1.heap.objs.size = some (seqObj "list" vs.toArray 0) := Heap.get?_push_size _ rfl
  obtain ⟨js, ej⟩ := all_inr (l := vs.map keyV) fun k hk => by
    obtain ⟨i, _, e⟩ := List.mem_map.mp (pm.mem_iff.mp hk)
    exact ⟨i, e.symm⟩
  have hI := strs_keys hk ej
  rw [ej] at pm
  have pj : js.Perm is := by
    have := pm.map (fun k : Key => match k with | .inr i => i | .inl _ => Str.empty)
    rw [List.map_map, List.map_map] at this
    have e : ∀ l : List Str, l.map ((fun k : Key => match k with | .inr i => i | .inl _ => Str.empty) ∘ Sum.inr) = l := fun l => by
      conv => rhs; rw [← List.map_id l]
      rfl
    rw [e, e] at this
    exact this
  have hl : vs.length < 64 := by rw [strs_len_eq hI, pj.length_eq]; exact h64
  refine list_sort_treeK strKind_oneLt hoL hI.keysOf (fun v₁ v₂ rest e => keyKind_strs (by rw [← e]; exact hI)) hl fun st' hp hs => ⟨_, rfl, ?_⟩
  obtain ⟨ss', h1, h2, h3⟩ := sorted_out_str hI hp hs
  obtain ⟨k2, c, hc⟩ := after_sort (s1 := s1) (vs := vs) ((arrOf st').map (·.2))
  exact hQ _ _ _ c ss' (fun b o e => k2 b o (k1 b o e)) g1 o1 hz hc h1 h3 (h2.trans pj)
end
/-- as a call -/
def rSortedG (w : World) : List V → Hp → VK → Prop := fun vs H Q => ∃ (a : Addr) (ks : List Key), vs = [V.ref a] ∧ H a = some (SetGO w a ks) ∧ ks.length < 64 ∧
  ((∃ is : List Int, ks = is.map Sum.inl ∧ ∀ (ns : List Int) (p : Addr), ns.Pairwise (· ≤ ·) → ns.Perm is → H p = none → Q (.ref p) (upd H p (.lst (ns.map V.int)))) ∨
   (∃ is : List Str, ks = is.map Sum.inr ∧ ∀ (ns : List Str) (p : Addr), sortedS ns = true → ns.Perm is → H p = none → Q (.ref p) (upd H p (.lst (ns.map V.str)))))
theorem cr_sortedG {X : L2.Cx} (hc : X.calm = true) : CallR X (.builtin "sorted") (rSortedG X.w) := by
  intro pins s σ H vs us Q I r h
  obtain ⟨a, ks, rfl, ha, h64, q⟩ := h
  have R := setGO_get I ha
  rw [Vals.ref1 r]
  have fin : ∀ (s' : Shared) (p : Addr) (out : Array Value) (c : Nat) (xs : List V), (∀ b o, s.heap.get? b = some o → s'.heap.get? b = some o) → s'.gens = s.gens → s'.os = s.os → s.heap.objs.size ≤ p →
      s'.heap.get? p = some (seqObj "list" out c) → Vals xs out.toList → xs.length < 64 → (H p = none → Q (.ref p) (upd H p (.lst xs))) → EP X pins σ Q (.ref p) s' := fun s' p out c xs k g o hp hg hv hl q => by
    have hlen : xs.length ≤ sizeLine := by rw [sizeLine_eq]; omega
    have hn : H p = none := I.hok.fresh hp
    have J : Inv X pins σ (upd H p (.lst xs)) { s with heap := s'.heap, gens := s'.gens, drawn := s'.drawn, toks := s'.toks } :=
      I.call (ch := []) (Un.laid k hp hn) (I.hok.laid k hp ⟨hlen, out.toList, c, hv, hg⟩) (by rw [g]; exact I.bare) (fun _ z => nomatch z)
    have e : s' = { s with heap := s'.heap, gens := s'.gens, drawn := s'.drawn, toks := s'.toks } := by
      cases s'
      cases s
      cases o
      rfl
    rw [e]
    exact ⟨.ref p, _, J, rfl, q hn⟩
  rcases q with ⟨is, rfl, q⟩ | ⟨is, rfl, q⟩
  · rw [List.length_map] at h64
    exact sortedG_ints R (I.ok.hd hc) h64 fun s' p out c ns k g o hp hg hi hs pm => fin s' p out c _ k g o hp hg (vals_of_ints hi) (by rw [List.length_map, pm.length_eq]; exact h64) (q ns p hs pm)
  · rw [List.length_map] at h64
    exact sortedG_strs R (I.ok.hd hc) h64 fun s' p out c ns k g o hp hg hi hs pm => fin s' p out c _ k g o hp hg (vals_of_strs hi) (by rw [List.length_map, pm.length_eq]; exact h64) (q ns p hs pm)
end Sd
end
section
set_option Elab.async false
set_option linter.all false
set_option maxRecDepth 100000
set_option maxHeartbeats 4000000
set_option autoImplicit false
namespace Sd
open PySem PySem.Spec PyProof.Rows L2 PpSet
theorem addG_ok {X : L2.Cx} {pins : List (Addr × Obj)} {σ : L2.St} {H : Hp} {s : Shared} {E : Value → Shared → Prop} {D : Addr} {ks : List Key} {k : Key} {u : Value} {Q : Value → Shared → Prop} (I : Inv X pins σ H s) (r : RelV (kV k) u) (hD : H D = some (SetGO X.w D ks)) (room : ks.length + 1 < scanBound)
    (hQ : ∀ s', Inv X pins σ (upd H D (SetGO X.w D (addK k ks))) s' → Q .none s') :
    wpAny (model X.prog X.w) X.A (call (.builtin "set.add") [.ref D, u]) Q E s := by
  refine setG_add (P := X.prog) (kV_is (P := X.prog) (w := X.w) r) (setGO_get I hD) room fun h' sb new => ?_
  have he : ∃ u, h'.get? D = some u := by
    have ⟨o, _, _, _, ho, _⟩ := new
    exact ⟨o, ho⟩
  exact hQ _ (I.write (e := D) (t' := s.toks + 1) (by rw [hD]; trivial) (.inl rfl) (fun b u hb hu => (sb.2 b hb).trans hu) he (setGO_new new))
section
variable {X : Cx}
def tSg (w : World) (wi : TI) (g : TG) (tt : TT) (te : TE) (vs : List Nat) : TE := fun σ H Q => wi σ H fun J H1 => ∀ D, H1 D = none → ∃ W : Nat → Nat → Hp → Prop, (∃ m, W 0 m (upd H1 D (SetGO w D []))) ∧ ∀ i m H, W i m H →
  (J.stop i H ∧ Q (.ref D) H) ∨ (J.go i H ∧ ∃ Nx : Hp → Prop, (∀ H', Nx H' → ∃ m', m' < m ∧ W (i + 1) m' H') ∧ ∀ x H', J.yld i H x H' → g x (wipe σ vs) H' fun σ2 H2 => wipe σ2 vs = wipe σ vs ∧ tt σ2 H2 fun b H3 =>
    if b = true then te σ2 H3 fun y H4 => ∃ (k : Key) (ks : List Key), y = kV k ∧ H4 D = some (SetGO w D ks) ∧ ks.length + 1 < scanBound ∧ Nx (upd H4 D (SetGO w D (addK k ks))) else Nx H3)
theorem sg_core {pins : List (Addr × Obj)} {s : Shared} {σ : L2.St} {H : Hp} {Q : VK} {elt tg iter : Expr} {ifs : List Expr} {scope : Scope} {own : List (PySem.Str × Nat)} {pos pos' : Pos} {wi : TI} {g : TG} {tt : TT} {te : TE} {use : Option (Value → Sem Unit)} {Qf : Value → Shared → Prop}
    (hc : X.calm = true) (hN : X.N.Nodup) (I : Inv X pins σ H s) (hi : PI X tg iter wi) (ok : BlkOk X.N X.env.scope scope own)
    (hg : ∀ (s : Shared) (H : Hp) (C : Addr) (cl : List (PySem.Str × Addr)) (fp : List Addr), PG (X.blk s H scope (compEnvC scope cl C X.env) fp) tg g) (ht : ∀ (s : Shared) (H : Hp) (C : Addr) (cl : List (PySem.Str × Addr)) (fp : List Addr), PTs (X.blk s H scope (compEnvC scope cl C X.env) fp) ifs tt)
    (he : ∀ (s : Shared) (H : Hp) (C : Addr) (cl : List (PySem.Str × Addr)) (fp : List Addr), PE (X.blk s H scope (compEnvC scope cl C X.env) fp) elt te) (hs : ∀ x, foldedSetIterable iter X.env x = pure x)
    (h : tSg X.w wi g tt te (own.map (·.2)) σ H Q)
    (hRR : ∀ D C s' m H', Inv X pins σ H' s' → Q (.ref D) H' → s'.heap.Ns C m → FpOk X pins H' C → compPost (model X.prog X.w) X.A X.xe use Qf (.ref D) C (.ok .next) s') :
    wpAny (model X.prog X.w) X.A (comprehension (.SetComp elt [⟨tg, iter, ifs, 0⟩] scope pos) scope X.env pos' (newSet (.type "set")) false (eval iter X.env) use) Qf X.xe s := by
  have hfree : ∀ y ∈ scope.names, y.2 = .free → ∃ c, X.env.cells.lookup y.1 = some c := fun y hy e => by
    rcases ok.free y hy e with k | k
    · exact I.ok.has _ (.inl k)
    · exact I.ok.has _ (.inr k)
  refine wpAny_comprehension_free (use := use) rfl hs (closure_ok hfree) ok.kind (fun y hy e => by rw [ok.uniq y hy, e])
    (thn (hi.run pins s σ H _ I h) fun xv s1 hx => thn hx fun itv s2 h2 => ?_)
  obtain ⟨it, fp, tn, J, H2, e, I2, T, st2, f2, q⟩ := h2
  subst e
  refine newSet_ok (newEnv_comp ?_)
  generalize hD : s2.heap.objs.size = D
  have hDn : H2 D = none := I2.hok.fresh (Nat.le_of_eq hD)
  obtain ⟨W, ⟨m0, w0⟩, turn⟩ := q D hDn
  -- the new list
  generalize hs3 : ({ s2 with heap := s2.heap.push { cls := .type "set", dict := none, data := .set #[] 0 (.fresh 0 0 (!X.w.params.followText "set-order")) } } : Shared) = s3
  have I3 : Inv X pins σ (upd H2 D (SetGO X.w D [])) s3 := by
    rw [← hs3]
    refine I2.laid (t' := s2.toks) (fun b o e => Heap.get?_push_of_some _ e) (Nat.le_of_eq hD) ?_
    rw [← hD]
    exact setGO_new (setG_fresh X.w)
  have h3 : s3.heap = s2.heap.push { cls := .type "set", dict := none, data := .set #[] 0 (.fresh 0 0 (!X.w.params.followText "set-order")) } := by rw [← hs3]
  have sz : ∀ b ∈ fp, b < s2.heap.objs.size := fun b hb => by
    obtain ⟨o, e, _⟩ := T.obj _ _ st2 b hb
    exact Heap.lt_size e
  have f3 : ∀ b ∈ fp, FpOk X pins (upd H2 D (SetGO X.w D [])) b ∧ b < s3.heap.objs.size := fun b hb => by
    have hlt := sz b hb
    refine ⟨⟨?_, (f2 b hb).2⟩, by rw [h3, Heap.size_push]; exact Nat.lt_succ_of_lt hlt⟩
    rw [upd_ne (by rw [← hD]; exact Nat.ne_of_lt hlt)]
    exact (f2 b hb).1
  have st3 : tn 0 s3.heap := T.keep _ _ _ st2 fun b _ o e => by rw [h3]; exact Heap.get?_push_of_some _ e
  have I4 := block_start I3 ok hN f3
  have pg := hg s3 (upd H2 D (SetGO X.w D [])) s3.heap.objs.size (cellsFrom (s3.heap.objs.size + 1) scope.names (cloFrom X.env.cells scope.names [])) fp
  have pt := ht s3 (upd H2 D (SetGO X.w D [])) s3.heap.objs.size (cellsFrom (s3.heap.objs.size + 1) scope.names (cloFrom X.env.cells scope.names [])) fp
  have pe := he s3 (upd H2 D (SetGO X.w D [])) s3.heap.objs.size (cellsFrom (s3.heap.objs.size + 1) scope.names (cloFrom X.env.cells scope.names [])) fp
  show codeAny _ _ (.compStart (.SetComp elt [⟨tg, iter, ifs, 0⟩] scope pos) 0 (.ref it) (.ref D) (compEnvC scope (cellsFrom (s3.heap.objs.size + 1) scope.names (cloFrom X.env.cells scope.names [])) s3.heap.objs.size X.env)) (compPost (model X.prog X.w) X.A X.xe use Qf (.ref D) s3.heap.objs.size) { s3 with heap := pushCells (s3.heap.push { cls := .type "dict", data := .dict #[] }) scope.names }
  have nfp : ∀ b ∈ fp, (upd H2 D (SetGO X.w D [])) b = none := fun b hb => (f3 b hb).1.1
  generalize hce : compEnvC scope (cellsFrom (s3.heap.objs.size + 1) scope.names (cloFrom X.env.cells scope.names [])) s3.heap.objs.size X.env = ce at I4 pg pt pe ⊢
  have cL : ce.locals = s3.heap.objs.size := by subst hce; rfl
  generalize hH3 : upd H2 D (SetGO X.w D []) = H3 at I3 I4 pg pt pe w0 nfp f3
  generalize hs4 : ({ s3 with heap := pushCells (s3.heap.push { cls := .type "dict", data := .dict #[] }) scope.names } : Shared) = s4 at I4 ⊢
  have st4 : tn 0 s4.heap := T.keep _ _ _ st3 fun b _ o e => by rw [← hs4]; exact pushCells_keeps _ _ _ _ (Heap.get?_push_of_some _ e)
  have stat : ∀ {σ' : L2.St} {H' : Hp} {s' : Shared}, Inv (X.blk s3 H3 scope ce fp) [] σ' H' s' → (∀ b ∈ fp, H' b = none) → ∀ b ∈ fp, FpOk (X.blk s3 H3 scope ce fp) [] H' b := fun {σ' H' s'} I' hn b hb =>
    ⟨hn b hb, (I'.ok.exf b hb).1, I'.ok.exfs b hb, .inl hb, fun x c e => (I'.ok.exf b hb).2 x c e, fun p hp => absurd (show p ∈ ([] : List (Addr × Obj)) ++ [] from hp) (by simp)⟩
  have loop : codeAny (model X.prog X.w) X.A (.compLoop (.SetComp elt [⟨tg, iter, ifs, 0⟩] scope pos) 0 (.ref it) (.ref D) ce) (compPost (model X.prog X.w) X.A X.xe use Qf (.ref D) s3.heap.objs.size) s4 := by
    refine compLoopS_any (fun n s' => ∃ i H', Inv (X.blk s3 H3 scope ce fp) [] (wipe σ (own.map (·.2))) H' s' ∧ tn i s'.heap ∧ (∀ b ∈ fp, H' b = none) ∧ W i n H') ?_ m0 ⟨0, H3, I4, st4, nfp, w0⟩
    rintro n s5 ⟨i, H5, I5, st5, n5, w5⟩
    rcases turn i n H5 w5 with ⟨stop, qq⟩ | ⟨go, Nx, hNx, step⟩
    · have td := T.done (X.blk s3 H3 scope ce fp) rfl rfl rfl hc i [] s5 _ H5 (fun _ _ => False) I5 (stat I5 n5) st5 stop
      refine thnF td fun r s6 ⟨hr, I6⟩ => ?_
      subst hr
      -- back in the def's context
      have I7 : Inv X pins σ H5 s6 := I3.call' (ch := fp) I6.os I6.base I6.hok I6.bare fun b hb => ⟨(f3 b hb).1.2.2.2.1, (f3 b hb).1.2.1, (f3 b hb).1.2.2.2.2.1, (f3 b hb).1.2.2.2.2.2⟩
      have nC : H5 s3.heap.objs.size = none := by
        have z : H5 ce.locals = none := I6.free
        rw [cL] at z
        exact z
      obtain ⟨m, hn, _⟩ := I6.loc
      have hn : s6.heap.Ns ce.locals m := hn
      rw [cL] at hn
      exact hRR D s3.heap.objs.size s6 m H5 I7 qq hn (I3.fpOk (Nat.le_refl _) nC)
    · have ti := T.item (X.blk s3 H3 scope ce fp) rfl rfl rfl hc i [] s5 _ H5 (fun _ _ => False) I5 (stat I5 n5) st5 go
      refine thnF ti fun r s6 ⟨u, hr, h6⟩ => ?_
      subst hr
      refine thnF h6 fun _ s7 ⟨x, H7, I7, r7, y7, st7, n7⟩ => ?_
      have I7' := I7.pinned (stat I7 n7) (T.obj _ _ st7)
      refine thnF (pg.run _ s7 _ H7 x u _ I7' r7 (step x H7 y7)) fun _ s8 ⟨σ8, H8, I8, hw8, q8⟩ => ?_
      refine thnF (pt.run _ s8 σ8 H8 _ I8 q8) fun b s9 ⟨H9, I9, q9⟩ => ?_
      -- the turn's end
      have fin : ∀ {s' : Shared} {H' : Hp}, Inv (X.blk s3 H3 scope ce fp) ([] ++ pinsAt fp s7.heap) σ8 H' s' → Nx H' → ∃ m, m < n ∧ ∃ i H', Inv (X.blk s3 H3 scope ce fp) [] (wipe σ (own.map (·.2))) H' s' ∧ tn i s'.heap ∧ (∀ b ∈ fp, H' b = none) ∧ W i m H' := fun {s' H'} I' nx => by
        obtain ⟨m', hm, w'⟩ := hNx H' nx
        have pin' : ∀ b ∈ fp, ∀ o, s7.heap.get? b = some o → s'.heap.get? b = some o ∧ H' b = none := fun b hb o e =>
          let z := I'.pin (b, o) (List.mem_append_right _ (List.mem_append_right _ (mem_pinsAt hb e)))
          ⟨z.1, z.2.1⟩
        have hl : (wipe σ (own.map (·.2))).length = σ8.length := by rw [← hw8, wipe_length]
        refine ⟨m', hm, i + 1, H', (I'.unpinned (pins := [])).weak hl (fun j v e => ?_), T.keep _ _ _ st7 fun b hb o e => (pin' b hb o e).1, fun b hb => ?_, w'⟩
        · rw [← hw8] at e
          exact (wipe_some e).1
        · obtain ⟨o, e, _⟩ := T.obj _ _ st7 b hb
          exact (pin' b hb o e).2
      cases b with
      | false =>
        simp only [Bool.false_eq_true, if_false] at q9 ⊢
        exact fin I9 q9
      | true =>
        simp only [if_true] at q9 ⊢
        refine thnF (pe.run _ s9 σ8 H9 _ I9 q9) fun z s10 ⟨yv, H10, I10, r10, kk, ks0, ey, hD10, hz10, nx⟩ => ?_
        subst ey
        exact addG_ok (X := X.blk s3 H3 scope ce fp) I10 r10 hD10 hz10 fun s11 I11 => fin I11 nx
  exact codeAny_compStart_set loop (T.self X.A 0 _ _ _ st4 loop)
theorem pe_sg {elt tg iter : Expr} {ifs : List Expr} {scope : Scope} {own : List (PySem.Str × Nat)} {pos : Pos} {wi : TI} {g : TG} {tt : TT} {te : TE} (hc : X.calm = true) (hN : X.N.Nodup) (hi : PI X tg iter wi) (ok : BlkOk X.N X.env.scope scope own)
    (hg : ∀ (s : Shared) (H : Hp) (C : Addr) (cl : List (PySem.Str × Addr)) (fp : List Addr), PG (X.blk s H scope (compEnvC scope cl C X.env) fp) tg g) (ht : ∀ (s : Shared) (H : Hp) (C : Addr) (cl : List (PySem.Str × Addr)) (fp : List Addr), PTs (X.blk s H scope (compEnvC scope cl C X.env) fp) ifs tt)
    (he : ∀ (s : Shared) (H : Hp) (C : Addr) (cl : List (PySem.Str × Addr)) (fp : List Addr), PE (X.blk s H scope (compEnvC scope cl C X.env) fp) elt te) (hs : ∀ x, foldedSetIterable iter X.env x = pure x) :
    PE X (.SetComp elt [⟨tg, iter, ifs, 0⟩] scope pos) (tSg X.w wi g tt te (own.map (·.2))) := by
  refine ⟨fun pins s σ H Q I h => ?_⟩
  rw [eval_SetComp]
  refine sg_core hc hN I hi ok hg ht he hs h fun D C s' m H' I' q hn f => ⟨m, hn, fun h'' sb => ?_⟩
  obtain ⟨f0, f1, f2, f3, f4, f5⟩ := f
  exact ⟨.ref D, H', I'.turned (t' := s'.toks) (fun b o hb e => (sb.2 b hb).trans e) f0 f1 f3 f4 f5, rfl, q⟩
end
end Sd
end
section
set_option Elab.async false
set_option linter.all false
set_option maxRecDepth 100000
set_option maxHeartbeats 4000000
set_option autoImplicit false
namespace Sd
open PySem PySem.Spec PyProof.Rows L2
/-! ### the members of a set, told by a list -/
def KeyL (ps : List Ev.PV) (ks : List Key) : Prop := ∃ kl : List Key, ps = kl.map keyPV ∧ (∀ k ∈ kl, okK k) ∧ ks.Nodup ∧ (∀ k, k ∈ ks ↔ k ∈ kl) ∧ ks.length ≤ kl.length
theorem KeyL.nil : KeyL [] [] := ⟨[], rfl, (fun _ h => nomatch h), .nil, fun _ => Iff.rfl, Nat.le_refl _⟩
theorem KeyL.len {ps : List Ev.PV} {ks : List Key} (h : KeyL ps ks) : ks.length ≤ ps.length := by
  obtain ⟨kl, rfl, _, _, _, hl⟩ := h
  rw [List.length_map]; exact hl
theorem KeyL.add {ps : List Ev.PV} {ks : List Key} {k : Key} (h : KeyL ps ks) (hk : okK k) : KeyL (ps ++ [keyPV k]) (addK k ks) := by
  obtain ⟨kl, rfl, ho, nd, hm, hl⟩ := h
  refine ⟨kl ++ [k], by rw [List.map_append]; rfl, fun x hx => ?_, ?_, fun x => ?_, ?_⟩
  · rcases List.mem_append.mp hx with z | z
    · exact ho x z
    · rw [List.mem_singleton.mp z]; exact hk
  · unfold addK
    split
    · exact nd
    · exact List.nodup_cons.mpr ⟨‹_›, nd⟩
  · rw [List.mem_append, List.mem_singleton]
    unfold addK
    split
    · rename_i hin
      rw [hm x]
      exact ⟨.inl, fun z => z.elim id fun e => e ▸ (hm k).mp hin⟩
    · rw [List.mem_cons, hm x]
      exact Or.comm
  · rw [List.length_append, List.length_singleton]
    unfold addK
    split
    · omega
    · rw [List.length_cons]; omega
theorem dd_spec {α : Type} [BEq α] [LawfulBEq α] (f : List α → List α) (h0 : f [] = []) (h1 : ∀ i, f [i] = [i]) (h2 : ∀ i j r, f (i :: j :: r) = if i == j then f (j :: r) else i :: f (j :: r)) (le : α → α → Prop) (anti : ∀ a b, le a b → le b a → a = b) :
    ∀ l : List α, l.Pairwise le → (∀ a, a ∈ f l ↔ a ∈ l) ∧ (f l).Pairwise le ∧ (f l).Nodup
  | [], _ => by rw [h0]; exact ⟨fun _ => Iff.rfl, .nil, .nil⟩
  | [i], _ => by rw [h1]; exact ⟨fun _ => Iff.rfl, List.pairwise_singleton .., List.nodup_cons.mpr ⟨(fun h => nomatch h), .nil⟩⟩
  | i :: j :: r, h => by
    obtain ⟨a1, a2⟩ := List.pairwise_cons.mp h
    obtain ⟨m, p, n⟩ := dd_spec f h0 h1 h2 le anti (j :: r) a2
    rw [h2]
    by_cases e : i = j
    · subst e
      rw [if_pos (beq_self_eq_true i)]
      refine ⟨fun a => ?_, p, n⟩
      rw [m a]
      simp
    · rw [if_neg (by simpa using e)]
      refine ⟨fun a => by rw [List.mem_cons, m a, ← List.mem_cons], List.pairwise_cons.mpr ⟨fun a ha => a1 a ((m a).mp ha), p⟩, List.nodup_cons.mpr ⟨fun hi => ?_, n⟩⟩
      have hi := (m i).mp hi
      rcases List.mem_cons.mp hi with z | z
      · exact e z
      · exact e (anti i j (a1 j List.mem_cons_self) ((List.pairwise_cons.mp a2).1 i z))
theorem ddI_spec (l : List Int) (h : l.Pairwise (· ≤ ·)) : (∀ a, a ∈ Ev.dedupI l ↔ a ∈ l) ∧ (Ev.dedupI l).Pairwise (· ≤ ·) ∧ (Ev.dedupI l).Nodup :=
  dd_spec Ev.dedupI rfl (fun _ => rfl) (fun _ _ _ => rfl) _ (fun _ _ => Int.le_antisymm) l h
theorem ddT_spec (l : List Ev.Txt) (h : l.Pairwise leS) : (∀ a, a ∈ Ev.dedupT l ↔ a ∈ l) ∧ (Ev.dedupT l).Pairwise leS ∧ (Ev.dedupT l).Nodup :=
  dd_spec Ev.dedupT rfl (fun _ => rfl) (fun _ _ _ => rfl) _ (fun _ _ h1 h2 => ltT_anti h2 h1) l h
theorem keys_int : ∀ {kl : List Key} {is : List Int}, Ev.allInts (kl.map keyPV) = some is → kl = is.map Sum.inl
  | [], is, e => by simp [Ev.allInts] at e; subst e; rfl
  | k :: r, is, e => by
    cases k with
    | inl i =>
      simp [Ev.allInts, keyPV] at e
      obtain ⟨ms, e1, e2⟩ := e
      subst e2
      rw [keys_int e1]; rfl
    | inr x => simp [Ev.allInts, keyPV] at e
theorem keys_str : ∀ {kl : List Key} {is : List Ev.Txt}, Ev.allStrs (kl.map keyPV) = some is → kl = (is.map toS).map Sum.inr
  | [], is, e => by simp [Ev.allStrs] at e; subst e; rfl
  | k :: r, is, e => by
    cases k with
    | inl i => simp [Ev.allStrs, keyPV] at e
    | inr x =>
      simp [Ev.allStrs, keyPV] at e
      obtain ⟨ms, e1, e2⟩ := e
      subst e2
      rw [keys_str e1]
      simp [toS]
theorem mem_inl {l : List Int} {i : Int} : (Sum.inl i : Key) ∈ l.map Sum.inl ↔ i ∈ l := by
  rw [List.mem_map]
  exact ⟨fun ⟨j, h, e⟩ => by cases e; exact h, fun h => ⟨i, h, rfl⟩⟩
theorem mem_inr {l : List Str} {i : Str} : (Sum.inr i : Key) ∈ l.map Sum.inr ↔ i ∈ l := by
  rw [List.mem_map]
  exact ⟨fun ⟨j, h, e⟩ => by cases e; exact h, fun h => ⟨i, h, rfl⟩⟩
theorem nodup_of_map {α β : Type} {f : α → β} : ∀ {l : List α}, (l.map f).Nodup → l.Nodup
  | [], _ => .nil
  | a :: l, h => by
    rw [List.map_cons, List.nodup_cons] at h
    exact List.nodup_cons.mpr ⟨fun z => h.1 (List.mem_map.mpr ⟨a, z, rfl⟩), nodup_of_map h.2⟩
theorem mem_toS {l : List Ev.Txt} {x : Str} : x ∈ l.map toS ↔ x.cps.toList ∈ l := by
  rw [List.mem_map]
  constructor
  · rintro ⟨a, h, rfl⟩
    simpa [toS] using h
  · intro h
    exact ⟨_, h, by simp [toS]⟩
theorem map_toS_nodup {l : List Ev.Txt} (h : l.Nodup) : (l.map toS).Nodup := by
  refine List.Pairwise.map toS (fun a b hab e => hab ?_) h
  have := congrArg (fun s : Str => s.cps.toList) e
  simpa [toS] using this
/-- sorted, they are sortSet's -/
theorem KeyL.sorted {ps : List Ev.PV} {ks : List Key} {v : Ev.PV} (h : KeyL ps ks) (e : Ev.sSetSorted [.lst ps] = some v) : ks.length < 64 ∧
    ((∃ is : List Int, ks = is.map Sum.inl ∧ ∀ ns : List Int, ns.Pairwise (· ≤ ·) → ns.Perm is → v = .lst (ns.map .int)) ∨
     (∃ is : List Str, ks = is.map Sum.inr ∧ ∀ ns : List Str, sortedS ns = true → ns.Perm is → ∃ ts : List Ev.Txt, v = .lst (ts.map .str) ∧ ns = ts.map toS ∧ ∀ t ∈ ts, okT t)) := by
  have hlen := h.len
  obtain ⟨kl, rfl, ho, nd, hm, hl⟩ := h
  unfold Ev.sSetSorted at e
  simp only at e
  split at e
  · rename_i h64
    rw [Option.bind_eq_some_iff] at e
    obtain ⟨r, e, e9⟩ := e
    split at e9 <;> first | cases e9 | skip
    rename_i hr64
    unfold Ev.sortSet at e
    split at e
    · rename_i is e1
      cases e
      have ek := keys_int e1
      obtain ⟨js, ej⟩ := all_inl (l := ks) fun k hk => by
        have := (hm k).mp hk
        rw [ek] at this
        obtain ⟨i, _, e⟩ := List.mem_map.mp this
        exact ⟨i, e.symm⟩
      obtain ⟨d1, d2, d3⟩ := ddI_spec _ (sortI_sorted is)
      rw [ej] at nd hm
      have ndj : js.Nodup := nodup_of_map nd
      have hmj : ∀ i, i ∈ js ↔ i ∈ is := fun i => by rw [← mem_inl, hm, ek, mem_inl]
      have hpj : js.Perm (Ev.dedupI (Ev.sortI is)) := (List.perm_ext_iff_of_nodup ndj d3).mpr fun a => by rw [hmj, d1, (sortI_perm is).mem_iff]
      refine ⟨by rw [ej, List.length_map, hpj.length_eq]; rw [List.length_map] at hr64; exact hr64, ?_⟩
      refine .inl ⟨js, ej, fun ns hs hp => ?_⟩
      have : ns = Ev.dedupI (Ev.sortI is) := List.Perm.eq_of_pairwise (le := (· ≤ ·)) (fun a b _ _ => Int.le_antisymm) hs d2 ((List.perm_ext_iff_of_nodup (hp.nodup_iff.mpr ndj) d3).mpr fun a => by
        rw [hp.mem_iff, hmj, d1, (sortI_perm is).mem_iff])
      rw [this]
    · rw [Option.map_eq_some_iff] at e
      obtain ⟨ss, e1, rfl⟩ := e
      have ek := keys_str e1
      obtain ⟨js, ej⟩ := all_inr (l := ks) fun k hk => by
        have := (hm k).mp hk
        rw [ek] at this
        obtain ⟨i, _, e⟩ := List.mem_map.mp this
        exact ⟨i, e.symm⟩
      obtain ⟨d1, d2, d3⟩ := ddT_spec _ (sortT_sorted ss)
      rw [ej] at nd
      have hm2 := hm
      rw [ej] at hm2
      have ndj : js.Nodup := nodup_of_map nd
      have hmj : ∀ x : Str, x ∈ js ↔ x.cps.toList ∈ ss := fun i => by rw [← mem_inr, hm2, ek, mem_inr, mem_toS]
      have hpj : js.Perm ((Ev.dedupT (Ev.sortT ss)).map toS) := (List.perm_ext_iff_of_nodup ndj (map_toS_nodup d3)).mpr fun a => by
        rw [hmj, mem_toS, d1, (sortT_perm ss).mem_iff]
      refine ⟨by rw [ej, List.length_map, hpj.length_eq, List.length_map]; rw [List.length_map] at hr64; exact hr64, ?_⟩
      refine .inr ⟨js, ej, fun ns hs hp => ⟨Ev.dedupT (Ev.sortT ss), rfl, ?_, fun t ht => ?_⟩⟩
      · skip
        have pm : ns.Perm ((Ev.dedupT (Ev.sortT ss)).map toS) := (List.perm_ext_iff_of_nodup (hp.nodup_iff.mpr ndj) (map_toS_nodup d3)).mpr fun a => by
          rw [hp.mem_iff, hmj, mem_toS, d1, (sortT_perm ss).mem_iff]
        rw [texts_sorted pm hs]
        exact congrArg (List.map toS) (sortT_uniq (.refl _) d2).symm
      · have h1 := (ddT_spec _ (sortT_sorted ss)).1 t
        have h2 : t ∈ ss := (sortT_perm ss).mem_iff.mp (h1.mp ht)
        have h3 : (Sum.inr (toS t) : Key) ∈ kl := by
          rw [ek]
          exact mem_inr.mpr (List.mem_map.mpr ⟨t, h2, rfl⟩)
        have := ho _ h3
        simpa [okK, toS] using this
  · cases e
theorem setSorted_keys {ps : List Ev.PV} {v : Ev.PV} (e : Ev.sSetSorted [.lst ps] = some v) : ∀ p ∈ ps, (∃ i, p = .int i) ∨ ∃ s, p = .str s := by
  have hi : ∀ {ps : List Ev.PV} {is : List Int}, Ev.allInts ps = some is → ∀ p ∈ ps, ∃ i, p = .int i := by
    intro ps
    induction ps with
    | nil => intro is e p hp; cases hp
    | cons q ps ih =>
      intro is e p hp
      cases q <;> simp [Ev.allInts] at e
      obtain ⟨ms, e1, _⟩ := e
      rcases List.mem_cons.mp hp with rfl | hp
      · exact ⟨_, rfl⟩
      · exact ih e1 p hp
  have hs : ∀ {ps : List Ev.PV} {is : List Ev.Txt}, Ev.allStrs ps = some is → ∀ p ∈ ps, ∃ i, p = .str i := by
    intro ps
    induction ps with
    | nil => intro is e p hp; cases hp
    | cons q ps ih =>
      intro is e p hp
      cases q <;> simp [Ev.allStrs] at e
      obtain ⟨ms, e1, _⟩ := e
      rcases List.mem_cons.mp hp with rfl | hp
      · exact ⟨_, rfl⟩
      · exact ih e1 p hp
  unfold Ev.sSetSorted at e
  simp only at e
  split at e <;> first | cases e | skip
  rw [Option.bind_eq_some_iff] at e
  obtain ⟨r, e, _⟩ := e
  unfold Ev.sortSet at e
  split at e
  · exact fun p hp => .inl (hi ‹_› p hp)
  · rw [Option.map_eq_some_iff] at e
    obtain ⟨ss, e1, rfl⟩ := e
    exact fun p hp => .inr (hs e1 p hp)
theorem key_rep {K : PySem.W.Frag} {F : Hp} {p : Ev.PV} {z : V} (h : (∃ i, p = .int i) ∨ ∃ s, p = .str s) (r : Rep K F p z) : ∃ k, p = keyPV k ∧ z = kV k ∧ okK k := by
  rcases h with ⟨i, rfl⟩ | ⟨s, rfl⟩
  · exact ⟨.inl i, rfl, r, trivial⟩
  · obtain ⟨r1, r2⟩ := r
    refine ⟨.inr (toS s), by simp [keyPV, toS], r1, by simpa [okK, toS] using r2⟩
end Sd
end
section
set_option Elab.async false
set_option linter.all false
set_option maxRecDepth 100000
set_option maxHeartbeats 4000000
set_option autoImplicit false
namespace Sd
open PySem PySem.Spec PyProof.Rows L2
section
variable {K : PySem.W.Frag} {g g1 : Gh} {σ : L2.St} {H H1 P0 : Hp} {st st1 : Ev.St} {D : Addr} {o o' : HO}
theorem R.dropD (r : R K { g with P := L2.upd P0 D o } σ H st) (h0 : P0 D = none) : R K { g with P := P0 } σ H st := by
  have sp : Sub P0 (L2.upd P0 D o) := Sub.upd_new h0
  refine ⟨r.sub, r.len, fun i v e => ?_, r.dis, r.old, r.f0, r.new, r.ob, sp.trans r.psub, fun a u e => r.pf a u (sp a u e)⟩
  obtain ⟨x, h1, h2⟩ := r.slot i v e
  refine ⟨x, h1, ?_⟩
  cases v with
  | val p => exact h2
  | own p =>
    obtain ⟨a, u, e1, e2, e3, e4, e5, e6, e7⟩ := h2
    exact ⟨a, u, e1, e2, e3, e4, e5, e6, sp.none e7⟩
theorem R.dropD' (r : R K g σ H st) (hP : g.P = L2.upd P0 D o) (h0 : P0 D = none) : R K { g with P := P0 } σ H st := by
  cases g
  cases hP
  exact R.dropD r h0
end
/-- what sorted of a set of such members hands on -/
theorem sortG_ok {K : PySem.W.Frag} {w : World} {F H : Hp} {D : Addr} {ps : List Ev.PV} {ks : List Key} {v : Ev.PV} {Q : VK} (sf : Sub F H) (hk : KeyL ps ks) (e : Ev.sSetSorted [.lst ps] = some v) (hD : H D = some (SetGO w D ks))
    (q : ∀ z H', Res K F H true v z H' → Q z H') : rSortedG w [.ref D] H Q := by
  obtain ⟨h64, h⟩ := hk.sorted e
  refine ⟨D, ks, rfl, hD, h64, ?_⟩
  rcases h with ⟨is, e1, h⟩ | ⟨is, e1, h⟩
  · refine .inl ⟨is, e1, fun ns p hs hp hn => ?_⟩
    rw [h ns hs hp] at q
    exact q _ _ (.mk sf hn (ints_back _))
  · refine .inr ⟨is, e1, fun ns p hs hp hn => ?_⟩
    obtain ⟨ts, ev, en, ho⟩ := h ns hs hp
    rw [ev] at q
    rw [en, List.map_map]
    exact q _ _ (.mk sf hn (strs_back ho))
theorem sg_read {K : PySem.W.Frag} {w : World} {Γ : Ev.Cx} {b nm : Bool} {e : Ev.CE} {t : Ev.TG} {sk : Ev.SK} {src cs : List Ev.CE} {own : List Nat} {σ : L2.St} {H : Hp} {Q : VK}
    (hb : b = (Ev.calm e && Ev.calms cs)) (hv : ∀ i ∈ slotsT t, i ∈ own) (hn : nm = true → Ev.calms src = true ∧ Ev.calm e = true ∧ Ev.calms cs = true)
    (h : TX K (Ev.evalE Γ (.scomp own e t sk src cs)) nm (RBox K) σ H Q) :
    tCB (rSortedG w) (L2.tCons (tSg w (TX K (srcM Γ b sk src) (Ev.calms src) (RI K b)) (gTX K t) (TX K (Ev.tests Γ cs) (Ev.calms cs) RT) (TX K (Ev.evalE Γ e) (Ev.calm e) (RV K)) own) L2.tNil) σ H Q := by
  have e0 : Ev.evalE Γ (.scomp own e t sk src cs) = fun s => (srcM Γ b sk src s).bind fun xs s1 => if xs.length ≤ 4000 then (Ev.loopL (bodyL Γ e t cs own) xs (s1.wipe own)).bind fun ys s6 => (Ev.Out.ofOpt (Ev.sem .setSorted [.lst ys]) s6).bind fun r s7 => .ok r (s7.back own s1) else .no := by
    funext s
    rw [Ev.evalE]
    unfold srcM
    rw [hb, bind_assoc]
    rfl
  rw [e0] at h
  refine TX_split h fun g xs J H1 g1 st1 r1 e1 b1 w _ => ?_
  intro D hD
  by_cases hl : xs.length ≤ 4000
  case neg => rw [if_neg hl] at w; exact w.elim
  rw [if_pos hl, wpO_bind] at w
  refine ⟨fun i m H' => m = xs.length - i ∧ i ≤ xs.length ∧ ∃ g' st' ks ps, R K g' (L2.wipe σ own) H' st' ∧ g'.P = upd g1.P D (SetGO _ D ks) ∧ g'.H0 = g1.H0 ∧ g'.F0 = g1.F0 ∧ KeyL ps ks ∧ ps.length ≤ i ∧ Sub g1.F g'.F ∧
      ((Ev.calm e && Ev.calms cs) = true → Sub H1 H') ∧ wpO (Ev.loopL (bodyL Γ e t cs own) (xs.drop i) st') (fun ys st6 => wpO ((Ev.Out.ofOpt (Ev.sem .setSorted [.lst (ps ++ ys)]) st6).bind fun r s7 => .ok r (s7.back own st1)) fun v st7 => ∀ x H'' g'', R K g'' σ H'' st7 → Ext g H g'' H'' nm → RBox K g'' σ H'' st7 v x → Q x H''),
    ⟨_, rfl, Nat.zero_le _, { g1 with P := upd g1.P D (SetGO _ D []) }, st1.wipe own, [], [], (r1.aside hD).wipe own, rfl, rfl, rfl, .nil, Nat.zero_le _, .refl _, fun _ => Sub.upd_new hD, w⟩, ?_⟩
  rintro i m H' ⟨rfl, hi, g', st', ks, ps, r', hP, hH0, hF0, rs, hpl, sf, sh, w'⟩
  obtain ⟨stop, item⟩ := b1 g'.F H' sf r'.sub (fun z => sh (by rw [← hb]; exact z))
  by_cases hlt : i < xs.length
  · obtain ⟨go, yl⟩ := item i hlt
    refine .inr ⟨go, _, fun H2 n2 => ⟨xs.length - (i + 1), by omega, n2⟩, fun x H2 y => ?_⟩
    obtain ⟨F2, p, gr, ep, rp⟩ := yl x H2 y
    have hx : xs[i] = p := by
      rw [List.getElem?_eq_getElem hlt] at ep
      exact Option.some.inj ep
    rw [List.drop_eq_getElem_cons hlt, hx] at w'
    simp only [Ev.loopL] at w'
    rw [wpO_bind] at w'
    unfold bodyL at w'
    rw [wpO_bind, wpO_opt] at w'
    obtain ⟨st2, eb, w'⟩ := w'
    rw [wpO_bind] at w'
    refine ⟨_, st', p, st2, r'.grow gr, rp, eb, fun σ3 r3 o3 => ⟨(o3.wipe hv).trans wipe_idem, _, st2, r3, wpO_mono w' fun k st3 w3 y3 H3 g3 r3' e3 b3 => ?_⟩⟩
    have hw3 : L2.wipe σ3 own = L2.wipe σ own := (o3.wipe hv).trans wipe_idem
    obtain rfl : y3 = k := b3
    have P3 : g3.P = upd g1.P D (SetGO _ D ks) := e3.p.trans hP
    cases y3 with
    | false =>
      refine ⟨rfl, by omega, g3, st3.wipe own, ks, ps, ?_, P3, e3.h0.trans hH0, e3.f0.trans hF0, rs, by omega, (sf.trans gr.f).trans e3.f, fun z => ?_, ?_⟩
      · rw [← hw3]; exact r3'.wipe own
      · exact ((sh z).trans gr.h).trans (e3.h (by rw [Bool.and_eq_true] at z; exact z.2))
      · rw [if_neg (by decide), wpO_ok, wpO_bind] at w3
        exact w3
    | true =>
      rw [if_pos rfl, wpO_bind] at w3
      refine ⟨g3, st3, r3', wpO_mono w3 fun v st4 w4 z H4 g4 r4 e4 b4 => ?_⟩
      have P4 : g4.P = upd g1.P D (SetGO _ D ks) := e4.p.trans P3
      rw [wpO_ok, wpO_bind] at w4
      obtain ⟨ys, st6, q⟩ := wpO_ex w4
      rw [wpO_ok, wpO_bind, wpO_opt] at q
      obtain ⟨rv, er, _⟩ := q
      obtain ⟨kk, ev, ez, hk⟩ := key_rep (setSorted_keys er v (List.mem_append_right _ (List.mem_append_left _ (by simp)))) b4
      subst ev
      have hle := rs.len
      refine ⟨kk, ks, ez, r4.psub D _ (by rw [P4]; exact upd_same), by show ks.length + 1 < 4096; omega, rfl, by omega, { g4 with P := upd g1.P D (SetGO _ D (addK kk ks)) }, st4.wipe own, addK kk ks, ps ++ [keyPV kk], ?_, rfl, e4.h0.trans (e3.h0.trans hH0), e4.f0.trans (e3.f0.trans hF0), rs.add hk, by rw [List.length_append]; simp; omega, ((sf.trans gr.f).trans e3.f).trans e4.f, fun z' => ?_, ?_⟩
      · rw [← hw3]; exact (r4.redo' P4 _).wipe own
      · rw [Bool.and_eq_true] at z'
        exact ((((sh (by rw [Bool.and_eq_true]; exact z')).trans gr.h).trans (e3.h z'.2)).trans (e4.h z'.1)).upd_out hD
      · refine wpO_mono w4 fun ys st6 w6 => ?_
        rw [List.append_assoc]
        exact w6
  · have hi2 : i = xs.length := by omega
    subst hi2
    rw [List.drop_length] at w'
    simp only [Ev.loopL] at w'
    rw [wpO_ok, List.append_nil, wpO_bind, wpO_opt] at w'
    obtain ⟨v, ev, w2⟩ := w'
    have q1 := r'.dropD' hP (r1.psub.none hD)
    refine .inl ⟨stop, ?_⟩
    have q3 : R K { g' with P := g1.P } σ H' (st'.back own st1) := q1.back r1 sf
    refine sortG_ok (K := K) q3.sub rs ev (r'.psub D _ (by rw [hP]; exact upd_same)) fun z H2 rz => ?_
    obtain ⟨g2, r2, ex, d⟩ := Res.raw q3 rz
    have e2 : Ext g H { g' with P := g1.P } H' nm := ⟨e1.f.trans sf, hH0.trans e1.h0, hF0.trans e1.f0, e1.p, fun z => by
      obtain ⟨n1, n2, n3⟩ := hn z
      exact (e1.h n1).trans (sh (by rw [n2, n3]; rfl))⟩
    refine w2 z H2 g2 r2 (e2.trans ex (fun n => n) fun _ => rfl) ?_
    rcases d with ⟨_, d⟩ | d
    · cases d
    · refine ⟨?_, d⟩
      have : ∃ l, v = .lst l := by
        change Ev.sSetSorted [.lst ps] = some v at ev
        unfold Ev.sSetSorted at ev
        simp only at ev
        split at ev
        · rw [Option.bind_eq_some_iff] at ev
          obtain ⟨l, _, ev⟩ := ev
          split at ev <;> first | cases ev | skip
          exact ⟨l, rfl⟩
        · cases ev
      obtain ⟨l, rfl⟩ := this
      rfl
end Sd
end
section
set_option Elab.async false
set_option linter.all false
set_option maxRecDepth 100000
set_option maxHeartbeats 4000000
set_option autoImplicit false
namespace Sd
open PySem PySem.Spec PyProof.Rows L2
noncomputable def addAll (kl : List Key) : List Key := kl.foldl (fun ks k => addK k ks) []
theorem addAll_snoc (kl : List Key) (k : Key) : addAll (kl ++ [k]) = addK k (addAll kl) := by
  unfold addAll
  rw [List.foldl_append]
  rfl
theorem KeyL.all : ∀ (kl : List Key), (∀ k ∈ kl, okK k) → KeyL (kl.map keyPV) (addAll kl) := by
  intro kl
  have : ∀ n, n = kl.length → (∀ k ∈ kl, okK k) → KeyL (kl.map keyPV) (addAll kl) := by
    intro n
    induction n generalizing kl with
    | zero =>
      intro e _
      cases kl with
      | nil => exact .nil
      | cons _ _ => cases e
    | succ n ih =>
      intro e ho
      obtain ⟨l, x, rfl⟩ : ∃ l x, kl = l ++ [x] := by
        rcases List.eq_nil_or_concat kl with rfl | ⟨l, x, h⟩
        · cases e
        · exact ⟨l, x, by simpa using h⟩
      rw [List.map_append, addAll_snoc]
      rw [List.length_append, List.length_singleton] at e
      exact (ih l (by omega) fun k hk => ho k (List.mem_append_left _ hk)).add (ho x (List.mem_append_right _ (List.mem_singleton.mpr rfl)))
  exact this _ rfl
theorem addAll_len (kl : List Key) : (addAll kl).length ≤ kl.length := by
  have : ∀ (n : Nat) (kl : List Key), n = kl.length → (addAll kl).length ≤ kl.length := by
    intro n
    induction n with
    | zero =>
      intro kl e
      cases kl with
      | nil => exact Nat.le_refl _
      | cons _ _ => cases e
    | succ n ih =>
      intro kl e
      obtain ⟨l, x, rfl⟩ : ∃ l x, kl = l ++ [x] := by
        rcases List.eq_nil_or_concat kl with rfl | ⟨l, x, h⟩
        · cases e
        · exact ⟨l, x, by simpa using h⟩
      rw [addAll_snoc, List.length_append, List.length_singleton]
      rw [List.length_append, List.length_singleton] at e
      have := ih l (by omega)
      unfold addK
      split
      · omega
      · rw [List.length_cons]; omega
  exact this _ kl rfl
section
variable {prog : Program} {w : World} {A : Around} {E : Value → Shared → Prop} {s : Shared}
theorem code_set_led1 (a : Value) {Q₁ : Value → Shared → Prop}
    (h : Q₁ (.ref s.heap.objs.size) { s with heap := s.heap.push { cls := .type "set", dict := none, data := .set #[] 0 (.fresh 0 0 (!w.params.followText "set-order")) } }) :
    codeAny (model prog w) A (.call (.builtin "set.__new__") ⟨[.type "set", a], []⟩) (wants Q₁ E) s := by
  refine codeAny_of_tree ?_
  show wpAny _ A.in1 (do checkBuiltinCall "set.__new__" ⟨[.type "set", a], []⟩; again (.builtin "set.__new__" ⟨[.type "set", a], []⟩)) _ _ s
  refine wpAny_bind (wpAny_of_eq (F.newCall_set_1 a) (wpAny_pure ⟨plainId_quiet F.plain_set_new _, codeAny_builtin F.entry_set_new ?_⟩))
  rw [Around.under_plainId F.plain_set_new _]
  unfold Builtin.«set.__new__» Builtin.Frozenset.newClass
  have hsub := sub_set_self
  obtain ⟨hp, g, d, tk, os⟩ := s
  dsimp only at h ⊢
  wp_walk
  refine wpAny_askSetting (wpAny_pure ?_)
  dsimp only
  simp only [newObj]
  refine wpAny_bind (wpAny_alloc (wpAny_pure ?_))
  exact wpAny_pure h
end
section
variable {prog : Program} {w : World} {A : Around} {R : Result → Shared → Prop} {I : Addr} {fp wr : List Addr} {G : Array GenState → Array GenState → Prop} {n : Nat} {P : Nat → Value → Prop} {St : Nat → Shared → Prop}
theorem loopG (W : WalksS prog w A.in1 I fp wr G n P St) (S : Addr) (hSf : S ∉ fp) (kl : List Key) (hsz : kl.length = n) (hn1 : n < 4000)
    (hval : ∀ i v, P i v → ∃ k, kl[i]? = some k ∧ keyIs k v = true) :
    ∀ (k i : Nat) (s : Shared), n - i = k → i ≤ n → St i s → SetG w s.heap S (addAll (kl.take i)) →
      (∀ s', Moved (S :: wr) G s s' → SetG w s'.heap S (addAll kl) → R (.ok (.ret .none)) s') →
      codeAny (model prog w) A (.builtin "set.update.loop" ⟨[.ref S, .ref I], []⟩) R s := by
  have hSw : S ∉ wr := fun h => hSf (W.sub _ h)
  have hsub : ∀ b ∈ wr, b ∈ S :: wr := fun b hb => List.mem_cons_of_mem _ hb
  intro k
  induction k with
  | zero =>
    intro i s hk hi hst hS hR
    have hin : i = n := by omega
    subst hin
    rw [List.take_of_length_le (by omega)] at hS
    refine codeAny_builtin PyProof.Rows.F.entry_set_update_loop ?_
    rw [Around.under_plainId PyProof.Rows.F.plain_set_update_loop _]
    show wpAny _ A.in1 (pyNext (.ref I) >>= _) _ _ s
    refine wpAny_bind (W.done s _ _ hst fun s' hm => ?_)
    show wpAny _ A.in1 (ret Value.none) _ _ s'
    exact wpAny_pure (hR s' (hm.mono hsub) (hS.at fun o => hm.heap S o hSw))
  | succ k ih =>
    intro i s hk hi hst hS hR
    have hlt : i < n := by omega
    refine codeAny_builtin PyProof.Rows.F.entry_set_update_loop ?_
    rw [Around.under_plainId PyProof.Rows.F.plain_set_update_loop _]
    show wpAny _ A.in1 (pyNext (.ref I) >>= _) _ _ s
    refine wpAny_bind (W.item i s _ _ hlt hst fun v s' hP hst' hm => ?_)
    obtain ⟨kk, ek, hkk⟩ := hval i v hP
    have hS' : SetG w s'.heap S (addAll (kl.take i)) := hS.at fun o => hm.heap S o hSw
    have hll : (addAll (kl.take i)).length ≤ i := Nat.le_trans (addAll_len _) (by rw [List.length_take]; exact Nat.min_le_left _ _)
    have e1 : addAll (kl.take (i + 1)) = addK kk (addAll (kl.take i)) := by
      rw [← addAll_snoc, List.take_succ, ek]
      rfl
    show wpAny _ A.in1 (holding [v] (setAdd S v) >>= _) _ _ s'
    refine wpAny_bind (wpAny_holding ?_)
    unfold setAdd
    refine wpAny_holding ?_
    refine wpAny_bind ((mixKind prog w).pyHash (k := kk) hkk ?_)
    refine setG_add_hashed (s := { s' with toks := s'.toks + 1 }) hkk hS' (by show _ + 1 < 4096; omega) fun b h' hsb hS2 => ?_
    rw [← e1] at hS2
    refine wpAny_pure ⟨plainId_quiet PyProof.Rows.F.plain_set_update_loop _, ih (i + 1) _ (by omega) hlt (W.frame _ s' _ _ hst' (Nat.le_succ _) fun b hb o e => ?_) hS2 fun s'' hm'' hS'' => ?_⟩
    · rw [hsb.2 b (fun h : b = S => hSf (by rw [← h]; exact hb))]; exact e
    · refine hR s'' (Moved.trans W.gtrans ((hm.mono hsub).then_heap (Nat.le_succ _) fun b o hb e => ?_) hm'') hS''
      rw [hsb.2 b (fun h : b = S => hb (by rw [h]; exact List.mem_cons_self))]; exact e
end
section
variable {prog : Program} {w : World} {A : Around} {E : Value → Shared → Prop} {s : Shared}
theorem call_set_listG {l : Addr} {items : Array Value} {kl : List Key} {Q : Value → Shared → Prop}
    (hh : A.handled = none) (hl : s.heap.IsList l items) (hsz : kl.length = items.size) (hi : ∀ (i : Nat) (v : Value), items[i]? = some v → ∃ k, kl[i]? = some k ∧ keyIs k v = true) (hn1 : kl.length < 4000)
    (h : ∀ (h' : Heap) (tk : Nat), SetG w h' s.heap.objs.size (addAll kl) →
      (∀ b o, b < s.heap.objs.size → s.heap.get? b = some o → h'.get? b = some o) → Q (.ref s.heap.objs.size) { s with heap := h', toks := tk }) :
    wpAny (model prog w) A (call (.type "set") [.ref l]) Q E s := by
  obtain ⟨c, tl, hmro⟩ := PySem.F.called_set.mro
  have hmade := PySem.F.called_set.made
  have hsub := PySem.F.called_set.sub
  refine wpAny_call (codeAny_of_tree ?_)
  show wpAny _ _ (callAny (.type "set") _) _ _ _
  refine wpAny_pure ⟨Code.quiet_builtin _ (by decide +kernel), codeAny_builtin PySem.F.entry_type_call ?_⟩
  rw [Around.under_plain (weight_type_call_type "set" [.ref l] []) rfl]
  have h1 := PySem.F.called_set.notType
  have h2 := PySem.F.called_set.canCreate
  have hct := PySem.F.typeCall_set_1 (.ref l)
  repeat (any_goals (first | assumption | wp_step))
  refine codeAny_mono (code_set_led1 (.ref l) (E := E) (Q₁ := fun obj s₁ => obj = .ref s.heap.objs.size ∧ s₁ = { s with heap := s.heap.push { cls := .type "set", dict := none, data := .set #[] 0 (.fresh 0 0 (!w.params.followText "set-order")) } }) ⟨rfl, rfl⟩) fun r s₁ hr => ?_
  cases r with
  | error e => exact hr
  | ok fl =>
    cases fl with
    | ret obj =>
      obtain ⟨rfl, rfl⟩ := hr
      have hfr : SetG w (s.heap.push { cls := .type "set", dict := none, data := .set #[] 0 (.fresh 0 0 (!w.params.followText "set-order")) }) s.heap.objs.size [] := setG_fresh w
      have hS : (s.heap.push { cls := .type "set", dict := none, data := .set #[] 0 (.fresh 0 0 (!w.params.followText "set-order")) }).get? s.heap.objs.size = some { cls := .type "set", dict := none, data := .set #[] 0 (.fresh 0 0 (!w.params.followText "set-order")) } := Heap.get?_push_size _ rfl
      generalize (!w.params.followText "set-order") = led at hfr hS ⊢
      have hT : Shared.TypeIs { s with heap := s.heap.push { cls := .type "set", dict := none, data := .set #[] 0 (.fresh 0 0 led) } } (.ref s.heap.objs.size) "set" := ⟨_, hS, rfl⟩
      have hli := PySem.F.called_set.init.lookup
      have hbi := PySem.F.called_set.init.bind (.ref s.heap.objs.size)
      repeat (any_goals (first | assumption | wp_step))
      refine codeAny_mono (codeAny_call_builtin (R := wants (fun r s₂ => r = .none ∧ ∃ h' tk, s₂ = { s with heap := h', toks := tk } ∧ SetG w h' s.heap.objs.size (addAll kl) ∧
          (∀ b o, b < s.heap.objs.size → s.heap.get? b = some o → h'.get? b = some o)) E) PySem.F.called_set.init.plain PySem.F.entry_set_init (check_set_init_1 hT ?_)) fun r₂ s₂ hr₂ => ?_
      · obtain ⟨ol, hol, hcl, nl, hdl⟩ := hl
        obtain ⟨ocls, odict, odata, oslots⟩ := ol
        simp only at hcl hdl
        subst hcl; subst hdl
        have hol' : (s.heap.push { cls := .type "set", dict := none, data := .set #[] 0 (.fresh 0 0 led) }).get? l = some { cls := .type "list", dict := odict, data := .seq items nl, slots := oslots } := Heap.get?_push_of_some _ hol
        have hsls := PySem.F.sub_list_set
        have hslf := PySem.F.sub_list_frozenset
        have hne : (Value.type "list" == Value.type "dict") = false := by decide
        have hl1 : (s.heap.push { cls := .type "set", dict := none, data := .set #[] 0 (.fresh 0 0 led) }).IsList l items := ⟨_, hol', rfl, nl, rfl⟩
        unfold Builtin.«set.__init__» noKeywords Builtin.Frozenset.updateFrom
        generalize hPI : pyIter = PI
        wp_walk
        subst hPI
        refine wpAny_pyIter_list hl1 ?_
        refine wpAny_bind (wpAny_runValue ?_)
        have hlS : l < s.heap.objs.size := Heap.lt_size hol
        have hh3 : A.in1.in1.in1.handled = none := by simp [hh]
        have hneI : l ≠ (s.heap.push { cls := .type "set", dict := none, data := .set #[] 0 (.fresh 0 0 led) }).objs.size := by
          rw [Heap.size_push]; exact Nat.ne_of_lt (Nat.lt_succ_of_lt hlS)
        have hSf : s.heap.objs.size ∉ [(s.heap.push { cls := .type "set", dict := none, data := .set #[] 0 (.fresh 0 0 led) }).objs.size, l] := by
          rw [Heap.size_push]; simp only [List.mem_cons, List.mem_singleton, List.not_mem_nil, or_false, not_or]
          exact ⟨Nat.ne_of_lt (Nat.lt_succ_self _), Nat.ne_of_gt hlS⟩
        refine loopG ((Walks.list hh3 _ l hneI items).toS) s.heap.objs.size hSf kl hsz (by rw [← hsz]; exact hn1) hi (items.size - 0) 0 _ (by omega) (Nat.zero_le _)
          ⟨⟨_, Heap.get?_push_size _ rfl, rfl, rfl⟩, (hl1.push _)⟩ ?hS0 ?hR
        case hS0 =>
          rw [List.take_zero]
          exact hfr.at fun o e => Heap.get?_push_of_some _ e
        case hR =>
          intro s' hm hS'
          obtain ⟨h', g', d', tk', os'⟩ := s'
          have eg : g' = s.gens := hm.gens
          have ed : d' = s.drawn := hm.drawn
          have eo : os' = s.os := hm.os
          subst eg; subst ed; subst eo
          show wpAny _ _ _ _ _ _
          refine wpAny_pure ?_
          show wpAny _ _ (ret Value.none) _ _ _
          refine wpAny_pure ⟨rfl, h', tk', rfl, hS', fun b o hb e => ?_⟩
          have hb1 : b ≠ s.heap.objs.size := Nat.ne_of_lt hb
          have hb2 : b ≠ (s.heap.push { cls := .type "set", dict := none, data := .set #[] 0 (.fresh 0 0 led) }).objs.size := by
            rw [Heap.size_push]; exact Nat.ne_of_lt (Nat.lt_succ_of_lt hb)
          exact hm.heap b o (by simp only [List.mem_cons, List.mem_singleton, List.not_mem_nil, or_false, not_or]; exact ⟨hb1, hb2⟩) (Heap.get?_push_of_some _ (Heap.get?_push_of_some _ e))
      · cases r₂ with
        | error e => exact hr₂
        | ok fl₂ =>
          cases fl₂ with
          | ret r =>
            obtain ⟨rfl, h', tk, rfl, hS', hk'⟩ := hr₂
            repeat (any_goals (first | assumption | wp_step))
            exact h _ _ hS' hk'
          | _ => exact hr₂.elim
    | _ => exact hr.elim
end
/-- set(xs), a list of ints or texts -/
def rSetL (K : PySem.W.Frag) (w : World) : List V → Hp → VK → Prop := fun vs H Q => ∃ (a : Addr) (kl : List Key), vs = [V.ref a] ∧ SqL K H a (kl.map kV) ∧ kl.length < 4000 ∧ ∀ p, H p = none → Q (.ref p) (upd H p (SetGO w p (addAll kl)))
theorem cr_setL {X : L2.Cx} (hc : X.calm = true) : CallR X (.type "set") (rSetL X.K X.w) := by
  intro pins s σ H vs us Q I r h
  obtain ⟨a, kl, rfl, hs, h4, q⟩ := h
  obtain ⟨its, rv, hl, _⟩ := I.list hs
  rw [Vals.ref1 r]
  have hlen := rv.length
  rw [List.length_map] at hlen
  refine call_set_listG (I.ok.hd hc) hl.isList (kl := kl) (by rw [List.size_toArray]; exact hlen) (fun i v hv => ?_) h4 fun h' tk hS hk => ?_
  · have hv : its[i]? = some v := by simpa using hv
    obtain ⟨hi, ev⟩ := List.getElem?_eq_some_iff.mp hv
    have hik : i < kl.length := by omega
    obtain ⟨u, hu, ru⟩ := rv.get (show (kl.map kV)[i]? = some (kV kl[i]) by simp [hik])
    rw [hv] at hu
    cases hu
    exact ⟨kl[i], by simp [hik], kV_is (P := X.prog) (w := X.w) ru⟩
  · exact ⟨.ref _, _, I.laid (fun b o e => hk b o (Heap.lt_size e) e) (Nat.le_refl _) (setGO_new hS), rfl, q _ (I.hok.fresh (Nat.le_refl _))⟩
end Sd
end
section
set_option Elab.async false
set_option linter.all false
set_option maxRecDepth 100000
set_option maxHeartbeats 4000000
set_option autoImplicit false
namespace Sd
open PySem PySem.Spec PyProof.Rows L2
theorem boot_set' : bootBuiltins "set" = some (.type "set") := by decide +kernel
section
variable {X : L2.Cx} {Γ : Ev.Cx} {pos : Pos}
theorem sc_hn {t : Ev.TG} {sk : Ev.SK} {src cs : List Ev.CE} {e : Ev.CE} {own : List Nat} : Ev.calm (.scomp own e t sk src cs) = true → Ev.calms src = true ∧ Ev.calm e = true ∧ Ev.calms cs = true := fun z => by
  simp only [Ev.calm, Bool.and_eq_true] at z
  exact ⟨z.1.2, z.1.1, z.2⟩
/-- sorted({e for t in src if c}) -/
theorem eok_scomp {elt tg iter : Expr} {ifs : List Expr} {scope : Scope} {own : List (Str × Nat)} {t : Ev.TG} {sk : Ev.SK} {src cs : List Ev.CE} {e : Ev.CE} {p q : Pos} (hgs : Gl X "sorted") (hms : X.mg "sorted" = none)
    (hc : X.calm = true) (hN : X.N.Nodup) (hi : PI X tg iter (TX X.K (srcM Γ (Ev.calm e && Ev.calms cs) sk src) (Ev.calms src) (RI X.K (Ev.calm e && Ev.calms cs)))) (ok : BlkOk X.N X.env.scope scope own) (hv : ∀ i ∈ slotsT t, i ∈ own.map (·.2))
    (hg : Blk X scope fun X' => TGOk X' tg t) (ht : Blk X scope fun X' => CsOk X' Γ ifs cs) (he : Blk X scope fun X' => EOk X' Γ elt e) (hs : notSet iter = true) :
    EOk X Γ (.Call (.Name "sorted" p) [.SetComp elt [⟨tg, iter, ifs, 0⟩] scope q] [] pos) (.scomp (own.map (·.2)) e t sk src cs) :=
  .of_box (fun _ => rfl) rfl (PE_imp (pe_callB (cr_sortedG hc) hgs hms boot_sorted (pa_cons (pe_sg hc hN hi ok (fun s H C cl fp => pg_ok (X := X.blk s H scope (compEnvC scope cl C X.env) fp) hc hN (hg s H C cl fp)) (fun s H C cl fp => (ht s H C cl fp).pts) (fun s H C cl fp => (he s H C cl fp).val) (folded_not hs)) pa_nil)) fun σ H Q q => sg_read rfl hv sc_hn q)
/-- sorted(set(xs)) -/
theorem ss_read {K : PySem.W.Frag} {w : World} {σ : L2.St} {H : Hp} {Q : VK} {ta : TA} (h : tCB (rCB K .setSorted) ta σ H Q) (mono : ∀ {P P' : List V → Hp → Prop}, ta σ H P → (∀ vs H1, P vs H1 → P' vs H1) → ta σ H P') :
    tCB (rSortedG w) (L2.tCons (tCB (rSetL K w) ta) L2.tNil) σ H Q := by
  refine mono h fun vs H1 ⟨F, ps, v, sf, bl, ev, k⟩ => ?_
  have ev' : Ev.sSetSorted ps = some v := ev
  have hps : ∃ pl, ps = [.lst pl] := by
    unfold Ev.sSetSorted at ev'
    split at ev'
    · exact ⟨_, rfl⟩
    · cases ev'
  obtain ⟨pl, rfl⟩ := hps
  obtain ⟨x, rfl, b⟩ := brep1 bl
  obtain ⟨a, ws, rfl, h1, r1⟩ := b.lstL sf
  have keys : ∀ {pl : List Ev.PV} {ws : List V}, (∀ p ∈ pl, (∃ i, p = .int i) ∨ ∃ s, p = .str s) → Reps K F pl ws → ∃ kl : List Key, pl = kl.map keyPV ∧ ws = kl.map kV ∧ ∀ k ∈ kl, okK k := by
    intro pl
    induction pl with
    | nil =>
      intro ws _ r
      cases ws with
      | nil => exact ⟨[], rfl, rfl, fun _ h => nomatch h⟩
      | cons _ _ => exact r.elim
    | cons p pl ih =>
      intro ws hp r
      cases ws with
      | nil => exact r.elim
      | cons z ws =>
        obtain ⟨kl, e1, e2, e3⟩ := ih (fun q hq => hp q (List.mem_cons_of_mem _ hq)) r.2
        obtain ⟨k, e4, e5, e6⟩ := key_rep (hp p List.mem_cons_self) r.1
        refine ⟨k :: kl, by rw [e1, e4]; rfl, by rw [e2, e5]; rfl, fun x hx => ?_⟩
        rcases List.mem_cons.mp hx with rfl | hx
        · exact e6
        · exact e3 x hx
  obtain ⟨kl, e1, e2, e3⟩ := keys (setSorted_keys ev') r1
  subst e1 e2
  have hlen : kl.length < 4000 := by
    unfold Ev.sSetSorted at ev'
    simp only at ev'
    split at ev'
    · rename_i h; rw [List.length_map] at h; exact h
    · cases ev'
  refine ⟨a, kl, rfl, h1, hlen, fun D hD => ?_⟩
  show rSortedG w [.ref D] (upd H1 D (SetGO w D (addAll kl))) Q
  refine sortG_ok (K := K) (F := F) (sf.trans (Sub.upd_new hD)) (KeyL.all kl e3) ev' upd_same fun z H' rz => k z H' ?_
  obtain ⟨F1, H2, gr, d⟩ := rz
  refine ⟨F1, H2, (Grow.lay sf hD).trans gr, ?_⟩
  rcases d with ⟨_, _, d⟩ | d
  · cases d
  · exact .inr d
theorem eok_sortedSet {e : Expr} {c : Ev.CE} {p p2 q : Pos} (hc : X.calm = true) (hg : Gl X "sorted") (hm : X.mg "sorted" = none) (hg2 : Gl X "set") (hm2 : X.mg "set" = none) (h : EOks X Γ [e] [c]) :
    EOk X Γ (.Call (.Name "sorted" p) [.Call (.Name "set" p2) [e] [] q] [] pos) (.bi .setSorted [c]) := by
  cases h with
  | cons he hs hes =>
    exact .of_raw (PE_imp (pe_callB (cr_sortedG hc) hg hm boot_sorted (pa_cons (pe_callTy (cr_setL hc) hg2 hm2 boot_set' (pa_lent (.cons he hs hes)) (by decide) (by decide) (star_cons hs) (back_any (hes.star _))) pa_nil)) fun σ H Q h => ss_read (cb_read h) fun q k => TX_post q k) rfl fun v h => freshB_box h
end
end Sd
end
section
set_option Elab.async false
set_option linter.all false
set_option maxRecDepth 100000
set_option maxHeartbeats 4000000
set_option autoImplicit false
namespace Sd
open PySem PySem.Spec PyProof.Rows L2
mutual
theorem alike_toPD : ∀ (p q : Ev.PV), Ev.alikeV p q = true → PySem.W.alike (toPD p) (toPD q) = true
  | .int _, q, h => by cases q <;> first | rfl | (simp [Ev.alikeV] at h)
  | .str _, q, h => by cases q <;> first | rfl | (simp [Ev.alikeV] at h)
  | .tup xs, q, h => by
    cases q <;> first | (simp [Ev.alikeV] at h; done) | skip
    rename_i ys
    simp only [Ev.alikeV] at h
    simp only [toPD, PySem.W.alike]
    exact alikes_toPD xs ys h
  | .non, q, h => by simp [Ev.alikeV] at h
  | .bl _, q, h => by simp [Ev.alikeV] at h
  | .lst _, q, h => by simp [Ev.alikeV] at h
  | .dic _ _, q, h => by simp [Ev.alikeV] at h
  | .obj _, q, h => by simp [Ev.alikeV] at h
  | .fn _, q, h => by simp [Ev.alikeV] at h
theorem alikes_toPD : ∀ (p q : List Ev.PV), Ev.alikeVs p q = true → PySem.W.alikeAll (toPDs p) (toPDs q) = true
  | [], q, _ => by simp only [toPDs, PySem.W.alikeAll]
  | x :: xs, [], _ => by simp only [toPDs, PySem.W.alikeAll]
  | x :: xs, y :: ys, h => by
    simp only [Ev.alikeVs, Bool.and_eq_true] at h
    simp only [toPDs, PySem.W.alikeAll, Bool.and_eq_true]
    exact ⟨alike_toPD x y h.1, alikes_toPD xs ys h.2⟩
end
mutual
theorem lt_toPD : ∀ (p q : Ev.PV) (b : Bool), Ev.plain p = true → Ev.plain q = true → Ev.alikeV p q = true → Ev.ltV p q = some b → PySem.W.dataLt (toPD p) (toPD q) = b
  | .int i, q, b, _, _, ha, h => by
    cases q <;> first | (simp [Ev.alikeV] at ha; done) | skip
    simp only [Ev.ltV, Option.some.injEq] at h
    simp only [toPD, PySem.W.dataLt_int]
    exact h
  | .str s, q, b, _, _, ha, h => by
    cases q <;> first | (simp [Ev.alikeV] at ha; done) | skip
    simp only [Ev.ltV, Option.some.injEq] at h
    simp only [toPD, PySem.W.dataLt_str]
    rw [← h, ltT_cps]
  | .tup xs, q, b, hp, hq, ha, h => by
    cases q <;> first | (simp [Ev.alikeV] at ha; done) | skip
    rename_i ys
    simp only [Ev.ltV] at h
    simp only [Ev.alikeV] at ha
    simp only [toPD, PySem.W.dataLt_tuple]
    exact lts_toPD xs ys b (by simpa [Ev.plain] using hp) (by simpa [Ev.plain] using hq) ha h
  | .non, q, _, _, _, h, _ => by simp [Ev.alikeV] at h
  | .bl _, q, _, _, _, h, _ => by simp [Ev.alikeV] at h
  | .lst _, q, _, _, _, h, _ => by simp [Ev.alikeV] at h
  | .dic _ _, q, _, _, _, h, _ => by simp [Ev.alikeV] at h
  | .obj _, q, _, _, _, h, _ => by simp [Ev.alikeV] at h
  | .fn _, q, _, _, _, h, _ => by simp [Ev.alikeV] at h
theorem lts_toPD : ∀ (p q : List Ev.PV) (b : Bool), Ev.plains p = true → Ev.plains q = true → Ev.alikeVs p q = true → Ev.ltVs p q = some b → PyProof.Rows.lexLt itemOrd (PySem.W.keyToksAll (toPDs p)) (PySem.W.keyToksAll (toPDs q)) = b
  | [], [], b, _, _, _, h => by
    simp only [Ev.ltVs, Option.some.injEq] at h
    subst h
    decide +kernel
  | [], y :: ys, b, _, _, _, h => by
    simp only [Ev.ltVs, Option.some.injEq] at h
    subst h
    simp only [toPDs, PySem.W.keyToksAll]
    rw [PySem.W.lex_atom (by decide)]
    decide +kernel
  | x :: xs, [], b, _, _, _, h => by
    simp only [Ev.ltVs, Option.some.injEq] at h
    subst h
    simp only [toPDs, PySem.W.keyToksAll]
    rw [PySem.W.lex_atom (by decide)]
    decide +kernel
  | x :: xs, y :: ys, b, hp, hq, ha, h => by
    rw [Ev.plains, Bool.and_eq_true] at hp hq
    simp only [Ev.alikeVs, Bool.and_eq_true] at ha
    have hal := alike_toPD x y ha.1
    simp only [Ev.ltVs] at h
    split at h
    · rename_i e
      rw [← eqv_toPD x y hp.1 hq.1] at e
      simp only [toPDs]
      rw [PySem.W.dataLt_all_yes hal e]
      exact lts_toPD xs ys b hp.2 hq.2 ha.2 h
    · rename_i e
      rw [← eqv_toPD x y hp.1 hq.1, Bool.not_eq_true] at e
      simp only [toPDs]
      rw [PySem.W.dataLt_all_no hal e]
      exact lt_toPD x y b hp.1 hq.1 ha.1 h
end
theorem toPDs_map : ∀ xs : List Ev.PV, toPDs xs = xs.map toPD
  | [] => rfl
  | x :: xs => by rw [toPDs, toPDs_map xs]; rfl
mutual
theorem toPD_inj : ∀ (p q : Ev.PV), Ev.plain p = true → Ev.plain q = true → toPD p = toPD q → p = q
  | .non, q, _, hq, e => by cases q <;> first | rfl | (simp [toPD] at e; done) | (simp [Ev.plain] at hq)
  | .bl _, q, _, hq, e => by cases q <;> simp_all [toPD]
  | .int _, q, _, hq, e => by cases q <;> simp_all [toPD]
  | .str _, q, _, hq, e => by cases q <;> simp_all [toPD]
  | .tup xs, q, hp, hq, e => by
    cases q <;> first | (simp [toPD] at e; done) | skip
    simp only [toPD, PyData.tuple.injEq] at e
    rw [toPDs_inj xs _ (by simpa [Ev.plain] using hp) (by simpa [Ev.plain] using hq) e]
  | .lst xs, q, hp, hq, e => by
    cases q <;> first | (simp [toPD] at e; done) | skip
    simp only [toPD, PyData.list.injEq] at e
    rw [toPDs_inj xs _ (by simpa [Ev.plain] using hp) (by simpa [Ev.plain] using hq) e]
  | .dic _ _, q, h, _, _ => by simp [Ev.plain] at h
  | .obj _, q, h, _, _ => by simp [Ev.plain] at h
  | .fn _, q, h, _, _ => by simp [Ev.plain] at h
theorem toPDs_inj : ∀ (p q : List Ev.PV), Ev.plains p = true → Ev.plains q = true → toPDs p = toPDs q → p = q
  | [], [], _, _, _ => rfl
  | [], _ :: _, _, _, e => by simp [toPDs] at e
  | _ :: _, [], _, _, e => by simp [toPDs] at e
  | x :: xs, y :: ys, hp, hq, e => by
    rw [Ev.plains, Bool.and_eq_true] at hp hq
    simp only [toPDs, List.cons.injEq] at e
    rw [toPD_inj x y hp.1 hq.1 e.1, toPDs_inj xs ys hp.2 hq.2 e.2]
end
theorem plains_mem : ∀ {xs : List Ev.PV}, Ev.plains xs = true → ∀ x ∈ xs, Ev.plain x = true
  | [], _, _, h => nomatch h
  | y :: ys, h, x, hx => by
    rw [Ev.plains, Bool.and_eq_true] at h
    rcases List.mem_cons.mp hx with rfl | hx
    · exact h.1
    · exact plains_mem h.2 x hx
theorem minP_toPD (L : List Ev.PV) (hpl : ∀ x ∈ L, Ev.plain x = true) (hal : ∀ x ∈ L, ∀ y ∈ L, Ev.alikeV x y = true) : ∀ (xs : List Ev.PV) (x v : Ev.PV), x ∈ L → (∀ y ∈ xs, y ∈ L) → Ev.minP x xs = some v → v ∈ L ∧ toPD v = PySem.W.minD (toPD x) (toPDs xs)
  | [], x, v, hx, _, e => by
    simp only [Ev.minP, Option.some.injEq] at e
    subst e
    exact ⟨hx, rfl⟩
  | y :: r, x, v, hx, hs, e => by
    simp only [Ev.minP] at e
    rw [Option.bind_eq_some_iff] at e
    obtain ⟨b, e1, e2⟩ := e
    have hy := hs y List.mem_cons_self
    have e3 := lt_toPD y x b (hpl y hy) (hpl x hx) (hal y hy x hx) e1
    have hr := fun z hz => hs z (List.mem_cons_of_mem _ hz)
    have hc : (if b = true then y else x) ∈ L := by split <;> assumption
    obtain ⟨a1, a2⟩ := minP_toPD L hpl hal r _ v hc hr e2
    refine ⟨a1, a2.trans ?_⟩
    show _ = PySem.W.minD (toPD x) (toPD y :: toPDs r)
    unfold PySem.W.minD
    rw [List.foldl_cons, e3]
    cases b <;> rfl
section
variable {X : L2.Cx} {Γ : Ev.Cx} {pos : Pos}
theorem cb_min1 (hc : X.calm = true) (hu : X.A.units + 66 < cLine) : CallR X (.builtin "min") (rCB X.K .min1) := by
  intro pins s σ H vs us Q I r h
  obtain ⟨F, ps, v, sf, bl, e, k⟩ := h
  change Ev.sMin1 ps = some v at e
  unfold Ev.sMin1 at e
  split at e
  · rename_i x xs
    split at e
    · rename_i hcond
      simp only [Bool.and_eq_true, decide_eq_true_eq, List.all_eq_true] at hcond
      obtain ⟨⟨hpl, hal⟩, hdp⟩ := hcond
      obtain ⟨z, rfl, b⟩ := brep1 bl
      obtain ⟨a, ws, rfl, h1, r1⟩ := b.lstL sf
      obtain ⟨its, rv, hl, _⟩ := I.list h1
      rw [Vals.ref1 r]
      obtain ⟨d1, l1⟩ := reps_data (x :: xs) ws r1 hpl
      have dh : DpAll X.K H ws (toPDs (x :: xs)) := by
        exact (reps_data (x :: xs) ws (Reps.mono sf r1) hpl).1
      obtain ⟨as, rd⟩ := Dp.readsAll I _ ws its dh rv
      obtain ⟨m1, m2⟩ := minP_toPD (x :: xs) (plains_mem hpl) hal xs x v List.mem_cons_self (fun y hy => List.mem_cons_of_mem _ hy) e
      refine PySem.W.min_list_data (I.ok.hd hc) hl.isList (x := toPD x) (xs := toPDs xs) (as := as) rd ?_ (by have := depths_toPD (x :: xs) hpl; simp only [toPDs] at this; rw [this]; omega) fun i u h' tk bs hi hr hk => ?_
      · have conv : ∀ d ∈ toPD x :: toPDs xs, ∃ p ∈ x :: xs, d = toPD p := fun d hd => by
          rw [show toPD x :: toPDs xs = (x :: xs).map toPD from by rw [toPDs_map]; rfl, List.mem_map] at hd
          obtain ⟨p, hp, e⟩ := hd
          exact ⟨p, hp, e.symm⟩
        refine ⟨fun d hd d' hd' => ?_, fun d hd => ?_⟩
        · obtain ⟨p, hp, rfl⟩ := conv d hd
          obtain ⟨q, hq, rfl⟩ := conv d' hd'
          exact alike_toPD p q (hal p hp q hq)
        · obtain ⟨p, hp, rfl⟩ := conv d hd
          intro en
          have := alike_toPD p p (hal p hp p hp)
          have hv := hal p hp p hp
          cases p <;> simp [toPD] at en <;> simp [Ev.alikeV] at hv
      · have hi : its[i]? = some u := by simpa using hi
        obtain ⟨hil, eu⟩ := List.getElem?_eq_some_iff.mp hi
        have l2 := rv.length
        have l3 := r1.length
        have hiw : i < ws.length := by omega
        have hip : i < (x :: xs).length := by omega
        obtain ⟨u', hu', ru⟩ := rv.get (show ws[i]? = some ws[i] by simp [hiw])
        rw [hi] at hu'
        cases hu'
        obtain ⟨z, ez, rz⟩ := r1.get (i := i) (p := (x :: xs)[i]) (by rw [List.getElem?_eq_getElem hip])
        rw [List.getElem?_eq_getElem hiw] at ez
        cases ez
        have hpm : (x :: xs)[i] ∈ x :: xs := List.getElem_mem hip
        have pi := plains_mem hpl _ hpm
        obtain ⟨di, li⟩ := brep_data sf (.inl rz) pi
        obtain ⟨cs, rc⟩ := Dp.reads I _ _ u di ru
        have rc' := PySem.W.reads_keeps hk rc
        have e1 : toPD (x :: xs)[i] = PySem.W.minD (toPD x) (toPDs xs) := (Reads.unique rc' _ _ hr).1
        rw [← m2] at e1
        have ev := toPD_inj _ _ pi (plains_mem hpl v m1) e1
        exact ⟨ws[i], H, I.kept hk, ru, k _ _ (.old sf (by rw [← ev]; exact rz) rfl)⟩
    · cases e
  · cases e
end
end Sd
end
section
set_option Elab.async false
set_option linter.all false
set_option maxRecDepth 100000
set_option maxHeartbeats 4000000
set_option autoImplicit false
namespace Sd
open PySem PySem.Spec PyProof.Rows L2
section
variable {X : L2.Cx} {Γ : Ev.Cx} {S : SC} {pos : Pos}
theorem cmp_rule (hu : X.A.units + 66 < cLine) (op : CmpOp) : OpR X (compareOp op) (rS2 X.K (cmpB op)) := by
  cases op
  · exact sop_eq (by omega)
  · exact sop_ne (by omega)
  · exact sop_lt
  · exact sop_le
  · exact sop_gt
  · exact sop_ge
  · exact sop_isN
  · exact sop_notN
  · exact sop_in hu
  · exact sop_nin hu
theorem bin_rule {op : Operator} {b : Ev.Blt} (h : binB op = some b) : OpR X (binaryOp op) (rS2 X.K b) := by
  cases op <;> simp [binB] at h <;> subst h
  · exact sop_add
  · exact sop_sub
  · exact sop_mul
  · exact sop_mod
  · exact sop_pow
  · exact sop_fdiv
theorem eoks_of {es : List Expr} {f : Expr → Ev.CE} (h : es.all notStar = true) (k : ∀ e ∈ es, EOk X Γ e (f e)) : EOks X Γ es (es.map f) := by
  induction es with
  | nil => exact .nil
  | cons e es ih =>
    rw [List.all_cons, Bool.and_eq_true] at h
    exact .cons (k e List.mem_cons_self) h.1 (ih h.2 fun x hx => k x (List.mem_cons_of_mem _ hx))
theorem okArgs_ok {es : List Expr} (h : okArgs es = true) : es.all notStar = true ∧ es.length ≤ Ev.sizeTop := by
  unfold okArgs at h
  rw [Bool.and_eq_true, decide_eq_true_eq] at h
  exact ⟨h.1, Nat.le_trans h.2 (by decide)⟩
theorem boot_len' : bootBuiltins "len" = some (.builtin "len") := by decide +kernel
theorem boot_sum' : bootBuiltins "sum" = some (.builtin "sum") := by decide +kernel
theorem boot_all' : bootBuiltins "all" = some (.builtin "all") := by decide +kernel
theorem boot_any' : bootBuiltins "any" = some (.builtin "any") := by decide +kernel
theorem boot_max' : bootBuiltins "max" = some (.builtin "max") := by decide +kernel
theorem boot_min' : bootBuiltins "min" = some (.builtin "min") := by decide +kernel
theorem blt_rule (o : OkX X Γ S) {x : Str} {n : Nat} {b : Ev.Blt} {es : List Expr} {cs : List Ev.CE} {p : Pos} (hb : bltF x n = some b) (hx : okN x = true) (hg : glB S.sc x = true) (hm : x ∈ S.bl) (hne : es ≠ []) (h : EOks X Γ es cs) :
    EOk X Γ (.Call (.Name x p) es [] pos) (.bi b cs) := by
  obtain ⟨h1, _, h3⟩ := okN_ok hx
  have g := o.glo hg
  have m := o.bl x hm
  cases h with
  | nil => exact absurd rfl hne
  | cons he hs hes =>
    unfold bltF at hb
    split at hb
    · split at hb
      · cases hb; rename_i e; subst e; exact eok_callB cb_len g m boot_len' h3 h1 (.cons he hs hes)
      split at hb
      · cases hb; rename_i e; subst e; exact eok_callT cb_int g m boot_int h3 h1 (.cons he hs hes)
      split at hb
      · cases hb; rename_i e; subst e; exact eok_callT (cb_listOf o.calm) g m boot_list h3 h1 (.cons he hs hes)
      split at hb
      · cases hb; rename_i e; subst e; exact eok_callT cb_tupleOf g m boot_tuple h3 h1 (.cons he hs hes)
      split at hb
      · cases hb; rename_i e; subst e; exact eok_callB (cb_sum o.calm) g m boot_sum' h3 h1 (.cons he hs hes)
      split at hb
      · cases hb; rename_i e; subst e; exact eok_callB (cb_all o.calm) g m boot_all' h3 h1 (.cons he hs hes)
      split at hb
      · cases hb; rename_i e; subst e; exact eok_callB (cb_any o.calm) g m boot_any' h3 h1 (.cons he hs hes)
      split at hb
      · cases hb; rename_i e; subst e; exact eok_callB (cb_max1 o.calm) g m boot_max' h3 h1 (.cons he hs hes)
      split at hb
      · cases hb; rename_i e; subst e; exact eok_callB (cb_min1 o.calm o.units) g m boot_min' h3 h1 (.cons he hs hes)
      split at hb
      · cases hb; rename_i e; subst e; exact eok_callB (cb_sorted o.calm) g m boot_sorted h3 h1 (.cons he hs hes)
      · cases hb
    · split at hb
      · cases hb; rename_i e; subst e; exact eok_callB (cb_isi o.kit) g m boot_isinstance h3 h1 (.cons he hs hes)
      split at hb
      · cases hb; rename_i e; subst e; exact eok_callB (cb_max2 o.calm) g m boot_max' h3 h1 (.cons he hs hes)
      split at hb
      · cases hb; rename_i e; subst e; exact eok_callB (cb_min2 o.calm) g m boot_min' h3 h1 (.cons he hs hes)
      · cases hb
    · cases hb
/-! ### targets -/
theorem tg_list {f : Expr → Option Ev.TG} (k : ∀ e t, f e = some t → TGOk X e t) : ∀ {es : List Expr} {ts : List Ev.TG}, optAll (es.map f) = some ts → TGsOk X es ts
  | [], ts, h => by simp [optAll] at h; subst h; exact .nil
  | e :: es, ts, h => by
    rw [List.map_cons] at h
    cases e1 : f e with
    | none => rw [e1] at h; simp [optAll] at h
    | some b =>
      rw [e1] at h
      simp only [optAll] at h
      rw [Option.map_eq_some_iff] at h
      obtain ⟨r', h1, rfl⟩ := h
      exact .cons (k e b e1) (tg_list k h1)
theorem tg_ok (o : OkX X Γ S) : ∀ (n : Nat) (e : Expr) (t : Ev.TG), cTG n S e = some t → TGOk X e t
  | 0, e, t, h => by simp [cTG] at h
  | n + 1, e, t, h => by
    cases e <;> simp only [cTG] at h <;> first | cases h | skip
    · rw [Option.map_eq_some_iff] at h
      obtain ⟨i, h1, rfl⟩ := h
      obtain ⟨a, b, c⟩ := o.st h1
      exact .nm a b c
    · rw [Option.map_eq_some_iff] at h
      obtain ⟨ts, h1, rfl⟩ := h
      exact .tp (tg_list (fun e t he => tg_ok o n e t he) h1)
theorem tg_blk (o : OkX X Γ S) {n : Nat} {scope : Scope} {e : Expr} {t : Ev.TG} (h : cTG n (S.blk scope) e = some t) : Blk X scope fun X' => TGOk X' e t := fun s H C cl fp => tg_ok (o.blk scope s H C cl fp) n e t h
theorem own_blk {N : List Str} {sc scope : Scope} {own : List (Str × Nat)} {t : Ev.TG} (h : blkOkB N sc scope own t = true) : BlkOk N sc scope own ∧ ∀ i ∈ slotsT t, i ∈ own.map (·.2) := by
  unfold blkOkB at h
  rw [Bool.and_eq_true, List.all_eq_true] at h
  exact ⟨blkOk_by h.1, fun i hi => of_decide_eq_true (h.2 i hi)⟩
/-! ### sources -/
theorem ci_seq {ce : SC → Expr → Ev.CE} (b : Bool) {t it : Expr} (h : EOk X Γ it (ce S it)) : PI X t it (TX X.K (srcM Γ b .seq [ce S it]) (Ev.calms [ce S it]) (RI X.K b)) := pi_seq b h
/-- what is asked of enumerate -/
def EnumOk (X : L2.Cx) (Γ : Ev.Cx) : Prop := ∀ (b : Bool) (es : List Expr) (kk : Nat) (tpos p pos : Pos) (a : Expr) (c : Ev.CE), Gl X "enumerate" → X.mg "enumerate" = none → EOk X Γ a c → notStar a = true →
  PI X (.Tuple es kk tpos) (.Call (.Name "enumerate" p) [a] [] pos) (TX X.K (srcM Γ b .enum [c]) (Ev.calms [c]) (RI X.K b))
theorem ci_ok (hE : EnumOk X Γ) (o : OkX X Γ S) {ce : SC → Expr → Ev.CE} (ih : ∀ e, EOk X Γ e (ce S e)) (b : Bool) (t it : Expr) : PI X t it (TX X.K (srcM Γ b (cI ce S t it).1 (cI ce S t it).2) (Ev.calms (cI ce S t it).2) (RI X.K b)) := by
  unfold cI
  split
  · rename_i f p args q
    split
    · rename_i hc
      rw [Bool.and_eq_true] at hc
      obtain ⟨g, m, _, _⟩ := o.bln hc.1
      have ha := (okArgs_ok hc.2).1
      split
      · rename_i h1
        rw [Bool.and_eq_true, decide_eq_true_eq] at h1
        obtain ⟨rfl, h2⟩ := h1
        match args, h2, ha with
        | [a], _, ha =>
          simp at ha
          exact pi_rng1 b g m (ih a) ha
        | [a, a2], _, ha =>
          simp at ha
          exact pi_rng2 b g m (ih a) ha.1 (ih a2) ha.2
      · split
        · rename_i h1
          rw [Bool.and_eq_true, Bool.and_eq_true, decide_eq_true_eq] at h1
          obtain ⟨⟨rfl, h2⟩, h3⟩ := h1
          match args, h2, ha with
          | [a, a2], _, ha =>
            simp at ha
            cases t <;> first | exact Bool.noConfusion h3 | skip
            exact pi_zip2 b g m (ih a) ha.1 (ih a2) ha.2
        · split
          · rename_i h1
            rw [Bool.and_eq_true, Bool.and_eq_true, decide_eq_true_eq] at h1
            obtain ⟨⟨rfl, h2⟩, h3⟩ := h1
            match args, h2, ha with
            | [a], _, ha =>
              simp at ha
              cases t <;> first | exact Bool.noConfusion h3 | skip
              exact hE b _ _ _ _ _ _ _ g m (ih a) ha
          · exact ci_seq b (ih _)
    · exact ci_seq b (ih _)
  · exact ci_seq b (ih _)
def simpleV : Ev.CE → Bool
  | .var _ => false
  | _ => true
theorem tok_not' {a : Expr} {ca : Ev.CE} (ha : TOk X Γ a ca) (hs : isVar ca = false) : TOk X Γ (.UnaryOp .Not a pos) (.bi .not [ca]) := by
  refine PT_imp (pt_not ha) fun σ H Q q => ?_
  have e : (fun s => (Ev.evalE Γ (.bi .not [ca]) s).bind fun v s' => Ev.truth v s') = fun s => ((Ev.evalE Γ ca s).bind fun v s' => Ev.truth v s').bind fun c s'' => .ok (!c) s'' := by
    funext s
    rw [eval1]
    have e1 : evalA1 Γ ca true s = Ev.evalE Γ ca s := by cases ca <;> first | rfl | exact Bool.noConfusion hs
    simp only [e1, bind_assoc]
    congr 1
    funext v s'
    cases v <;> rfl
  rw [e] at q
  refine TX_split q fun g b c H1 g1 st1 r1 e1 b1 w _ => ?_
  obtain rfl : c = b := b1
  exact w _ H1 g1 r1 (e1.trans .refl calm1 fun _ => rfl) rfl
end
end Sd
end
section
set_option Elab.async false
set_option linter.all false
set_option maxRecDepth 100000
set_option maxHeartbeats 4000000
set_option autoImplicit false
namespace Sd
open PySem PySem.Spec PyProof.Rows L2
section
variable {X : L2.Cx} {Γ : Ev.Cx} {S : SC} {pos : Pos}
theorem find_ok {l : List DfI} {x : Str} {n : Nat} {d : DfI} (h : findD l x n = some d) : d ∈ l ∧ d.nm = x ∧ n + d.dps.length = d.np := by
  unfold findD at h
  have h1 := List.find?_some h
  rw [Bool.and_eq_true, decide_eq_true_eq, decide_eq_true_eq] at h1
  exact ⟨List.mem_of_find?_eq_some h, h1⟩
theorem findK_ok {l : List KwI} {x : Str} {n : Nat} {ks : List Str} {d : KwI} (h : findK l x n ks = some d) : d ∈ l ∧ d.nm = x ∧ d.n = n ∧ d.ks = ks ∧ n + ks.length = d.np := by
  unfold findK at h
  have h1 := List.find?_some h
  simp only [Bool.and_eq_true, decide_eq_true_eq] at h1
  exact ⟨List.mem_of_find?_eq_some h, h1.1.1.1, h1.1.1.2, h1.1.2, h1.2⟩
theorem koks_of {f : Expr → Ev.CE} (k : ∀ e, EOk X Γ e (f e)) : ∀ {kws : List Keyword} {ks : List Str}, kwNames kws = some ks → KOks X Γ kws ks (kws.map fun q => f q.value)
  | [], ks, h => by simp [kwNames] at h; subst h; exact .nil
  | ⟨arg, v, p⟩ :: r, ks, h => by
    cases arg with
    | none => simp [kwNames] at h
    | some x =>
      simp only [kwNames] at h
      rw [Option.map_eq_some_iff] at h
      obtain ⟨ks', h1, rfl⟩ := h
      exact .cons (k v) (koks_of k h1)
theorem ne_of {es : List Expr} (h : (!es.isEmpty) = true) : es ≠ [] := by
  cases es with
  | nil => exact Bool.noConfusion h
  | cons _ _ => exact fun z => nomatch z
theorem cs_ok {ifs : List Expr} {f : Expr → Ev.CE} (hl : decide (ifs.length ≤ 1) = true) (ht : (ifs.all fun c => tst c (f c)) = true) (ih : ∀ e, GdE X Γ e (f e)) : CsOk X Γ ifs (ifs.map f) := by
  match ifs, hl, ht with
  | [], _, _ => exact .nil
  | [c], _, ht =>
    simp at ht
    exact .one ((ih c).ts ht)
theorem nest_good (o : OkX X Γ S) {n : Nat} {ce : SC → Expr → Ev.CE} (ih : ∀ e, GdE X Γ e (ce S e)) (ihb : ∀ (scope : Scope) (e : Expr), Blk X scope fun X' => GdE X' Γ e (ce (S.blk scope) e))
    (hs : ∀ (b : Bool) (t it : Expr), PI X t it (TX X.K (srcM Γ b (cI ce S t it).1 (cI ce S t it).2) (Ev.calms (cI ce S t it).2) (RI X.K b))) {x : Str} {q p : Pos} {es : List Expr} {c : Ev.CE} (h : cNest n ce S x es = some c) :
    GdE X Γ (.Call (.Name x q) es [] p) c := by
  unfold cNest at h
  split at h
  · split at h <;> cases h
    rename_i hc
    simp only [Bool.and_eq_true, decide_eq_true_eq] at hc
    obtain ⟨⟨⟨⟨⟨h1, h2⟩, rfl⟩, rfl⟩, h5⟩, h6⟩ := hc
    obtain ⟨g, m, _, _⟩ := o.bln h1
    obtain ⟨g2, m2, _, _⟩ := o.bln h2
    exact good_of (eok_listZip o.calm g m g2 m2 (.cons (ih _).ok h5 (.cons (ih _).ok h6 .nil))) rfl rfl
  · split at h <;> cases h
    rename_i hc
    simp only [Bool.and_eq_true, decide_eq_true_eq] at hc
    obtain ⟨⟨⟨⟨h1, h2⟩, rfl⟩, rfl⟩, h5⟩ := hc
    obtain ⟨g, m, _, _⟩ := o.bln h1
    obtain ⟨g2, m2, _, _⟩ := o.bln h2
    exact good_of (eok_sortedSet o.calm g m g2 m2 (.cons (ih _).ok h5 .nil)) rfl rfl
  · rename_i elt t it ifs scope sp
    split at h
    · rename_i tg htg
      split at h <;> cases h
      rename_i hc
      simp only [Bool.and_eq_true] at hc
      obtain ⟨⟨⟨⟨⟨h1, h2⟩, h3⟩, h4⟩, h5⟩, h6⟩ := hc
      have h2 := of_decide_eq_true h2
      subst h2
      obtain ⟨g, m, _, _⟩ := o.bln h1
      obtain ⟨b1, b2⟩ := own_blk h3
      have b1 : BlkOk X.N X.env.scope scope (ownOf S.N scope) := by rw [o.N, o.env]; exact b1
      exact good_of (eok_scomp g m o.calm o.nd (hs _ _ _) b1 b2 (tg_blk o htg) (fun s H C cl fp => cs_ok h5 h6 fun e => ihb scope e s H C cl fp) (fun s H C cl fp => (ihb scope elt s H C cl fp).ok) h4) rfl rfl
    · cases h
  · cases h
theorem cE_good (hE : ∀ X S, OkX X Γ S → EnumOk X Γ) : ∀ (n : Nat) (S : SC) (X : L2.Cx) (e : Expr), OkX X Γ S → GdE X Γ e (cE n S e)
  | 0, S, X, e, o => by
    rw [cE]
    exact good_no
  | n + 1, S, X, e, o => by
    have ih : ∀ e, GdE X Γ e (cE n S e) := fun e => cE_good hE n S X e o
    have ihb : ∀ (scope : Scope) (e : Expr), Blk X scope fun X' => GdE X' Γ e (cE n (S.blk scope) e) := fun scope e s H C cl fp => cE_good hE n (S.blk scope) _ e (o.blk scope s H C cl fp)
    have hs : ∀ (b : Bool) (t it : Expr), PI X t it (TX X.K (srcM Γ b (cI (cE n) S t it).1 (cI (cE n) S t it).2) (Ev.calms (cI (cE n) S t it).2) (RI X.K b)) := fun b t it => ci_ok (hE X S o) o (fun e => (ih e).ok) b t it
    cases e <;> first | exact good_no | skip
    all_goals (try simp only [cE])
    case Constant c k p =>
      cases c <;> (try dsimp only) <;> first | exact good_no | skip
      · exact good_of (eok_lit pe_non fun F => rfl) rfl rfl
      · exact good_of (eok_lit pe_bl fun F => rfl) rfl rfl
      · exact good_of (eok_lit pe_int fun F => rfl) rfl rfl
      · rename_i z
        split
        · rename_i h
          exact good_of (eok_lit pe_str fun F => ⟨by simp, h⟩) rfl rfl
        · exact good_no
    case Name x p =>
      split
      · rename_i i h
        obtain ⟨a, b, c, d⟩ := o.var h
        exact good_of (eok_var a b c d) rfl rfl
      · split
        · rename_i hc
          rw [Bool.and_eq_true] at hc
          obtain ⟨h1, _, h3⟩ := okN_ok hc.1
          split
          · rename_i v hv
            obtain ⟨u, w, e1, e2, e3⟩ := o.gl _ _ hv
            exact good_of (eok_lit (pe_glob (o.glo hc.2) e1 e2 h1) e3) rfl rfl
          · split
            · rename_i hb
              have hb := of_decide_eq_true hb
              split
              · rename_i k hk
                have m := o.bl _ hb
                have g := o.glo hc.2
                unfold typeN at hk
                split at hk
                · cases hk; rename_i e; subst e; exact good_of (eok_lit (v := .ty "str") (pe_bltn g m boot_str rfl h3 h1) fun F => rfl) rfl rfl
                split at hk
                · cases hk; rename_i e; subst e; exact good_of (eok_lit (v := .ty "int") (pe_bltn g m boot_int rfl h3 h1) fun F => rfl) rfl rfl
                split at hk
                · cases hk; rename_i e; subst e; exact good_of (eok_lit (v := .ty "bool") (pe_bltn g m boot_bool rfl h3 h1) fun F => rfl) rfl rfl
                split at hk
                · cases hk; rename_i e; subst e; exact good_of (eok_lit (v := .ty "tuple") (pe_bltn g m boot_tuple rfl h3 h1) fun F => rfl) rfl rfl
                split at hk
                · cases hk; rename_i e; subst e; exact good_of (eok_lit (v := .ty "list") (pe_bltn g m boot_list rfl h3 h1) fun F => rfl) rfl rfl
                split at hk
                · cases hk; rename_i e; subst e; exact good_of (eok_lit (v := .ty "dict") (pe_bltn g m boot_dict rfl h3 h1) fun F => rfl) rfl rfl
                · cases hk
              · exact good_no
            · exact good_no
        · exact good_no
    case Tuple es k p =>
      split
      · rename_i h
        obtain ⟨h1, h2⟩ := okArgs_ok h
        exact good_of (eok_tup (eoks_of h1 fun e _ => (ih e).ok) (by rw [List.length_map]; exact h2)) rfl rfl
      · exact good_no
    case List es p =>
      split
      · rename_i h
        obtain ⟨h1, h2⟩ := okArgs_ok h
        exact good_of (eok_lst (eoks_of h1 fun e _ => (ih e).ok) (by rw [List.length_map]; exact h2)) rfl rfl
      · exact good_no
    case Dict ks vs p =>
      match ks, vs with
      | [], [] => simp only [cE]; exact good_of eok_dnew rfl rfl
      | [], _ :: _ => simp only [cE]; exact good_no
      | _ :: _, _ => simp only [cE]; exact good_no
    case BinOp a op b p =>
      split
      · rename_i b' hb
        exact good_of (eok_op (bin_rule hb) (ih a).ok (ih b).ok) rfl rfl
      · exact good_no
    case UnaryOp op a p =>
      cases op <;> (try dsimp only) <;> first | exact good_no | skip
      · split
        · rename_i h
          exact ⟨eok_not (ih a).ok, fun h2 => tok_not' ((ih a).ts h) (by
            cases hc : cE n S a <;> first | rfl | skip
            rw [hc] at h2
            exact Bool.noConfusion h2), fun _ _ _ z => (nomatch z), fun z => Bool.noConfusion z⟩
        · exact good_no
      · exact good_of (eok_neg (ih a).ok) rfl rfl
    case BoolOp op vs p =>
      match vs with
      | [] => exact good_no
      | [a] =>
        dsimp only
        split
        · rename_i h
          have w : WOk X Γ (.BoolOp op [a] p) (cE n S a) := by
            cases op
            · exact wok_and1 ((ih a).ts h)
            · exact wok_or1 ((ih a).ts h)
          exact ⟨eok_one (ih a).ok, fun _ => tok_w w, fun _ _ _ z => by cases z; exact w, fun z => Bool.noConfusion z⟩
        · exact good_no
      | a :: b :: r =>
        dsimp only
        split
        · rename_i h
          cases op
          · have w := wok_and (pos := p) ((ih a).ts h) ((ih (.BoolOp .And (b :: r) p)).wk _ _ _ rfl) (by simp)
            exact ⟨eok_and (ih a).ok (ih (.BoolOp .And (b :: r) p)).ok (by simp), fun _ => tok_w w, fun _ _ _ z => by cases z; exact w, fun z => Bool.noConfusion z⟩
          · have w := wok_or (pos := p) ((ih a).ts h) ((ih (.BoolOp .Or (b :: r) p)).wk _ _ _ rfl) (by simp)
            exact ⟨eok_or (ih a).ok (ih (.BoolOp .Or (b :: r) p)).ok (by simp), fun _ => tok_w w, fun _ _ _ z => by cases z; exact w, fun z => Bool.noConfusion z⟩
        · exact good_no
    case Compare a ops bs p =>
      match ops, bs with
      | [op], [b] =>
        dsimp only
        split
        · exact good_no
        · rename_i h
          have h : behindInMarks op b = false := by simpa using h
          exact ⟨eok_cmp (cmp_rule o.units op) (ih a).ok (ih b).ok h, fun _ => tok_cmp (cmp_rule o.units op) (ih a).ok (ih b).ok h, fun _ _ _ z => (nomatch z), fun z => Bool.noConfusion z⟩
      | [op, op'], [b, c] =>
        dsimp only
        split
        · exact good_no
        · rename_i h
          simp only [Bool.or_eq_true, not_or, Bool.not_eq_true, Bool.not_eq_eq_eq_not, Bool.not_false, Bool.not_true] at h
          have h1 : lastMarks [op, op'] [b, c] = false := h.1
          have h2 : Ev.calm (cE n S c) = true := by simpa using h.2
          exact ⟨eok_chain (cmp_rule o.units op) (cmp_rule o.units op') (ih a).ok (ih b).ok (ih c).ok h2 h1, fun _ => tok_chain (cmp_rule o.units op) (cmp_rule o.units op') (ih a).ok (ih b).ok (ih c).ok h2 h1, fun _ _ _ z => (nomatch z), fun z => Bool.noConfusion z⟩
      | [], _ => exact good_no
      | [_], [] => exact good_no
      | [_], _ :: _ :: _ => exact good_no
      | [_, _], [] => exact good_no
      | [_, _], [_] => exact good_no
      | [_, _], _ :: _ :: _ :: _ => exact good_no
      | _ :: _ :: _ :: _, _ => exact good_no
    case IfExp t a b p =>
      split
      · rename_i h
        exact ⟨eok_ife ((ih t).ts h) (ih a).ok (ih b).ok, fun z => Bool.noConfusion z, fun _ _ _ z => (nomatch z), fun z => Bool.noConfusion z⟩
      · exact good_no
    case Subscript a i p =>
      have gi : ∀ i, notSl i = true → GdE X Γ (.Subscript a i p) (.bi .ix [cE n S a, cE n S i]) := fun i hi => good_of (eok_ix o.units (ih a).ok (ih i).ok hi) rfl rfl
      cases i <;> (try dsimp only) <;> first | exact gi _ rfl | skip
      rename_i lo hi st p2
      cases lo <;> cases hi <;> cases st <;> (try dsimp only) <;> first | exact good_no | skip
      · exact good_of (eok_slH (ih a).ok (ih _).ok) rfl rfl
      · exact good_of (eok_slL (ih a).ok (ih _).ok) rfl rfl
      · exact good_of (eok_slLH (ih a).ok (ih _).ok (ih _).ok) rfl rfl
    case Call f es kws p =>
      cases f <;> first | exact good_no | skip
      case Name x q =>
        cases kws with
        | nil =>
          dsimp only
          split
          · rename_i c hc
            exact nest_good o (fun e => ih e) ihb hs hc
          split
          · rename_i h
            rw [Bool.and_eq_true] at h
            obtain ⟨h1, h2⟩ := okArgs_ok h.1
            have hne := ne_of h.2
            have hes := eoks_of (X := X) (Γ := Γ) (f := cE n S) h1 fun e _ => (ih e).ok
            split
            · rename_i hc
              rw [Bool.and_eq_true] at hc
              obtain ⟨k1, _, k3⟩ := okN_ok hc.1
              split
              · rename_i d hd
                obtain ⟨m1, m2, m3⟩ := find_ok hd
                subst m2
                have g0 : GdE X Γ (.Call (.Name d.nm q) es [] p) (.call d.ix (es.map (cE n S) ++ d.dps.map .lit)) := good_of (eok_callD (o.defs d m1) (o.glo hc.2) k1 hes (by rw [List.length_map]; exact m3) hne) rfl rfl
                unfold lendC
                split
                · rename_i hln
                  rw [Bool.and_eq_true, List.isEmpty_iff] at hln
                  match es, h1, m3, g0 with
                  | [], _, _, _ => exact absurd rfl hne
                  | e1 :: es', h1, m3, g0 =>
                    simp only [List.map_cons]
                    split
                    · rename_i y yp es2 c2 r2 heq1 heq2
                      cases heq1
                      cases heq2
                      split
                      · rename_i i hi
                        obtain ⟨a1, a2, a3, a4⟩ := o.var hi
                        have F := o.defs d m1
                        rw [hln.2] at F m3
                        rw [List.all_cons, Bool.and_eq_true] at h1
                        refine good_of (eok_callL F (o.glo hc.2) k1 a1 a2 a3 a4 (eoks_of h1.2 fun e _ => (ih e).ok) ?_) rfl rfl
                        simpa using m3
                      · exact g0
                    · exact g0
                · exact g0
              · split
                · rename_i hm
                  have hm := of_decide_eq_true hm
                  split
                  · rename_i b hb
                    exact good_of (blt_rule o hb hc.1 hc.2 hm hne hes) rfl rfl
                  · exact good_no
                · exact good_no
            · exact good_no
          · exact good_no
        | cons kw kws =>
          dsimp only
          split
          · rename_i h
            simp only [Bool.and_eq_true] at h
            obtain ⟨⟨⟨h0, hn⟩, hx⟩, hg⟩ := h
            obtain ⟨h1, h2⟩ := okArgs_ok h0
            have hne := ne_of hn
            have hes := eoks_of (X := X) (Γ := Γ) (f := cE n S) h1 fun e _ => (ih e).ok
            obtain ⟨k1, _, k3⟩ := okN_ok hx
            split
            · rename_i ks hk
              split
              · rename_i d hd
                obtain ⟨m1, m2, m3, m4, m5⟩ := findK_ok hd
                subst m2
                have hko := koks_of (X := X) (Γ := Γ) (f := cE n S) (fun e => (ih e).ok) hk
                have F := o.kws d m1
                rw [m3, m4] at F
                exact good_of (eok_callK F (o.glo hg) k1 hes hko (by rw [List.length_map]) m5 hne) rfl rfl
              · exact good_no
            · exact good_no
          · exact good_no
      case Attribute ob m apos =>
        cases ob <;> first | exact good_no | skip
        rename_i x q
        cases kws with
        | cons kw kws => exact good_no
        | nil =>
          match es with
          | [] => exact good_no
          | _ :: _ :: _ => exact good_no
          | [e] =>
            dsimp only
            split
            · rename_i h
              simp only [Bool.and_eq_true, decide_eq_true_eq] at h
              obtain ⟨⟨rfl, h2⟩, h3⟩ := h
              split
              · rename_i i hi
                obtain ⟨a, b, c, d⟩ := o.var hi
                exact good_of (eok_append a b c d (ih e).ok h2 h3) rfl rfl
              · exact good_no
            · exact good_no
    case ListComp elt gs scope p =>
      split
      · rename_i t it ifs
        split
        · rename_i tg htg
          split
          · rename_i h
            simp only [Bool.and_eq_true] at h
            obtain ⟨⟨⟨h1, h2⟩, h3⟩, h4⟩ := h
            obtain ⟨b1, b2⟩ := own_blk h1
            have b1 : BlkOk X.N X.env.scope scope (ownOf S.N scope) := by rw [o.N, o.env]; exact b1
            have r := eok_lc (pos := p) o.calm o.nd (hs _ t it) b1 b2 (tg_blk o htg) (fun s H C cl fp => cs_ok h3 h4 fun e => ihb scope e s H C cl fp) (fun s H C cl fp => (ihb scope elt s H C cl fp).ok) h2
            exact ⟨r.1, fun _ => tok_val r.1.val fun w => true_plain rfl w, fun _ _ _ z => (nomatch z), fun _ => r.2⟩
          · exact good_no
        · exact good_no
      · rename_i t it t2 it2
        split
        · rename_i tg tg2 htg htg2
          split
          · rename_i h
            simp only [Bool.and_eq_true] at h
            obtain ⟨⟨⟨h1, h2⟩, h3⟩, h4⟩ := h
            obtain ⟨b1, b2⟩ := own_blk h1
            obtain ⟨_, b3⟩ := own_blk h2
            have b1 : BlkOk X.N X.env.scope scope (ownOf S.N scope) := by rw [o.N, o.env]; exact b1
            have r := eok_lc2 (pos := p) o.calm o.nd (hs _ t it) b1 b2 (fun i hi => hi) b3 (tg_blk o htg) (fun s H C cl fp => ci_ok (hE _ _ (o.blk scope s H C cl fp)) (o.blk scope s H C cl fp) (fun e => (ihb scope e s H C cl fp).ok) false t2 it2) (tg_blk o htg2) (fun s H C cl fp => (ihb scope elt s H C cl fp).ok) h3 h4
            exact ⟨r.1, fun _ => tok_val r.1.val fun w => true_plain rfl w, fun _ _ _ z => (nomatch z), fun _ => r.2⟩
          · exact good_no
        · exact good_no
      · exact good_no
    case DictComp k elt gs scope p =>
      split
      · rename_i t it ifs
        split
        · rename_i tg htg
          split
          · rename_i h
            simp only [Bool.and_eq_true] at h
            obtain ⟨⟨⟨h1, h2⟩, h3⟩, h4⟩ := h
            obtain ⟨b1, b2⟩ := own_blk h1
            have b1 : BlkOk X.N X.env.scope scope (ownOf S.N scope) := by rw [o.N, o.env]; exact b1
            have r := eok_dc (pos := p) o.calm o.nd (hs _ t it) b1 b2 (tg_blk o htg) (fun s H C cl fp => cs_ok h3 h4 fun e => ihb scope e s H C cl fp) (fun s H C cl fp => (ihb scope k s H C cl fp).ok) (fun s H C cl fp => (ihb scope elt s H C cl fp).ok) h2
            have r2 := swok_dc (pos := p) o.calm o.nd (hs _ t it) b1 b2 (tg_blk o htg) (fun s H C cl fp => cs_ok h3 h4 fun e => ihb scope e s H C cl fp) (fun s H C cl fp => (ihb scope k s H C cl fp).ok) (fun s H C cl fp => (ihb scope elt s H C cl fp).ok) h2
            exact ⟨r, fun _ => tok_val r.val fun w => true_plain rfl w, fun _ _ _ z => (nomatch z), fun _ => r2⟩
          · exact good_no
        · exact good_no
      · exact good_no
end
end Sd
end
section
set_option Elab.async false
set_option linter.all false
set_option maxRecDepth 100000
set_option maxHeartbeats 4000000
set_option autoImplicit false
namespace Sd
open PySem PySem.Spec PyProof.Rows L2
def isStar : Expr → Bool
  | .Starred _ _ => true
  | _ => false
def swNames (sc : Scope) (ts : List Expr) : List Str := ts.filterMap fun
    | .Name id pos => if sc.names.lookup id == some .local && pos.line == (ts.head?.map (·.pos.line)).getD 0 then some id else none
    | _ => none
/-- the stores of a tuple of names, a tuple of values: from the left (none), or from the right -/
def swS (sc : Scope) (ts vs : List Expr) : Option (Option (List Str)) :=
  if !(ts.length == 2 || ts.length == 3) || vs.length != ts.length then some none else
  if vs.any isStar then some none else
  if (swNames sc ts).length != ts.length || (swNames sc ts).eraseDups.length != (swNames sc ts).length then some none else
  if vs.all (foldedForSure 8) then some none else
  if vs.all (constantsAlone 8) then none else some (some (swNames sc ts))
theorem sw_stores {env : Env} {sc : Scope} {ts vs : List Expr} {k k2 : Nat} {p p2 : Pos} {r : Option (List Str)} (hk : env.scope.kind = .function) (hs : env.scope = sc) (h : swS sc ts vs = some r) : swappedStores [.Tuple ts k p] (.Tuple vs k2 p2) env = pure r := by
  subst hs
  have hb : env.blockKind = .function := by unfold Env.blockKind; rw [hk]; rfl
  unfold swS at h
  unfold swappedStores
  dsimp only
  rw [hb]
  change (if (!(ts.length == 2 || ts.length == 3) || vs.length != ts.length || ((ScopeKind.function : ScopeKind) != .function)) = true then (pure none : Sem (Option (List Str))) else if vs.any isStar = true then pure none else
    if ((swNames env.scope ts).length != ts.length || (swNames env.scope ts).eraseDups.length != (swNames env.scope ts).length) = true then pure none else
    if vs.all (foldedForSure 8) = true then pure none else if vs.all (constantsAlone 8) = true then (do unsupported "assign.tuple-of-constant-expressions:order-of-the-stores"; pure (some (swNames env.scope ts))) else pure (some (swNames env.scope ts))) = pure r
  have e0 : ((ScopeKind.function : ScopeKind) != .function) = false := rfl
  rw [e0, Bool.or_false]
  split at h
  · cases h; rename_i c; rw [if_pos c]
  · rename_i c
    rw [if_neg c]
    split at h
    · cases h; rename_i c; rw [if_pos c]
    · rename_i c
      rw [if_neg c]
      split at h
      · cases h; rename_i c; rw [if_pos c]
      · rename_i c
        rw [if_neg c]
        split at h
        · cases h; rename_i c; rw [if_pos c]
        · rename_i c
          rw [if_neg c]
          split at h
          · cases h
          · cases h; rename_i c; rw [if_neg c]
theorem sok_par3 {X : L2.Cx} {Γ : Ev.Cx} {pos : Pos} {i j l : Nat} {x y z : Str} {a b c : Expr} {px py pz pt : Pos} {kt k2 : Nat} {pt2 : Pos} {ca cb cc : Ev.CE} (hc : X.calm = true) (hN : X.N.Nodup) (hi : X.N[i]? = some x) (hj : X.N[j]? = some y) (hl : X.N[l]? = some z) (hij : i ≠ j) (hil : i ≠ l) (hjl : j ≠ l)
    (hx : X.env.scope.names.lookup x = some .local) (hy : X.env.scope.names.lookup y = some .local) (hz : X.env.scope.names.lookup z = some .local) (h : EOks X Γ [a, b, c] [ca, cb, cc])
    (hw : swappedStores [.Tuple [.Name x px, .Name y py, .Name z pz] kt pt] (.Tuple [a, b, c] k2 pt2) X.env = pure (some [x, y, z])) : SOk X Γ (.Assign [.Tuple [.Name x px, .Name y py, .Name z pz] kt pt] (.Tuple [a, b, c] k2 pt2) pos) (.par [i, j, l] [ca, cb, cc]) := by
  refine PS_imp (ps_par3 hc hN hi hj hl hij hil hjl hx hy hz (pa_vals h) hw sw_tup) fun D σ H ⟨g, st, r, w⟩ => ⟨g, st, r, ?_⟩
  simp only [Ev.exec] at w
  rw [wpO_bind] at w
  refine wpO_mono w fun ps st1 w vs H1 g1 r1 e1 b1 => ?_
  rw [wpO_bind, wpO_opt] at w
  obtain ⟨st2, eb, w⟩ := w
  match ps, vs, b1, eb with
  | [], _, _, eb => simp [Ev.putAll] at eb
  | [p], _, _, eb => simp [Ev.putAll] at eb
  | [p, q], _, _, eb => simp [Ev.putAll] at eb
  | [p, q, o], [v, u, t], b1, eb =>
    simp only [Ev.putAll] at eb
    split at eb <;> first | cases eb | skip
    rename_i h1
    split at eb <;> first | cases eb | skip
    rename_i h2
    split at eb <;> cases eb
    rename_i h3
    exact ⟨v, u, t, rfl, w _ H1 g1 (((r1.putV h1 b1.1).putV h2 b1.2.1).putV h3 b1.2.2.1) (e1.trans .refl (fun z => nomatch z) fun z => rfl)⟩
  | p :: q :: r :: s :: t, _, _, eb =>
    simp only [Ev.putAll] at eb
    split at eb <;> first | cases eb | skip
    split at eb <;> first | cases eb | skip
    split at eb <;> cases eb
/-! ### the compiler, statements -/
def noS : Ev.CS := .rais 0 []
def cT (n : Nat) (S : SC) (e : Expr) : Ev.CE := if tst e (cE n S e) then cE n S e else noC
def lcB (S : SC) (x : Str) : Bool := decide (S.sc.names.lookup x = some .local)
/-- whether name = [..] stores within the comprehension -/
def swB (S : SC) (x : Str) (py : Pos) (e : Expr) : Bool :=
  match e with
  | .ListComp _ _ s p => lcB S x && py.line == p.line && !(s.names.any fun y => y.1 == x && (y.2 == .local || y.2 == .cell))
  | .DictComp _ _ _ s p => lcB S x && py.line == p.line && !(s.names.any fun y => y.1 == x && (y.2 == .local || y.2 == .cell))
  | .SetComp _ _ s p => lcB S x && py.line == p.line && !(s.names.any fun y => y.1 == x && (y.2 == .local || y.2 == .cell))
  | _ => false
def fnK (S : SC) : Bool := decide (S.sc.kind = .function)
def cS : Nat → SC → Stmt → Ev.CS
  | 0, _, _ => noS
  | n + 1, S, .Pass _ => .pass
  | n + 1, S, .Break _ => .brk
  | n + 1, S, .Expr e _ => if isComp e then noS else .ex (cE n S e)
  | n + 1, S, .Return none _ => .ret (.lit .non)
  | n + 1, S, .Return (some e) _ => if isVar (cE n S e) then (match e with
      | .Name x _ => match S.var x with
        | some i => .ret (.var i)
        | none => noS
      | _ => noS) else .ret (cE n S e)
  | n + 1, S, .Assign ts e _ => match ts with
    | [.Name x _] => match S.st x with
      | some i => if isComp e && !fnK S then noS else .asgO i (cE n S e)
      | none => noS
    | [.Tuple es _ _] => match e with
      | .Tuple vs _ _ => if fnK S then match swS S.sc es vs with
        | some none => match cTG n S (.Tuple es 0 ⟨0, 0, 0, 0⟩) with
          | some tg => .asgT tg (cE n S e)
          | none => noS
        | some (some nms) => match es, vs with
          | [.Name x _, .Name y _], [a, b] => match S.st x, S.st y with
            | some i, some j => if decide (nms = [x, y]) && lcB S x && lcB S y && decide (i ≠ j) && notStar a && notStar b then (match cE n S b with | .lst us => .parO i j (cE n S a) (.lst us) | cb => .par [i, j] [cE n S a, cb]) else noS
            | _, _ => noS
          | [.Name x _, .Name y _, .Name z _], [a, b, c] => match S.st x, S.st y, S.st z with
            | some i, some j, some l => if decide (nms = [x, y, z]) && lcB S x && lcB S y && lcB S z && decide (i ≠ j) && decide (i ≠ l) && decide (j ≠ l) && notStar a && notStar b && notStar c then .par [i, j, l] [cE n S a, cE n S b, cE n S c] else noS
            | _, _, _ => noS
          | _, _ => noS
        | none => noS else noS
      | e => match cTG n S (.Tuple es 0 ⟨0, 0, 0, 0⟩) with
        | some tg => .asgT tg (cE n S e)
        | none => noS
    | [.Subscript (.Name x _) k _] => match S.var x with
      | some i => if notSl k then .setI i (cE n S k) (cE n S e) else noS
      | none => noS
    | _ => noS
  | n + 1, S, .AugAssign t op e _ => match t with
    | .Name x _ => match S.st x, binB op with
      | some i, some b => if decide (augOp b = some op) then .aug i b (cE n S e) else noS
      | _, _ => noS
    | _ => noS
  | n + 1, S, .If t a b _ => .ife (cT n S t) (a.map (cS n S)) (b.map (cS n S))
  | n + 1, S, .While t b [] _ => .whl (cT n S t) (b.map (cS n S))
  | n + 1, S, .For t it b [] _ => match cTG n S t with
    | some tg => if notSet it then .forr tg (cI (cE n) S t it).1 (cI (cE n) S t it).2 (b.map (cS n S)) else noS
    | none => noS
  | _, _, _ => noS
section
variable {X : L2.Cx} {Γ : Ev.Cx} {S : SC} {pos : Pos}
theorem sok_no {s : Stmt} : SOk X Γ s noS := ⟨fun _ _ _ _ _ _ ⟨g, st, r, w⟩ => by
  have e0 : Ev.exec Γ noS st = .no := by simp [noS, Ev.exec]
  rw [e0] at w; exact w.elim⟩
theorem cT_ok {e : Expr} {n : Nat} (ih : GdE X Γ e (cE n S e)) : TOk X Γ e (cT n S e) := by
  unfold cT
  split
  · rename_i h; exact ih.ts h
  · exact ⟨fun _ _ _ _ _ _ h => (tx_no (fun _ => rfl) h).elim⟩
theorem sok_retN : SOk X Γ (.Return none pos) (.ret (.lit .non)) := by
  refine PS_imp ps_retN fun D σ H ⟨g, st, r, w⟩ => ?_
  have e0 : Ev.exec Γ (.ret (.lit .non)) st = .ok (.ret (.val .non)) st := by simp [Ev.exec, Ev.evalR, Ev.evalF, Ev.evalE, Ev.mark, Ev.freshE]
  rw [e0] at w
  exact w .non σ H g r .refl (show Rep X.K g.F .non .non from rfl)
theorem soks_of {f : Stmt → Ev.CS} (k : ∀ s, SOk X Γ s (f s)) : ∀ (ss : List Stmt), SOks X Γ ss (ss.map f)
  | [] => soks_nil
  | s :: ss => soks_cons (k s) (soks_of k ss)
theorem sw_comp (o : OkX X Γ S) (hk : S.sc.kind = .function) {e : Expr} (hc : isComp e = true) {x : Str} {py : Pos} {l : Nat} : swapsWith e (some (.Name x py)) l X.env = pure (swB S x py e) := by
  have hb : X.env.blockKind = .function := by unfold Env.blockKind; rw [o.env, hk]; rfl
  have hl : (X.env.kindOf x == some .local) = lcB S x := by
    unfold lcB Env.kindOf
    rw [o.env]
    rw [Bool.eq_iff_iff]; simp
  cases e <;> first | exact Bool.noConfusion hc | skip
  all_goals
    unfold swapsWith swB
    simp only [hb, hl, Expr.pos]
    rfl
theorem cS_good (hE : ∀ X S, OkX X Γ S → EnumOk X Γ) (hp : PassesOwn (model X.prog X.w) X.A X.env X.xe) (o : OkX X Γ S) : ∀ (n : Nat) (s : Stmt), SOk X Γ s (cS n S s)
  | 0, s => by
    rw [cS]
    exact sok_no
  | n + 1, s => by
    have ih : ∀ e, GdE X Γ e (cE n S e) := fun e => cE_good hE n S X e o
    have is : ∀ ss : List Stmt, SOks X Γ ss (ss.map (cS n S)) := fun ss => soks_of (fun s => cS_good hE hp o n s) ss
    have hs : ∀ (b : Bool) (t it : Expr), PI X t it (TX X.K (srcM Γ b (cI (cE n) S t it).1 (cI (cE n) S t it).2) (Ev.calms (cI (cE n) S t it).2) (RI X.K b)) := fun b t it => ci_ok (hE X S o) o (fun e => (ih e).ok) b t it
    have tgp : ∀ {es k p tg}, cTG n S (.Tuple es 0 ⟨0, 0, 0, 0⟩) = some tg → TGOk X (.Tuple es k p) tg := fun {es k p tg} h => by
      cases n with
      | zero => simp [cTG] at h
      | succ n => exact tg_ok o (n + 1) (.Tuple es k p) tg h
    cases s <;> first | exact sok_no | skip
    case Pass p => exact sok_pass
    case Break p => exact sok_brk
    case Expr e p =>
      simp only [cS]
      split
      · exact sok_no
      · rename_i h
        exact sok_ex (ih e).ok (sw_not (by simpa using h))
    case Return v p =>
      cases v with
      | none => exact sok_retN
      | some e =>
        simp only [cS]
        split
        · split
          · rename_i x q _
            split
            · rename_i i hi
              obtain ⟨a, b, c, d⟩ := o.var hi
              exact sok_retVar a b c d
            · exact sok_no
          · exact sok_no
        · rename_i h
          refine sok_ret (ih e).ok ?_
          cases hc : cE n S e <;> first | exact .inl rfl | exact .inr ⟨_, _, rfl⟩ | skip
          rw [hc] at h
          exact absurd rfl h
    case If t a b p =>
      simp only [cS]
      exact sok_ife (cT_ok (ih t)) (is a) (is b)
    case While t b orelse p =>
      cases orelse with
      | cons _ _ => exact sok_no
      | nil =>
        simp only [cS]
        exact sok_whl hp (cT_ok (ih t)) (is b)
    case For t it b orelse p =>
      cases orelse with
      | cons _ _ => exact sok_no
      | nil =>
        simp only [cS]
        split
        · rename_i tg htg
          split
          · rename_i hns
            exact sok_for hp o.calm o.nd (hs false t it) (tg_ok o n t tg htg) (is b) hns
          · exact sok_no
        · exact sok_no
    case AugAssign t op e p =>
      simp only [cS]
      split
      · rename_i x q
        split
        · rename_i i b hi hb
          split
          · rename_i ho
            obtain ⟨h1, h2, h3⟩ := o.st hi
            exact sok_aug (of_decide_eq_true ho) o.nd h1 h2 h3 (ih e).ok
          · exact sok_no
        · exact sok_no
      · exact sok_no
    case Assign ts e p =>
      simp only [cS]
      split
      · rename_i x q
        split
        · rename_i i hi
          obtain ⟨h1, h2, h3⟩ := o.st hi
          split
          · exact sok_no
          · rename_i hc
            cases hcm : isComp e with
            | false => exact sok_asgO (ih e).ok o.nd h1 h2 h3 (sws_not hcm) st_name
            | true =>
              rw [hcm] at hc
              have hk : S.sc.kind = .function := by
                simp [fnK] at hc
                exact hc
              have sw := sw_comp o hk hcm (x := x) (py := q) (l := p.line)
              cases hb : swB S x q e with
              | false =>
                rw [hb] at sw
                exact sok_asgO (ih e).ok o.nd h1 h2 h3 sw st_name
              | true =>
                rw [hb] at sw
                have hloc : X.env.scope.names.lookup x = some .local := by
                  rw [o.env]
                  cases e <;> first | exact Bool.noConfusion hcm | skip
                  all_goals
                    simp only [swB, Bool.and_eq_true] at hb
                    exact of_decide_eq_true hb.1.1
                exact (ih e).sw hcm i x q p h1 hloc sw
        · exact sok_no
      · rename_i es k q
        split
        · rename_i vs k2 p2
          split
          · rename_i hk
            have hk : S.sc.kind = .function := of_decide_eq_true hk
            have hk' : X.env.scope.kind = .function := by rw [o.env]; exact hk
            split
            · rename_i hsw
              split
              · rename_i tg htg
                exact sok_asgT o.calm o.nd (tgp htg) (ih _).ok (sw_stores hk' o.env hsw)
              · exact sok_no
            · rename_i nms hsw
              have sst := fun k k2 p p2 => sw_stores (k := k) (k2 := k2) (p := p) (p2 := p2) hk' o.env hsw
              split
              · rename_i x px y py a b
                split
                · rename_i i j hi hj
                  obtain ⟨i1, i2, i3⟩ := o.st hi
                  obtain ⟨j1, j2, j3⟩ := o.st hj
                  split
                  · rename_i hc
                    simp only [Bool.and_eq_true, decide_eq_true_eq, lcB] at hc
                    obtain ⟨⟨⟨⟨⟨rfl, lx⟩, ly⟩, hij⟩, na⟩, nb⟩ := hc
                    split
                    · rename_i us hus
                      exact sok_parO o.calm o.nd i1 j1 hij (by rw [o.env]; exact lx) (by rw [o.env]; exact ly) (ih a).ok na (by rw [← hus]; exact (ih b).ok) nb (sst _ _ _ _)
                    · exact sok_par o.calm o.nd i1 j1 hij (by rw [o.env]; exact lx) (by rw [o.env]; exact ly) (.cons (ih a).ok na (.cons (ih b).ok nb .nil)) (sst _ _ _ _)
                  · exact sok_no
                · exact sok_no
              · rename_i x px y py z pz a b c
                split
                · rename_i i j l hi hj hl
                  obtain ⟨i1, i2, i3⟩ := o.st hi
                  obtain ⟨j1, j2, j3⟩ := o.st hj
                  obtain ⟨l1, l2, l3⟩ := o.st hl
                  split
                  · rename_i hc
                    simp only [Bool.and_eq_true, decide_eq_true_eq, lcB] at hc
                    obtain ⟨⟨⟨⟨⟨⟨⟨⟨⟨rfl, lx⟩, ly⟩, lz⟩, hij⟩, hil⟩, hjl⟩, na⟩, nb⟩, nc⟩ := hc
                    exact sok_par3 o.calm o.nd i1 j1 l1 hij hil hjl (by rw [o.env]; exact lx) (by rw [o.env]; exact ly) (by rw [o.env]; exact lz) (.cons (ih a).ok na (.cons (ih b).ok nb (.cons (ih c).ok nc .nil))) (sst _ _ _ _)
                  · exact sok_no
                · exact sok_no
              · exact sok_no
            · exact sok_no
          · exact sok_no
        · rename_i hne
          split
          · rename_i tg htg
            refine sok_asgT o.calm o.nd (tgp htg) (ih _).ok (st_tup ?_)
            cases e <;> first | rfl | exact (hne _ _ _ rfl).elim
          · exact sok_no
      · rename_i x q k q2
        split
        · rename_i i hi
          obtain ⟨a, b, c, d⟩ := o.var hi
          split
          · rename_i hn
            exact sok_setI o.units a b c d (ih k).ok (ih e).ok hn
          · exact sok_no
        · exact sok_no
      · exact sok_no
end
end Sd
end
section
set_option Elab.async false
set_option linter.all false
set_option maxRecDepth 100000
set_option maxHeartbeats 4000000
set_option autoImplicit false
namespace Sd
open PySem PySem.Spec PyProof.Rows L2
/-! ### a def keeps its promise -/
section
variable {P : Program} {w : World} {K : PySem.W.Frag} {mg : Str → Option Value} {base : Heap}
theorem start_R {F H : Hp} {N : List Str} {ps : List Ev.PV} {vs : List V} (s : Sub F H) (r : Reps K F ps vs) (hl : ps.length ≤ N.length) :
    R K ⟨F, H, F, fun _ => none⟩ (L2.start N vs) H ⟨ps.map (fun v => some (.val v)) ++ List.replicate (N.length - ps.length) none, []⟩ := by
  have hlen := r.length
  have gt : ∀ i v, Ev.St.get ⟨ps.map (fun v => some (Ev.SV.val v)) ++ List.replicate (N.length - ps.length) none, []⟩ i = some v → ∃ p, ps[i]? = some p ∧ v = .val p := fun i v e => by
    unfold Ev.St.get at e
    dsimp only at e
    by_cases h : i < ps.length
    · rw [List.getElem?_append_left (by simpa using h), List.getElem?_map, List.getElem?_eq_getElem h] at e
      simp at e
      exact ⟨ps[i], by rw [List.getElem?_eq_getElem h], e.symm⟩
    · rw [List.getElem?_append_right (by simpa using h)] at e
      rw [List.getElem?_replicate] at e
      split at e <;> simp at e
  refine ⟨s, ?_, fun i v e => ?_, fun i j v w' x e1 _ _ _ => ?_, .refl _, .refl _, fun a o h => .inl h, rfl, fun a o h => (nomatch h), fun a o h => (nomatch h)⟩
  · unfold L2.start
    rw [List.length_append, List.length_append, List.length_map, List.length_map, List.length_replicate, List.length_replicate, hlen]
  · obtain ⟨p, h1, rfl⟩ := gt i v e
    obtain ⟨x, h2, h3⟩ := r.get h1
    refine ⟨x, ?_, h3⟩
    unfold L2.start
    have hi : i < vs.length := by
      rw [List.getElem?_eq_some_iff] at h2
      exact h2.1
    rw [List.getElem?_append_left (by simpa using hi), List.getElem?_map, h2]
    rfl
  · obtain ⟨p, _, h⟩ := gt i _ e1
    cases h
/-- what a program's defs lean on, level by level -/
structure Base (P : Program) (w : World) (K : PySem.W.Frag) (mg : Str → Option Value) (base : Heap) (Γ : Ev.Cx) (k : Nat) (S : SC) : Prop where
  defs : ∀ d ∈ S.defs, ∃ (f : Addr) (fd : FuncData) (ps : List Str) (dvs : List V) (ds : List Value), FnOk P w K mg base CX0 k f fd ps (spOf K (Γ.call d.ix) d.np) ∧ mg d.nm = some (.ref f) ∧ PySem.W.keepIn K (.ref f) = true ∧ Binds K fd ps ds ∧ Vals dvs ds ∧ ∀ F, Reps K F d.dps dvs
  kws : ∀ d ∈ S.kws, ∃ (f : Addr) (fd : FuncData) (ps : List Str) (g : List Value → List Value → List Value), FnOk P w K mg base CX0 k f fd ps (spOf K (Γ.call d.ix) d.np) ∧ mg d.nm = some (.ref f) ∧ PySem.W.keepIn K (.ref f) = true ∧ KBn K fd ps d.n d.ks g (fun vs zs => vs ++ zs)
  gl : ∀ x p, S.gl.lookup x = some p → ∃ u v, mg x = some u ∧ RelV v u ∧ ∀ F, Rep K F p v
  bl : ∀ x ∈ S.bl, mg x = none
  kit : KitOk K
theorem fn_good {x qual : Str} {params : Arguments} {body : List Stmt} {scope : Scope} {dvs : List V} {kws : List (Str × V)} {f : Addr} {fd : FuncData} {N ps : List Str} {S : SC} {Pr : List Ev.Fn} {gl : List Ev.PV} {T n m i : Nat}
    (hE : ∀ Γ X S, OkX X Γ S → EnumOk X Γ) (Fd : FunD K x qual params body scope dvs kws f fd) (Sc : FnScope N ps scope) (h1 : S.sc = scope) (h2 : S.ws = scope) (h3 : S.N = N)
    (hP : Pr[i]? = some ⟨ps.length, N.length, body.map (cS m S)⟩)
    (B : Base P w K mg base { call := Ev.callN Pr gl T n, glob := fun j => gl[j]?, turns := T } (n + 3) S) :
    FnOk P w K mg base CX0 (n + 4) f fd ps (spOf K (Ev.callN Pr gl T (n + 1) i) ps.length) := by
  refine Fd.ok Sc (fun vs H Q E h => ?_) (fun cdv A outer s H vs Q E hr h => ?_)
  · obtain ⟨F, qs, r, _, hq, hl, _⟩ := h
    rw [← hq.length]; exact hl
  · refine ⟨TXS K (Ev.execs { call := Ev.callN Pr gl T n, glob := fun j => gl[j]?, turns := T } (body.map (cS m S))), PSs.nox ?_, ?_⟩
    · have o : OkX (cxOf CX0 P w K mg base N qual scope f cdv A outer s H E).nox { call := Ev.callN Pr gl T n, glob := fun j => gl[j]?, turns := T } S := {
        env := h1.symm
        fn := fun _ _ => rfl
        N := h3.symm
        nd := Sc.nd
        calm := rfl
        units := by
          have := hr.un
          show (A.deeper _).units + 66 < cLine
          omega
        defs := fun d hd => by
          obtain ⟨f, fd, ps, dvs, ds, a, b, c, d1, e, g⟩ := B.defs d hd
          exact ⟨_, f, fd, ps, dvs, ds, a, hr, b, c, d1, e, g⟩
        kws := fun d hd => by
          obtain ⟨f, fd, ps, g, a, b, c, d1⟩ := B.kws d hd
          exact ⟨_, f, fd, ps, g, a, hr, b, c, d1⟩
        gl := B.gl
        bl := B.bl
        kit := B.kit }
      exact soks_of (cS_good (fun X S o => hE _ X S o) PassesOwn.never o m) body
    · obtain ⟨F, qs, r, sb, hq, hl, hc, k⟩ := h
      have hN : qs.length ≤ N.length := by
        have := congrArg List.length Sc.pre
        rw [List.length_take] at this
        omega
      refine ⟨⟨F, H, F, fun _ => none⟩, _, start_R sb hq hN, ?_⟩
      have hc' : Ev.runF { call := Ev.callN Pr gl T n, glob := fun j => gl[j]?, turns := T } ⟨ps.length, N.length, body.map (cS m S)⟩ qs = some r := by
        have : Ev.callN Pr gl T (n + 1) i qs = some r := hc
        simp only [Ev.callN, hP] at this
        exact this
      unfold Ev.runF at hc'
      dsimp only at hc'
      rw [if_pos hl] at hc'
      have e0 : (List.replicate (N.length - ps.length) (none : Option Ev.SV)) = List.replicate (N.length - qs.length) none := by rw [hl]
      rw [e0] at hc'
      have bk : ∀ {g' : Gh} {σ' : L2.St} {H' : Hp} {st' : Ev.St}, R K g' σ' H' st' → Ext ⟨F, H, F, fun _ => none⟩ H g' H' false → Back K F H g'.F H' := fun {g' σ' H' st'} r' e => by
        have e1 : g'.H0 = H := e.h0
        have e2 : g'.F0 = F := e.f0
        exact ⟨e.f, r'.sub, by rw [← e1]; exact r'.old, fun a o ha => by
          have := r'.new a o ha
          rw [e1, e2] at this
          exact this⟩
      split at hc'
      · rename_i rv st' he
        cases hc'
        rw [he]
        intro x σ' H' g' r' e rf
        refine k x g'.F H' (bk r' e) ?_
        cases r with
        | val p => exact rf
        | own p =>
          obtain ⟨b, a, o, e1, e2, e3, e4, e5, _⟩ := rf
          have e6 : g'.H0 = H := e.h0
          exact ⟨a, o, e1, e2, e3, b, e4, by rw [← e6]; exact e5⟩
      · rename_i st' he
        cases hc'
        rw [he]
        intro σ' H' g' r' e
        exact k .non g'.F H' (bk r' e) rfl
      · cases hc'
/-- at the lowest level nothing is promised -/
theorem fn_zero {x qual : Str} {params : Arguments} {body : List Stmt} {scope : Scope} {dvs : List V} {kws : List (Str × V)} {f : Addr} {fd : FuncData} {N ps : List Str} {Pr : List Ev.Fn} {gl : List Ev.PV} {T i : Nat}
    (Fd : FunD K x qual params body scope dvs kws f fd) (Sc : FnScope N ps scope) : FnOk P w K mg base CX0 3 f fd ps (spOf K (Ev.callN Pr gl T 0 i) ps.length) :=
  Fd.ok (k := 2) Sc (fun vs H Q E ⟨F, qs, r, _, hq, hl, hc, _⟩ => by simp [Ev.callN] at hc) (fun cdv A outer s H vs Q E hr ⟨F, qs, r, _, hq, hl, hc, _⟩ => by simp [Ev.callN] at hc)
end
end Sd
end
section
set_option Elab.async false
set_option linter.all false
set_option maxRecDepth 100000
set_option maxHeartbeats 4000000
set_option autoImplicit false
namespace Sd
open PySem PySem.Spec PyProof.Rows L2
open PySem.AutoSeq1 (wpAny_loadPart')
/-! ### enumerate over a tuple -/
set_option maxHeartbeats 8000000 in
theorem meets_enumerate_newT (l : Addr) (items : Array Value) (n : Nat) (dct : Option Addr) (sl : Array (Option Value)) :
    Meets (Builtin.«enumerate.__new__» ⟨[.type "enumerate", .ref l], []⟩) (fun _ R s => s.heap.get? l = some { cls := .type "tuple", dict := dct, data := .seq items n, slots := sl } ∧
      R (.ok (.ret (.ref (s.heap.push { cls := .type "tuple_iterator", data := .fields #[.ref l, .int 0 0] }).objs.size)))
        { s with heap := (s.heap.push { cls := .type "tuple_iterator", data := .fields #[.ref l, .int 0 0] }).push { cls := .type "enumerate", data := .fields #[.none, .bool false, .ref s.heap.objs.size, rawInt 0, .none, .none] } }) :=
  .of_wp fun prog w A R s h => by
    obtain ⟨hp, g, d, tk, os⟩ := s; obtain ⟨hl, h⟩ := h
    have hsub := sub_enumerate
    have hL : Heap.IsTuple (Shared.heap ⟨hp, g, d, tk, os⟩) l items := ⟨_, hl, rfl, n, rfl⟩
    wp_walk using wpAny_loadPart' hl
    refine wpAny_stack_any fun st => wpAny_pure ?_
    split
    · rename_i c _ _ _ _ _
      cases (c == Value.type "enumerate")
      · wp_walk using wpAny_loadPart' hl, wpAny_pyIter_tuple hL
        exact ⟨_, rfl, h⟩
      · wp_walk using wpAny_loadPart' hl, wpAny_pyIter_tuple hL
        exact ⟨_, rfl, h⟩
    · wp_walk using wpAny_loadPart' hl, wpAny_pyIter_tuple hL
      exact ⟨_, rfl, h⟩
section
variable {prog : Program} {w : World} {A : Around} {E : Value → Shared → Prop} {s : Shared}
theorem call_enumerate_tuple {l : Addr} {items : Array Value} {Q : Value → Shared → Prop} (hL : s.heap.IsTuple l items)
    (h : ∀ h', IsEnum h' (s.heap.objs.size + 1) s.heap.objs.size 0 .none → h'.IsTupleIter s.heap.objs.size l 0 → h'.objs.size = s.heap.objs.size + 2 →
      (∀ b o, s.heap.get? b = some o → h'.get? b = some o) → Q (.ref (s.heap.objs.size + 1)) { s with heap := h' }) :
    wpAny (model prog w) A (call (.type "enumerate") [.ref l]) Q E s := by
  obtain ⟨⟨c, dct, dt, sl⟩, hl, hc, n, hd⟩ := hL
  replace hc : c = .type "tuple" := hc
  replace hd : dt = .seq items n := hd
  subst hc hd
  refine callType_new F.called_enumerate (by decide) (F.typeCall_enumerate_1 _) (F.newCall_enumerate_1 _) (fun obj => F.args_object_init_2 obj _) F.entry_enumerate_new
    (meets_enumerate_newT l items n dct sl) ⟨hl, ?_⟩
  have hz : (s.heap.push { cls := .type "tuple_iterator", data := .fields #[.ref l, .int 0 0] }).objs.size = s.heap.objs.size + 1 := Heap.size_push ..
  show _ ∧ _
  rw [hz]
  have he : IsEnum ((s.heap.push { cls := .type "tuple_iterator", data := .fields #[.ref l, .int 0 0] }).push
      { cls := .type "enumerate", data := .fields #[.none, .bool false, .ref s.heap.objs.size, rawInt 0, .none, .none] }) (s.heap.objs.size + 1) s.heap.objs.size 0 .none := by
    have := Heap.get?_push_size (s.heap.push { cls := .type "tuple_iterator", data := .fields #[.ref l, .int 0 0] })
      (o := { cls := .type "enumerate", data := .fields #[.none, .bool false, .ref s.heap.objs.size, rawInt 0, .none, .none] }) rfl
    rw [hz] at this; exact this
  refine ⟨⟨_, he, rfl⟩, h _ he ⟨_, Heap.get?_push_of_some _ (Heap.get?_push_size _ rfl), rfl, rfl⟩ (by rw [Heap.size_push, hz]) fun b o x => Heap.get?_push_of_some _ (Heap.get?_push_of_some _ x)⟩
end
def IteT (K : PySem.W.Frag) (a : Addr) : It :=
  ⟨fun i H => ∃ (xs : List V) (x : V), SqT K H a xs ∧ xs[i]? = some x, fun i H v H' => ∃ T x, v = .ref T ∧ H T = none ∧ H' = upd H T (.tup [.int (i : Nat), x]) ∧ ∀ xs, SqT K H a xs → xs[i]? = some x, fun i H => ∃ xs : List V, SqT K H a xs ∧ xs.length = i⟩
theorem turn_enumT {P : Program} {w : World} {K : PySem.W.Frag} {elts : List Expr} {kk : Nat} {tpos : Pos} (a e it : Addr) :
    Turn P w K (.Tuple elts kk tpos) (IteT K a) [e, it] e (fun i h => (∃ old, IsEnum h e it ((i : Nat) : Int) old) ∧ h.IsTupleIter it a i ∧ e ≠ it) where
  mem := by simp
  obj := fun i h st b hb => by
    obtain ⟨⟨old, he⟩, ⟨o, ho, hc, hd⟩, _⟩ := st
    have e' : b = e ∨ b = it := by simpa using hb
    rcases e' with z | z
    · rw [z]; exact ⟨_, he, fun v q => nomatch q⟩
    · rw [z]; exact ⟨o, ho, fun v q => by rw [hd] at q; cases q⟩
  keep := fun i h h' st k => let ⟨⟨old, he⟩, hi, hne⟩ := st; ⟨⟨old, k e (by simp) _ he⟩, hi.at fun o q => k it (by simp) o q, hne⟩
  item := by
    intro X hP hw hK hc i pins s σ H E I hf st hg
    subst hP hw hK
    obtain ⟨⟨old, he⟩, hit, hne⟩ := st
    obtain ⟨xs, x, hq, hx⟩ := hg
    obtain ⟨its, rv, p, hz⟩ := I.tuple hq
    have p : s.heap.IsTuple a its.toArray := p
    have hel : e < s.heap.objs.size := Heap.lt_size he
    have hil : it < s.heap.objs.size := by obtain ⟨_, q, _⟩ := hit; exact Heap.lt_size q
    have hai : a ≠ it := fun z => by
      obtain ⟨o, h1, h2, _⟩ := p
      obtain ⟨o', h3, h4, _⟩ := hit
      rw [z, h3] at h1; cases h1
      rw [h4] at h2; exact absurd h2 (by decide)
    have hae : e ∉ [it, a] := fun z => by
      rcases List.mem_cons.mp z with z | z
      · exact hne z
      · have z := List.mem_singleton.mp z
        obtain ⟨o, h1, h2, _⟩ := p
        rw [← z, he] at h1; cases h1
        exact absurd (show Value.type "enumerate" = Value.type "tuple" from h2) (by decide)
    have hlt : i < its.toArray.size := by
      have h5 := rv.length
      rw [List.size_toArray, ← h5]
      exact (List.getElem?_eq_some_iff.mp hx).1
    refine wpAny_pyNext_enum_itemD (Draws.tuple (A := X.A.in1) (I.ok.hd hc) it a hai its.toArray) he ⟨hit, p⟩ hlt hne hae fun u h' tk hu ho hit' hT hsz hk => ?_
    refine ⟨_, rfl, wpAny_letOwnedTupleGo_enum (s := { s with heap := h', toks := tk + 1 }) ho fun h'' he' sb => ?_⟩
    have ru : RelV x u := by
      obtain ⟨u', hu', ru'⟩ := rv.get hx
      have : its[i]? = some u := by simpa using hu
      rw [this] at hu'; cases hu'
      exact ru'
    have hT2 : h''.get? s.heap.objs.size = some { cls := .type "tuple", data := .seq #[.int i tk, u] } := (sb.2 _ (Nat.ne_of_gt hel)).trans hT
    have new : ObjOk X.prog X.w (upd H s.heap.objs.size (.tup [.int (i : Nat), x])) h'' s.heap.objs.size (.tup [.int (i : Nat), x]) :=
      ⟨by show 2 ≤ sizeLine; decide, [.int i tk, u], .cons ⟨_, rfl⟩ (.cons ru .nil), ⟨_, hT2, rfl, _, rfl⟩⟩
    have I1 : Inv X pins σ (upd H s.heap.objs.size (.tup [.int (i : Nat), x])) { s with heap := h'', toks := tk + 1 } :=
      I.turnedNew (ch := [e, it]) (fun b ob hb q => (sb.2 b (fun z => hb (by simp [z]))).trans (hk b ob (fun z => hb (by simp [z])) (fun z => hb (by simp [z])) q)) hf (Nat.le_refl _) new
    refine ⟨.ref s.heap.objs.size, _, I1, rfl, ⟨_, x, rfl, I.hok.fresh (Nat.le_refl _), rfl, fun ys hy => by rw [I.tuple_inj hy hq]; exact hx⟩, ⟨⟨u, ?_⟩, hit'.1.at fun o q => (sb.2 it (Ne.symm hne)).trans q, hne⟩, fun b hb => ?_⟩
    · have e1 : ((i + 1 : Nat) : Int) = (i : Int) + 1 := by omega
      rw [e1]; exact he'
    · have hb' : b < s.heap.objs.size := by
        have e' : b = e ∨ b = it := by simpa using hb
        rcases e' with z | z
        · rw [z]; exact hel
        · rw [z]; exact hil
      rw [upd_ne (Nat.ne_of_lt hb')]
      exact (hf b hb).1
  done := by
    intro X hP hw hK hc i pins s σ H E I hf st hg
    subst hP hw hK
    obtain ⟨⟨old, he⟩, hit, hne⟩ := st
    obtain ⟨xs, hq, hx⟩ := hg
    obtain ⟨its, rv, p, hz⟩ := I.tuple hq
    have p : s.heap.IsTuple a its.toArray := p
    obtain ⟨f0, f1, f2, f3, f4, f5⟩ := hf it (by simp)
    have hai : a ≠ it := fun z => by
      obtain ⟨o, h1, h2, _⟩ := p
      obtain ⟨o', h3, h4, _⟩ := hit
      rw [z, h3] at h1; cases h1
      rw [h4] at h2; exact absurd h2 (by decide)
    have hl : its.toArray.size = i := by
      have h5 := rv.length
      rw [List.size_toArray, ← h5]; exact hx
    exact wpAny_pyNext_enum_endD (Draws.tuple (A := X.A.in1) (I.ok.hd hc) it a hai its.toArray) he (by rw [hl]; exact ⟨hit, p⟩) fun h' eb => ⟨rfl, I.turned (t' := s.toks) (fun b o hb q => eb b o hb q) f0 f1 f3 f4 f5⟩
  self := fun A i s Q E st h => let ⟨⟨_, he⟩, _⟩ := st; wpAny_pyIter_enum he h
theorem pi_enumA {X : L2.Cx} {e : Expr} {ta : TA} {p pos tpos : Pos} {elts : List Expr} {kk : Nat} (hg : Gl X "enumerate") (hm : X.mg "enumerate" = none) (ha : PA X [e] ta) (hs : starEach [e] X.env = [(false, eval e X.env)]) :
    PI X (.Tuple elts kk tpos) (.Call (.Name "enumerate" p) [e] [] pos) (fun σ H R => ta σ H fun vs H1 => ∃ a xs, vs = [.ref a] ∧ ((SqL X.K H1 a xs ∧ R (Ite X.K a) H1) ∨ (SqT X.K H1 a xs ∧ R (IteT X.K a) H1))) := by
  refine ⟨fun pins s σ H R I h => ?_⟩
  refine Call_ (ld_blt I hg hm boot_enumerate (PyProof.Rows.callWith_type1 (thn (ha.run pos pins s σ H _ I h) fun us s1 ⟨vs, H1, I1, r1, q1⟩ => ?_) hs rfl))
  obtain ⟨a, xs, ex, q⟩ := q1
  subst ex
  cases r1 with
  | cons r rr =>
    cases rr
    cases r
    rcases q with ⟨hq, q⟩ | ⟨hq, q⟩
    · obtain ⟨its, rv, p', hz⟩ := I1.list hq
      refine call_enumerate_list p'.isList fun h' he hit hsz hk => wpAny_pyIter_enum he ?_
      have I2 : Inv X pins σ H1 { s1 with heap := h' } := I1.kept (t' := s1.toks) hk
      refine ⟨s1.heap.objs.size + 1, [s1.heap.objs.size + 1, s1.heap.objs.size], _, _, H1, rfl, I2, turn_enum a (s1.heap.objs.size + 1) s1.heap.objs.size, ⟨⟨.none, he⟩, hit, Nat.succ_ne_self _⟩, fun b hb => ?_, q⟩
      have e' : b = s1.heap.objs.size + 1 ∨ b = s1.heap.objs.size := by simpa using hb
      have hle : s1.heap.objs.size ≤ b := by
        rcases e' with z | z
        · rw [z]; exact Nat.le_add_right _ _
        · rw [z]; exact Nat.le_refl _
      exact I1.fpOk hle (I1.hok.fresh hle)
    · obtain ⟨its, rv, p', hz⟩ := I1.tuple hq
      refine call_enumerate_tuple (show s1.heap.IsTuple a its.toArray from p') fun h' he hit hsz hk => wpAny_pyIter_enum he ?_
      have I2 : Inv X pins σ H1 { s1 with heap := h' } := I1.kept (t' := s1.toks) hk
      refine ⟨s1.heap.objs.size + 1, [s1.heap.objs.size + 1, s1.heap.objs.size], _, _, H1, rfl, I2, turn_enumT a (s1.heap.objs.size + 1) s1.heap.objs.size, ⟨⟨.none, he⟩, hit, Nat.succ_ne_self _⟩, fun b hb => ?_, q⟩
      have e' : b = s1.heap.objs.size + 1 ∨ b = s1.heap.objs.size := by simpa using hb
      have hle : s1.heap.objs.size ≤ b := by
        rcases e' with z | z
        · rw [z]; exact Nat.le_add_right _ _
        · rw [z]; exact Nat.le_refl _
      exact I1.fpOk hle (I1.hok.fresh hle)
theorem enum_ok {X : L2.Cx} {Γ : Ev.Cx} : EnumOk X Γ := fun b es kk tpos p pos a c hg hm h hn => by
  refine pi_enumL b hg hm h hn (PI_imp (pi_enumA hg hm (pa_src b (.cons h hn .nil)) (by rw [star_cons hn]; rfl)) fun σ H R q => TX_post q fun vs H1 ⟨a, xs, e, w⟩ => ⟨a, xs, e, ?_⟩)
  rcases w with w | ⟨w1, w2⟩
  · exact .inl w
  · refine .inr ⟨w1, w2 _ fun H' hq => ⟨⟨xs, hq, rfl⟩, fun i hi => ⟨⟨xs, xs[i], hq, by simp [hi]⟩, fun x H'' y => ?_⟩⟩⟩
    obtain ⟨T, x1, e1, e2, e3, e4⟩ := y
    exact ⟨T, x1, e1, e2, e3, e4 _ hq⟩
end Sd
end
section
set_option Elab.async false
set_option linter.all false
set_option maxRecDepth 100000
set_option maxHeartbeats 4000000
set_option autoImplicit false
namespace Sd
open PySem PySem.Spec PyProof.Rows L2
theorem kit_ok (K : PySem.W.Frag) : KitOk K := by
  intro m hm k hk
  have h1 : m = 0 ∨ m = 1 ∨ m = 2 ∨ m = 3 ∨ m = 4 ∨ m = 5 ∨ m = 6 := by omega
  have h2 : k = 0 ∨ k = 1 ∨ k = 2 ∨ k = 3 ∨ k = 4 ∨ k = 5 := by omega
  rcases h1 with rfl | rfl | rfl | rfl | rfl | rfl | rfl <;> rcases h2 with rfl | rfl | rfl | rfl | rfl | rfl <;> kernel_rfl
/-- a def of the program: its name, its text, its names, its parameters -/
structure DD where
  x : Str
  st : Stmt
  N : List Str
  ps : List Str
def scOf (D : List DfI) (KW : List KwI) (G : List (Str × Ev.PV)) (BL LN : List Str) (d : DD) : SC := ⟨defScope d.st, defScope d.st, d.N, D, KW, G, BL, LN⟩
def fnOf (m : Nat) (D : List DfI) (KW : List KwI) (G : List (Str × Ev.PV)) (BL LN : List Str) (d : DD) : Ev.Fn := ⟨d.ps.length, d.N.length, (defBody d.st).map (cS m (scOf D KW G BL LN d))⟩
section
variable {P : Program} {w : World} {K : PySem.W.Frag} {mg : Str → Option Value} {base : Heap}
/-- what the head tells -/
structure Told (K : PySem.W.Frag) (mg : Str → Option Value) (dds : List DD) (D : List DfI) (KW : List KwI) (G : List (Str × Ev.PV)) (BL : List Str) (fA : Nat → Addr) (fdA : Nat → FuncData) : Prop where
  fn : ∀ i d, dds[i]? = some d → (∃ kws, FunD K d.x d.x (defArgs d.st) (defBody d.st) (defScope d.st) [] kws (fA i) (fdA i)) ∧ FnScope d.N d.ps (defScope d.st) ∧ mg d.x = some (.ref (fA i))
  dfs : ∀ e ∈ D, ∃ d, dds[e.ix]? = some d ∧ d.x = e.nm ∧ d.ps.length = e.np ∧ ∃ dvs ds, Binds K (fdA e.ix) d.ps ds ∧ Vals dvs ds ∧ ∀ F, Reps K F e.dps dvs
  kws : ∀ e ∈ KW, ∃ d, dds[e.ix]? = some d ∧ d.x = e.nm ∧ d.ps.length = e.np ∧ ∃ g, KBn K (fdA e.ix) d.ps e.n e.ks g (fun vs zs => vs ++ zs)
  gl : ∀ x p, G.lookup x = some p → ∃ u v, mg x = some u ∧ RelV v u ∧ ∀ F, Rep K F p v
  bl : ∀ x ∈ BL, mg x = none
theorem prog_ok {dds : List DD} {D : List DfI} {KW : List KwI} {G : List (Str × Ev.PV)} {BL LN : List Str} {fA : Nat → Addr} {fdA : Nat → FuncData} {Pr : List Ev.Fn} {gl : List Ev.PV} {T m : Nat} (h : Told K mg dds D KW G BL fA fdA)
    (hP : Pr = dds.map (fnOf m D KW G BL LN)) : ∀ (n i : Nat) (d : DD), dds[i]? = some d → FnOk P w K mg base CX0 (n + 3) (fA i) (fdA i) d.ps (spOf K (Ev.callN Pr gl T n i) d.ps.length)
  | 0, i, d, hd => by
    obtain ⟨⟨kws, F⟩, S, _⟩ := h.fn i d hd
    exact fn_zero F S
  | n + 1, i, d, hd => by
    obtain ⟨⟨kws, F⟩, S, _⟩ := h.fn i d hd
    have ih := fun j e he => prog_ok (gl := gl) (T := T) h hP n j e he
    refine fn_good (S := scOf D KW G BL LN d) (m := m) (fun Γ X S o => enum_ok) F S rfl rfl rfl ?_ ⟨fun e he => ?_, fun e he => ?_, h.gl, h.bl, kit_ok K⟩
    · rw [hP, List.getElem?_map, hd]; rfl
    · obtain ⟨d', h1, h2, h3, dvs, ds, h4, h5, h6⟩ := h.dfs e he
      obtain ⟨⟨kws', F'⟩, S', m'⟩ := h.fn e.ix d' h1
      refine ⟨fA e.ix, fdA e.ix, d'.ps, dvs, ds, ?_, by rw [← h2]; exact m', F'.kp, h4, h5, h6⟩
      have := ih e.ix d' h1
      rw [h3] at this
      exact this
    · obtain ⟨d', h1, h2, h3, g, h4⟩ := h.kws e he
      obtain ⟨⟨kws', F'⟩, S', m'⟩ := h.fn e.ix d' h1
      refine ⟨fA e.ix, fdA e.ix, d'.ps, g, ?_, by rw [← h2]; exact m', F'.kp, h4⟩
      have := ih e.ix d' h1
      rw [h3] at this
      exact this
/-- the law's promise -/
def spLaw (K : PySem.W.Frag) : Sp := fun vs H Q _ => ∃ (a : Addr) (ns : List Int), vs = [.ref a] ∧ SqL K H a (ns.map V.int) ∧ ns.length ≤ 63 ∧ ∀ H', Q (.bl true) H'
theorem law_ok {k : Nat} {f : Addr} {fd : FuncData} {ps : List Str} {cf : List Ev.PV → Option Ev.SV} (F : FnOk P w K mg base CX0 k f fd ps (spOf K cf 1)) (h : ∀ ns : List Int, ns.length ≤ 63 → cf [.lst (ns.map .int)] = some (.val (.bl true))) :
    FnOk P w K mg base CX0 k f fd ps (spLaw K) :=
  F.imp fun vs H Q E ⟨a, ns, e, hs, hl, q⟩ => by
    subst e
    refine ⟨H, [.lst (ns.map .int)], .val (.bl true), .refl H, ⟨⟨a, _, rfl, hs, ints_back ns⟩, trivial⟩, rfl, h ns hl, fun x F' H' _ rv => ?_⟩
    have : x = .bl true := rv
    subst this
    exact q H'
/-! ### an empty tuple as a keyword's default -/
def kwRef (f : Str × Option Str) (x : Str) (K : PySem.W.Frag) : Option Addr := match K.lookup (He.fAd K f) with
  | some ⟨_, _, .func fd, _⟩ => (match fd.kwdefaults with
    | .ref D => (match PySem.W.nsIn K D x with
      | some (some (.ref b)) => some b
      | _ => none)
    | _ => none)
  | _ => none
def isNil (K : PySem.W.Frag) (b : Addr) : Bool := match K.lookup b with
  | some ⟨.type c, _, .seq its _, _⟩ => decide (c = "tuple") && decide (its.size = 0)
  | _ => false
/-- the empty tuple that is the default of the keyword x (no place at all, if it is none) -/
def nilAt (f : Str × Option Str) (x : Str) (K : PySem.W.Frag) : Addr := match kwRef f x K with
  | some b => if isNil K b then b else b + 1
  | none => 0
theorem isNil_ok {b : Addr} (h : isNil K b = true) (F : Hp) : SqT K F b [] := by
  unfold isNil at h
  split at h
  · rename_i c od its n sl e
    rw [Bool.and_eq_true, decide_eq_true_eq, decide_eq_true_eq] at h
    obtain ⟨rfl, h2⟩ := h
    have h3 : its = #[] := Array.eq_empty_of_size_eq_zero h2
    subst h3
    exact .inr ⟨_, _, n, e, rfl, rfl, by simp, .nil⟩
  · cases h
theorem nil_default {x qual : Str} {params : Arguments} {body : List Stmt} {scope : Scope} {fp : Str × Option Str} {fd : FuncData} {y : Str} {more : List (Str × V)} {dvs : List V} (F : FunD K x qual params body scope dvs ((y, .ref (nilAt fp y K)) :: more) (He.fAd K fp) fd) (H : Hp) :
    Rep K H (.tup []) (.ref (nilAt fp y K)) := by
  obtain ⟨oc, od, dV, kV, doc, pm, an, cdv, ct, osl, rfl, lk, hcd, hD, hK⟩ := F.ex
  rcases hK with hK | ⟨D, rfl, hK⟩
  · cases hK
  · obtain ⟨u, e1, e2⟩ := hK _ List.mem_cons_self
    have e2 : u = .ref (nilAt fp y K) := e2
    subst e2
    have hr : kwRef fp y K = some (nilAt fp y K) := by
      unfold kwRef
      rw [lk]
      show (match PySem.W.nsIn K D y with | some (some (.ref b)) => some b | _ => none) = _
      have e1 : PySem.W.nsIn K D y = some (some (.ref (nilAt fp y K))) := e1
      rw [e1]
    have hn : isNil K (nilAt fp y K) = true := by
      cases hb : isNil K (nilAt fp y K) with
      | true => rfl
      | false =>
        have e3 : nilAt fp y K = nilAt fp y K + 1 := by
          conv => lhs; unfold nilAt
          rw [hr]
          show (if isNil K (nilAt fp y K) = true then _ else _) = _
          rw [hb]; rfl
        exact absurd e3 (Nat.ne_of_lt (Nat.lt_succ_self _))
    exact ⟨_, [], rfl, isNil_ok hn H, trivial⟩
end
end Sd
end
section
set_option Elab.async false
set_option linter.all false
set_option maxRecDepth 100000
set_option maxHeartbeats 4000000
set_option autoImplicit false
namespace Sd
open PySem PySem.Spec PyProof.Rows L2
section
variable {K : PySem.W.Frag}
def scB (N ps : List Str) (sc : Scope) : Bool :=
  decide (sc.kind = .function) && !sc.isCoroutine && !sc.isGenerator && decide N.Nodup && decide (N.take ps.length = ps) && (ps.all fun x => locB sc x) && (sc.names.all fun y => decide (y.2 ≠ .free))
theorem scB_ok {N ps : List Str} {sc : Scope} (h : scB N ps sc = true) : FnScope N ps sc := by
  unfold scB at h
  simp only [Bool.and_eq_true, decide_eq_true_eq, Bool.not_eq_true', List.all_eq_true] at h
  obtain ⟨⟨⟨⟨⟨⟨h1, h2⟩, h3⟩, h4⟩, h5⟩, h6⟩, h7⟩ := h
  refine ⟨h1, h2, h3, h4, h5, fun x hx => ?_, h7⟩
  have := h6 x hx
  unfold locB at this
  split at this
  · exact .inl ‹_›
  · exact .inr ‹_›
  · cases this
theorem defs_told {fa : List He.Fa} {fn : List He.DefD} (c : He.SaysD fa fn K) (h0 : 0 < fn.length) :
    ∃ fdA : Nat → FuncData, ∀ (i : Nat) (d : He.DefD), fn[i]? = some d → FunD K d.name d.qual d.params d.body d.scope (d.dvs K) (d.kws K) (He.fAd K d.at_) (fdA i) := by
  have key : ∀ i : Nat, ∃ fd : FuncData, ∀ d : He.DefD, fn[i]? = some d → FunD K d.name d.qual d.params d.body d.scope (d.dvs K) (d.kws K) (He.fAd K d.at_) fd := fun i => by
    cases e : fn[i]? with
    | some d =>
      obtain ⟨fd, F⟩ := c.def_ i e
      exact ⟨fd, fun d' e' => by cases e'; exact F⟩
    | none =>
      obtain ⟨fd, _⟩ := c.def_ 0 (List.getElem?_eq_getElem h0)
      exact ⟨fd, fun d' e' => nomatch e'⟩
  exact ⟨fun i => Classical.choose (key i), fun i => Classical.choose_spec (key i)⟩
theorem kbn_all {x qual : Str} {params : Arguments} {body : List Stmt} {scope : Scope} {kws : List (Str × V)} {f : Addr} {fd : FuncData} {ps ks : List Str} {n : Nat} (F : FunD K x qual params body scope [] kws f fd)
    (h : ∀ (kV doc pm : Value) (an : Option Addr) (cdv ct : Value) (us ws : List Value), us.length = n → ws.length = ks.length → bindArgs (PySem.W.fnOf x qual params body scope .none kV doc pm an cdv ct) ⟨us, ks.zip ws⟩ = pure (ps.zip (us ++ ws))) :
    KBn K fd ps n ks (fun us ws => us ++ ws) (fun vs zs => vs ++ zs) := by
  obtain ⟨oc, od, dV, kV, doc, pm, an, cdv, ct, osl, rfl, lk, hcd, hD, hK⟩ := F.ex
  rcases hD with ⟨_, rfl⟩ | ⟨e, _⟩
  · exact ⟨fun s us ws X l1 l2 => .of_eq (h kV doc pm an cdv ct us ws l1 l2), fun r1 r2 => Vals.append r1 r2⟩
  · exact absurd rfl e
def nameAt (dds : List DD) (i : Nat) : Str := ((dds[i]?).map (·.x)).getD ""
/-- the head's datum of a def -/
def mkD (kwo : Str → List (Str × He.Dv)) (d : DD) : He.DefD := ⟨(d.x, none), d.x, d.x, defArgs d.st, defBody d.st, defScope d.st, [], kwo d.x⟩
def faOf (dds : List DD) (BL : List Str) (GI : List (Str × Int)) : List He.Fa := dds.map (fun d => .glo d.x) ++ (BL.map .free ++ GI.map fun q => .int q.1 q.2)
theorem lookup_mem {α : Type} : ∀ {l : List (Str × α)} {x : Str} {p : α}, l.lookup x = some p → (x, p) ∈ l
  | (y, q) :: r, x, p, h => by
    rw [List.lookup_cons] at h
    cases e : x == y with
    | true =>
      rw [e] at h
      cases h
      rw [beq_iff_eq.mp e]
      exact List.mem_cons_self
    | false =>
      rw [e] at h
      exact List.mem_cons_of_mem _ (lookup_mem h)
theorem told_of {h : Heap} {mg : Str → Option Value} {dds : List DD} {D : List DfI} {KW : List KwI} {GI : List (Str × Int)} {BL : List Str} {kwo : Str → List (Str × He.Dv)} {fdA : Nat → FuncData} (X : K.In h) (Gn : h.Ns mainGlobals mg)
    (c : He.SaysD (faOf dds BL GI) (dds.map (mkD kwo)) K) (hfd : ∀ (i : Nat) (d : He.DefD), (dds.map (mkD kwo))[i]? = some d → FunD K d.name d.qual d.params d.body d.scope (d.dvs K) (d.kws K) (He.fAd K d.at_) (fdA i))
    (hsc : (dds.all fun d => scB d.N d.ps (defScope d.st)) = true)
    (hD : ∀ e ∈ D, ∃ d, dds[e.ix]? = some d ∧ d.x = e.nm ∧ d.ps.length = e.np ∧ ∃ dvs ds, Binds K (fdA e.ix) d.ps ds ∧ Vals dvs ds ∧ ∀ F, Reps K F e.dps dvs)
    (hK : ∀ e ∈ KW, ∃ d, dds[e.ix]? = some d ∧ d.x = e.nm ∧ d.ps.length = e.np ∧ ∃ g, KBn K (fdA e.ix) d.ps e.n e.ks g (fun vs zs => vs ++ zs)) :
    Told K mg dds D KW (GI.map fun q => (q.1, .int q.2)) BL (fun i => He.fAd K (nameAt dds i, none)) fdA where
  fn := fun i d hd => by
    have e1 : (dds.map (mkD kwo))[i]? = some (mkD kwo d) := by rw [List.getElem?_map, hd]; rfl
    have F := hfd i _ e1
    have e2 : ((nameAt dds i, none) : Str × Option Str) = (d.x, none) := by unfold nameAt; rw [hd]; rfl
    refine ⟨⟨(mkD kwo d).kws K, by rw [e2]; exact F⟩, scB_ok (List.all_eq_true.mp hsc d (List.mem_of_getElem? hd)), ?_⟩
    · show mg d.x = some (.ref (He.fAd K (nameAt dds i, none)))
      rw [e2]
      have hl : i < dds.length := (List.getElem?_eq_some_iff.mp hd).1
      refine He.glo_ok X Gn (c.fact i (f := .glo d.x) ?_)
      unfold faOf
      rw [List.getElem?_append_left (by rw [List.length_map]; exact hl), List.getElem?_map, hd]
      rfl
  dfs := hD
  kws := hK
  gl := fun x p hx => by
    have hm := lookup_mem hx
    obtain ⟨q, hq, e⟩ := List.mem_map.mp hm
    cases e
    have hf : (He.Fa.int q.1 q.2).ok K = true := by
      have hmem : He.Fa.int q.1 q.2 ∈ faOf dds BL GI := List.mem_append_right _ (List.mem_append_right _ (List.mem_map.mpr ⟨q, hq, rfl⟩))
      obtain ⟨j, hj, e⟩ := List.mem_iff_getElem.mp hmem
      exact c.fact j (by rw [List.getElem?_eq_getElem hj, e])
    obtain ⟨t, ht⟩ := He.int_ok X Gn hf
    exact ⟨_, .int q.2, ht, ⟨t, rfl⟩, fun F => rfl⟩
  bl := fun x hx => by
    have hmem : He.Fa.free x ∈ faOf dds BL GI := List.mem_append_right _ (List.mem_append_left _ (List.mem_map.mpr ⟨x, hx, rfl⟩))
    obtain ⟨j, hj, e⟩ := List.mem_iff_getElem.mp hmem
    exact He.free_ok X Gn (c.fact j (by rw [List.getElem?_eq_getElem hj, e]))
end
end Sd
end
section
set_option linter.all false
set_option autoImplicit false
namespace R
open Ev
inductive Nm where
  | parts_within
  | is_so
  | world_of
  | gone
  | advice
  | rules_of
  | cuts_in
  | conditions_of
  | stretches
  | cells_by
  | cells
  | ways_in
  | first_of
  | size_of
  | picks_of
  | case_of
  | many_in
  | all_advices
  | may_be
  | need_advice
  | how_many
  | first_case
  | law_cell_at
  | law_draws
  | law_kind
  | law_facts
  | law_pool
  | law_leaf
  | law_condition
  | law_marks
  | law_tree
  | law_book
  | law_far_facts
  | law
  | empty_sketch
  | is_true
  | end_of
  | unlike_picks
  | apart
  | apart_many
  | grown
  | corrected
  | changed_many
  | law_rules
  | law_beside
  | law_put_rule
  | law38
def c_parts_within (ix : Nm → Nat) : Fn := ⟨1, 1, [(.ife (.bi .eq [(.bi .ix [(.var 0), (.lit (.int (0)))]), (.lit (.str [110, 111, 116]))]) [(.ret (.lst [(.bi .ix [(.var 0), (.lit (.int (1)))])]))] []), (.ret (.ife (.bi .inn [(.bi .ix [(.var 0), (.lit (.int (0)))]), (.tup [(.lit (.str [97, 110, 100])), (.lit (.str [111, 114]))])]) (.lst [(.bi .ix [(.var 0), (.lit (.int (1)))]), (.bi .ix [(.var 0), (.lit (.int (2)))])]) (.lst [])))]⟩
def c_is_so (ix : Nm → Nat) : Fn := ⟨2, 3, [(.asgO 2 (.bi .ix [(.var 1), (.lit (.int (0)))])), (.ife (.bi .eq [(.var 2), (.lit (.str [121, 101, 115]))]) [(.ret (.lit (.bl true)))] []), (.ife (.bi .eq [(.var 2), (.lit (.str [105, 115]))]) [(.ret (.bi .eq [(.bi .ix [(.var 0), (.bi .ix [(.var 1), (.lit (.int (1)))])]), (.bi .ix [(.var 1), (.lit (.int (2)))])]))] []), (.ife (.bi .eq [(.var 2), (.lit (.str [102, 114, 111, 109]))]) [(.ret (.chain .le .le [(.bi .ix [(.var 1), (.lit (.int (2)))]), (.bi .ix [(.var 0), (.bi .ix [(.var 1), (.lit (.int (1)))])])] (.bi .ix [(.var 1), (.lit (.int (3)))])))] []), (.ife (.bi .eq [(.var 2), (.lit (.str [110, 111, 116]))]) [(.ret (.bi .not [(.callL (ix .is_so) 0 [(.bi .ix [(.var 1), (.lit (.int (1)))])])]))] []), (.ife (.bi .eq [(.var 2), (.lit (.str [97, 110, 100]))]) [(.ret (.and (.callL (ix .is_so) 0 [(.bi .ix [(.var 1), (.lit (.int (1)))])]) (.callL (ix .is_so) 0 [(.bi .ix [(.var 1), (.lit (.int (2)))])])))] []), (.ret (.or (.callL (ix .is_so) 0 [(.bi .ix [(.var 1), (.lit (.int (1)))])]) (.callL (ix .is_so) 0 [(.bi .ix [(.var 1), (.lit (.int (2)))])])))]⟩
def c_world_of (ix : Nm → Nat) : Fn := ⟨3, 11, [(.asgO 3 (.dcomp [4, 5, 6] (.var 4) (.var 6) (.tp [(.tp [(.nm 4), (.nm 5)]), (.nm 6)]) .zip [(.var 0), (.var 2)] [])), (.forr (.tp [(.nm 4), (.nm 7), (.nm 8)]) .seq [(.var 1)] [(.asgO 9 (.comp [10, 6] (.var 6) (.tp [(.nm 10), (.nm 6)]) .seq [(.var 7)] [(.callL (ix .is_so) 3 [(.var 10)])])), (.setI 3 (.var 4) (.ife (.bi .ne [(.var 9), (.lst [])]) (.bi .ix [(.var 9), (.lit (.int (0)))]) (.var 8)))]), (.ret (.var 3))]⟩
def c_gone (ix : Nm → Nat) : Fn := ⟨2, 15, [(.asgT (.tp [(.nm 2), (.nm 3), (.nm 4), (.nm 5), (.nm 6)]) (.var 0)), (.asgO 7 (.call (ix .world_of) [(.var 2), (.var 3), (.var 1)])), (.parO 8 9 (.tup []) (.lst [])), (.whl (.bi .ne [(.var 6), (.tup [])]) [(.asgT (.tp [(.nm 10), (.nm 11), (.nm 12), (.nm 13)]) (.var 6)), (.asgO 14 (.callL (ix .is_so) 7 [(.var 10)])), (.ex (.mut .append 9 [(.tup [(.var 8), (.var 14)])])), (.ife (.var 14) [(.par [5, 6, 8] [(.var 11), (.var 12), (.bi .add [(.var 8), (.tup [(.lit (.int (0)))])])])] [(.par [6, 8] [(.var 13), (.bi .add [(.var 8), (.tup [(.lit (.int (1)))])])])])]), (.ret (.tup [(.var 5), (.var 8), (.var 9)]))]⟩
def c_advice (ix : Nm → Nat) : Fn := ⟨2, 2, [(.ret (.bi .ix [(.call (ix .gone) [(.var 0), (.var 1)]), (.lit (.int (0)))]))]⟩
def c_rules_of (ix : Nm → Nat) : Fn := ⟨1, 5, [(.ife (.bi .eq [(.var 0), (.tup [])]) [(.ret (.lst []))] []), (.asgO 1 (.lst [(.tup [(.tup []), (.var 0)])])), (.forr (.nm 2) .seq [(.tup [(.lit (.int (0))), (.lit (.int (1)))])] [(.asgO 1 (.bi .add [(.var 1), (.comp [3, 4] (.tup [(.bi .add [(.tup [(.var 2)]), (.var 3)]), (.var 4)]) (.tp [(.nm 3), (.nm 4)]) .seq [(.call (ix .rules_of) [(.bi .ix [(.var 0), (.bi .add [(.lit (.int (2))), (.var 2)])])])] [])]))]), (.ret (.var 1))]⟩
def c_cuts_in (ix : Nm → Nat) : Fn := ⟨2, 4, [(.ife (.bi .eq [(.bi .ix [(.var 0), (.lit (.int (0)))]), (.lit (.str [102, 114, 111, 109]))]) [(.ret (.ife (.bi .eq [(.bi .ix [(.var 0), (.lit (.int (1)))]), (.var 1)]) (.lst [(.bi .ix [(.var 0), (.lit (.int (2)))]), (.bi .add [(.bi .ix [(.var 0), (.lit (.int (3)))]), (.lit (.int (1)))])]) (.lst [])))] []), (.asgO 2 (.lst [])), (.forr (.nm 3) .seq [(.call (ix .parts_within) [(.var 0)])] [(.asgO 2 (.bi .add [(.var 2), (.call (ix .cuts_in) [(.var 3), (.var 1)])]))]), (.ret (.var 2))]⟩
def c_conditions_of (ix : Nm → Nat) : Fn := ⟨1, 9, [(.asgO 1 (.comp2 [2, 3, 4, 5, 6] [5, 6] (.var 5) (.tp [(.nm 2), (.nm 3), (.nm 4)]) .seq [(.bi .ix [(.var 0), (.lit (.int (1)))])] (.tp [(.nm 5), (.nm 6)]) .seq [(.var 3)])), (.ret (.bi .add [(.var 1), (.comp [7, 8] (.bi .ix [(.var 8), (.lit (.int (0)))]) (.tp [(.nm 7), (.nm 8)]) .seq [(.call (ix .rules_of) [(.bi .ix [(.var 0), (.lit (.int (4)))])])] [])]))]⟩
def c_stretches (ix : Nm → Nat) : Fn := ⟨3, 7, [(.asgO 3 (.bi .add [(.lst [(.var 0)]), (.scomp [4] (.var 4) (.nm 4) .seq [(.var 2)] [(.chain .lt .le [(.var 0), (.var 4)] (.var 1))])])), (.asgO 5 (.bi .add [(.comp [6] (.bi .sub [(.var 6), (.lit (.int (1)))]) (.nm 6) .seq [(.bi .slL [(.var 3), (.lit (.int (1)))])] []), (.lst [(.var 1)])])), (.ret (.bi .listZip [(.var 3), (.var 5)]))]⟩
def c_cells_by (ix : Nm → Nat) : Fn := ⟨3, 9, [(.asgO 3 (.lst [])), (.forr (.tp [(.tp [(.nm 4), (.nm 5)]), (.nm 6)]) .zip [(.var 0), (.var 2)] [(.ife (.bi .eq [(.bi .ix [(.var 5), (.lit (.int (0)))]), (.lit (.str [99, 104, 111, 105, 99, 101]))]) [(.ex (.mut .append 3 [(.ife (.bi .isN [(.var 6), (.lit .non)]) (.bi .listOf [(.bi .ix [(.var 5), (.lit (.int (1)))])]) (.lst [(.var 6)]))]))] [(.ife (.bi .notN [(.var 6), (.lit .non)]) [(.ex (.mut .append 3 [(.lst [(.tup [(.var 6), (.var 6)])])]))] [(.asgO 7 (.lst [])), (.forr (.nm 8) .seq [(.var 1)] [(.asgO 7 (.bi .add [(.var 7), (.call (ix .cuts_in) [(.var 8), (.var 4)])]))]), (.ex (.mut .append 3 [(.call (ix .stretches) [(.bi .ix [(.var 5), (.lit (.int (1)))]), (.bi .ix [(.var 5), (.lit (.int (2)))]), (.var 7)])]))])])]), (.ret (.var 3))]⟩
def c_cells (ix : Nm → Nat) : Fn := ⟨3, 3, [(.ret (.call (ix .cells_by) [(.bi .ix [(.var 0), (.lit (.int (0)))]), (.bi .add [(.call (ix .conditions_of) [(.var 0)]), (.bi .listOf [(.var 2)])]), (.var 1)]))]⟩
def c_ways_in (ix : Nm → Nat) : Fn := ⟨1, 3, [(.asgO 1 (.lit (.int (1)))), (.forr (.nm 2) .seq [(.var 0)] [(.aug 1 .mul (.bi .len [(.var 2)]))]), (.ret (.var 1))]⟩
def c_first_of (ix : Nm → Nat) : Fn := ⟨1, 1, [(.ret (.ife (.bi .isInst [(.var 0), (.lit (.fn 0))]) (.var 0) (.bi .ix [(.var 0), (.lit (.int (0)))])))]⟩
def c_size_of (ix : Nm → Nat) : Fn := ⟨1, 1, [(.ret (.ife (.bi .isInst [(.var 0), (.lit (.fn 0))]) (.lit (.int (1))) (.bi .add [(.bi .sub [(.bi .ix [(.var 0), (.lit (.int (1)))]), (.bi .ix [(.var 0), (.lit (.int (0)))])]), (.lit (.int (1)))])))]⟩
def c_picks_of (ix : Nm → Nat) : Fn := ⟨2, 6, [(.ife (.bi .gt [(.call (ix .ways_in) [(.var 0)]), (.var 1)]) [(.rais 0 [])] []), (.asgO 2 (.lst [(.tup [])])), (.forr (.nm 3) .seq [(.var 0)] [(.asgO 2 (.comp2 [4, 5] [5] (.bi .add [(.var 4), (.tup [(.var 5)])]) (.nm 4) .seq [(.var 2)] (.nm 5) .seq [(.var 3)]))]), (.ret (.var 2))]⟩
def c_case_of (ix : Nm → Nat) : Fn := ⟨1, 2, [(.ret (.bi .tupleOf [(.comp [1] (.call (ix .first_of) [(.var 1)]) (.nm 1) .seq [(.var 0)] [])]))]⟩
def c_many_in (ix : Nm → Nat) : Fn := ⟨1, 3, [(.asgO 1 (.lit (.int (1)))), (.forr (.nm 2) .seq [(.var 0)] [(.aug 1 .mul (.call (ix .size_of) [(.var 2)]))]), (.ret (.var 1))]⟩
def c_all_advices (ix : Nm → Nat) : Fn := ⟨3, 4, [(.ret (.comp [3] (.tup [(.var 3), (.call (ix .advice) [(.var 0), (.call (ix .case_of) [(.var 3)])])]) (.nm 3) .seq [(.call (ix .picks_of) [(.call (ix .cells) [(.var 0), (.var 1), (.var 2)]), (.lit (.int (4000)))])] []))]⟩
def c_may_be (ix : Nm → Nat) : Fn := ⟨2, 4, [(.ret (.bi .sorted [(.dcomp [2, 3] (.var 3) (.lit (.bl true)) (.tp [(.nm 2), (.nm 3)]) .seq [(.call (ix .all_advices) [(.var 0), (.var 1), (.lit (.tup []))])] [])]))]⟩
def c_need_advice (ix : Nm → Nat) : Fn := ⟨2, 2, [(.ife (.or (.bi .not [(.bi .isInst [(.var 1), (.lit (.fn 0))])]) (.bi .nin [(.var 1), (.bi .ix [(.var 0), (.lit (.int (2)))])])) [(.rais 0 [])] [])]⟩
def c_how_many (ix : Nm → Nat) : Fn := ⟨3, 5, [(.ex (.call (ix .need_advice) [(.var 0), (.var 2)])), (.ret (.bi .sum [(.comp [3, 4] (.call (ix .many_in) [(.var 3)]) (.tp [(.nm 3), (.nm 4)]) .seq [(.call (ix .all_advices) [(.var 0), (.var 1), (.lit (.tup []))])] [(.bi .eq [(.var 4), (.var 2)])])]))]⟩
def c_first_case (ix : Nm → Nat) : Fn := ⟨3, 5, [(.ex (.call (ix .need_advice) [(.var 0), (.var 2)])), (.forr (.tp [(.nm 3), (.nm 4)]) .seq [(.call (ix .all_advices) [(.var 0), (.var 1), (.lit (.tup []))])] [(.ife (.bi .eq [(.var 4), (.var 2)]) [(.ret (.call (ix .case_of) [(.var 3)]))] [])]), (.ret (.lit .non))]⟩
def c_law_cell_at (ix : Nm → Nat) : Fn := ⟨2, 2, [(.ife (.bi .lt [(.var 1), (.bi .len [(.var 0)])]) [(.ret (.bi .ix [(.var 0), (.var 1)]))] []), (.ret (.lit (.int (0))))]⟩
def c_law_draws (ix : Nm → Nat) : Fn := ⟨3, 7, [(.asgO 3 (.lst [])), (.asgO 4 (.bi .mul [(.var 0), (.bi .toInt [(.bi .ge [(.var 0), (.bi .pow [(.lit (.int (10))), (.lit (.int (18)))])])])])), (.asgO 5 (.bi .mod [(.var 0), (.lit (.int (2305843009213693951)))])), (.forr (.nm 6) .rng [(.bi .add [(.var 1), (.lit (.int (3)))])] [(.asgO 5 (.bi .mod [(.bi .add [(.bi .add [(.bi .add [(.bi .mul [(.var 5), (.var 5)]), (.bi .mul [(.lit (.int (48271))), (.var 5)])]), (.var 6)]), (.lit (.int (1)))]), (.lit (.int (2305843009213693951)))])), (.ife (.and (.bi .gt [(.var 6), (.lit (.int (2)))]) (.bi .gt [(.var 4), (.lit (.int (0)))])) [(.ex (.mut .append 3 [(.bi .mod [(.var 4), (.var 2)])])), (.asgO 4 (.bi .fdiv [(.var 4), (.var 2)]))] [(.ife (.bi .gt [(.var 6), (.lit (.int (2)))]) [(.ex (.mut .append 3 [(.bi .mod [(.bi .fdiv [(.var 5), (.lit (.int (4096)))]), (.var 2)])]))] [])])]), (.ret (.var 3))]⟩
def c_law_kind (ix : Nm → Nat) : Fn := ⟨1, 3, [(.ife (.bi .eq [(.bi .mod [(.bi .ix [(.var 0), (.lit (.int (0)))]), (.lit (.int (2)))]), (.lit (.int (0)))]) [(.asgO 1 (.bi .mod [(.bi .ix [(.var 0), (.lit (.int (2)))]), (.lit (.int (3)))])), (.ret (.tup [(.lit (.str [99, 104, 111, 105, 99, 101])), (.bi .tupleOf [(.bi .slLH [(.lst [(.lit (.str [97])), (.lit (.str [98])), (.lit (.str [99])), (.lit (.str [100, 100])), (.lit (.str [101])), (.lit (.str [122, 122])), (.lit (.str [122, 122, 122, 122, 122, 122, 122, 122]))]), (.var 1), (.bi .add [(.bi .add [(.var 1), (.lit (.int (2)))]), (.bi .mod [(.bi .ix [(.var 0), (.lit (.int (1)))]), (.lit (.int (3)))])])])])]))] []), (.asgO 2 (.bi .sub [(.bi .mod [(.bi .ix [(.var 0), (.lit (.int (1)))]), (.lit (.int (7)))]), (.lit (.int (3)))])), (.ret (.tup [(.lit (.str [110, 117, 109, 98, 101, 114])), (.var 2), (.bi .add [(.var 2), (.bi .mod [(.bi .ix [(.var 0), (.lit (.int (2)))]), (.lit (.int (5)))])])]))]⟩
def c_law_facts (ix : Nm → Nat) : Fn := ⟨2, 5, [(.asgO 2 (.dsp [] [])), (.forr (.nm 3) .rng [(.bi .add [(.lit (.int (1))), (.bi .mod [(.bi .ix [(.var 0), (.lit (.int (0)))]), (.var 1)])])] [(.asgO 4 (.bi .ix [(.lst [(.lit (.str [97, 103, 101])), (.lit (.str [99, 111, 108])), (.lit (.str [107])), (.lit (.str [115, 105, 122, 101])), (.lit (.str [98])), (.lit (.str [120])), (.lit (.str [116, 101, 109, 112])), (.lit (.str [122, 122, 122, 122, 122, 122, 122, 122]))]), (.bi .mod [(.bi .ix [(.var 0), (.bi .add [(.lit (.int (1))), (.bi .mul [(.lit (.int (4))), (.var 3)])])]), (.lit (.int (8)))])])), (.setI 2 (.var 4) (.bi .slLH [(.var 0), (.bi .add [(.lit (.int (2))), (.bi .mul [(.lit (.int (4))), (.var 3)])]), (.bi .add [(.lit (.int (5))), (.bi .mul [(.lit (.int (4))), (.var 3)])])]))]), (.ret (.bi .tupleOf [(.comp [4] (.tup [(.var 4), (.call (ix .law_kind) [(.bi .ix [(.var 2), (.var 4)])])]) (.nm 4) .seq [(.bi .sorted [(.var 2)])] [])]))]⟩
def c_law_pool (ix : Nm → Nat) : Fn := ⟨2, 9, [(.asgO 2 (.comp [3, 4] (.tup [(.var 3), (.var 4)]) (.tp [(.nm 3), (.nm 4)]) .seq [(.var 0)] [])), (.forr (.tp [(.nm 3), (.nm 5), (.nm 6)]) .seq [(.var 1)] [(.ex (.mut .append 2 [(.tup [(.var 3), (.tup [(.lit (.str [99, 104, 111, 105, 99, 101])), (.bi .add [(.bi .tupleOf [(.comp [7, 8] (.var 8) (.tp [(.nm 7), (.nm 8)]) .seq [(.var 5)] [])]), (.tup [(.var 6)])])])])]))]), (.ret (.var 2))]⟩
def c_law_leaf (ix : Nm → Nat) : Fn := ⟨2, 5, [(.ife (.bi .eq [(.bi .mod [(.bi .ix [(.var 0), (.lit (.int (4)))]), (.lit (.int (11)))]), (.lit (.int (0)))]) [(.ret (.tup [(.lit (.str [121, 101, 115]))]))] []), (.asgT (.tp [(.nm 2), (.nm 3)]) (.bi .ix [(.var 1), (.bi .mod [(.bi .ix [(.var 0), (.lit (.int (1)))]), (.bi .len [(.var 1)])])])), (.ife (.bi .eq [(.bi .ix [(.var 3), (.lit (.int (0)))]), (.lit (.str [99, 104, 111, 105, 99, 101]))]) [(.ret (.tup [(.lit (.str [105, 115])), (.var 2), (.bi .ix [(.bi .ix [(.var 3), (.lit (.int (1)))]), (.bi .mod [(.bi .ix [(.var 0), (.lit (.int (2)))]), (.bi .len [(.bi .ix [(.var 3), (.lit (.int (1)))])])])])]))] []), (.asgO 4 (.bi .sub [(.bi .add [(.bi .ix [(.var 3), (.lit (.int (1)))]), (.bi .mod [(.bi .ix [(.var 0), (.lit (.int (2)))]), (.lit (.int (8)))])]), (.lit (.int (2)))])), (.ret (.tup [(.lit (.str [102, 114, 111, 109])), (.var 2), (.var 4), (.bi .add [(.var 4), (.bi .mod [(.bi .ix [(.var 0), (.lit (.int (3)))]), (.lit (.int (4)))])])]))]⟩
def c_law_condition (ix : Nm → Nat) : Fn := ⟨3, 6, [(.asgO 3 (.bi .mod [(.bi .ix [(.var 0), (.lit (.int (0)))]), (.lit (.int (8)))])), (.ife (.or (.bi .lt [(.var 2), (.lit (.int (2)))]) (.bi .lt [(.var 3), (.lit (.int (2)))])) [(.ret (.call (ix .law_leaf) [(.var 0), (.var 1)]))] []), (.ife (.or (.bi .eq [(.var 2), (.lit (.int (2)))]) (.bi .eq [(.var 3), (.lit (.int (2)))])) [(.ret (.tup [(.lit (.str [110, 111, 116])), (.call (ix .law_condition) [(.bi .slL [(.var 0), (.lit (.int (6)))]), (.var 1), (.bi .sub [(.var 2), (.lit (.int (1)))])])]))] []), (.asgO 4 (.bi .add [(.lit (.int (1))), (.bi .mod [(.bi .ix [(.var 0), (.lit (.int (1)))]), (.bi .sub [(.var 2), (.lit (.int (2)))])])])), (.asgO 5 (.call (ix .law_condition) [(.bi .slLH [(.var 0), (.lit (.int (6))), (.bi .add [(.lit (.int (6))), (.bi .mul [(.lit (.int (6))), (.var 4)])])]), (.var 1), (.var 4)])), (.ret (.tup [(.bi .ix [(.lst [(.lit (.str [97, 110, 100])), (.lit (.str [111, 114]))]), (.bi .mod [(.var 3), (.lit (.int (2)))])]), (.var 5), (.call (ix .law_condition) [(.bi .slL [(.var 0), (.bi .add [(.lit (.int (6))), (.bi .mul [(.lit (.int (6))), (.var 4)])])]), (.var 1), (.bi .sub [(.bi .sub [(.var 2), (.lit (.int (1)))]), (.var 4)])])]))]⟩
def c_law_marks (ix : Nm → Nat) : Fn := ⟨2, 8, [(.asgO 2 (.tup [])), (.forr (.nm 3) .rng [(.bi .ix [(.lst [(.lit (.int (0))), (.lit (.int (0))), (.lit (.int (1))), (.lit (.int (2)))]), (.bi .mod [(.bi .ix [(.var 0), (.lit (.int (0)))]), (.lit (.int (4)))])])] [(.asgO 4 (.bi .slLH [(.var 0), (.bi .add [(.lit (.int (1))), (.bi .mul [(.lit (.int (60))), (.var 3)])]), (.bi .add [(.lit (.int (61))), (.bi .mul [(.lit (.int (60))), (.var 3)])])])), (.asgO 5 (.lst [])), (.forr (.nm 6) .rng [(.bi .add [(.lit (.int (1))), (.bi .mod [(.bi .ix [(.var 4), (.lit (.int (0)))]), (.lit (.int (3)))])])] [(.asgO 7 (.bi .slLH [(.var 4), (.bi .add [(.lit (.int (2))), (.bi .mul [(.lit (.int (19))), (.var 6)])]), (.bi .add [(.lit (.int (21))), (.bi .mul [(.lit (.int (19))), (.var 6)])])])), (.ex (.mut .append 5 [(.tup [(.call (ix .law_condition) [(.var 7), (.call (ix .law_pool) [(.var 1), (.var 2)]), (.lit (.int (3)))]), (.bi .ix [(.lst [(.lit (.str [104, 105])), (.lit (.str [108, 111])), (.lit (.str [109, 105, 100]))]), (.bi .mod [(.bi .ix [(.var 7), (.lit (.int (18)))]), (.lit (.int (3)))])])])]))]), (.asgO 2 (.bi .add [(.var 2), (.tup [(.tup [(.bi .add [(.lit (.str [109])), (.bi .ix [(.lit (.str [97, 98])), (.var 3)])]), (.bi .tupleOf [(.var 5)]), (.bi .ix [(.lst [(.lit (.str [104, 105])), (.lit (.str [108, 111])), (.lit (.str [109, 105, 100]))]), (.bi .mod [(.bi .ix [(.var 4), (.lit (.int (1)))]), (.lit (.int (3)))])])])])]))]), (.ret (.var 2))]⟩
def c_law_tree (ix : Nm → Nat) : Fn := ⟨4, 7, [(.ife (.bi .eq [(.var 3), (.lit (.int (0)))]) [(.ret (.tup []))] []), (.asgO 4 (.bi .mod [(.bi .ix [(.var 0), (.lit (.int (19)))]), (.var 3)])), (.asgO 5 (.call (ix .law_tree) [(.bi .slLH [(.var 0), (.lit (.int (20))), (.bi .add [(.lit (.int (20))), (.bi .mul [(.lit (.int (20))), (.var 4)])])]), (.var 1), (.var 2), (.var 4)])), (.asgO 6 (.call (ix .law_tree) [(.bi .slL [(.var 0), (.bi .add [(.lit (.int (20))), (.bi .mul [(.lit (.int (20))), (.var 4)])])]), (.var 1), (.var 2), (.bi .sub [(.bi .sub [(.var 3), (.lit (.int (1)))]), (.var 4)])])), (.ret (.tup [(.call (ix .law_condition) [(.var 0), (.var 1), (.bi .add [(.lit (.int (1))), (.bi .mod [(.bi .ix [(.var 0), (.lit (.int (18)))]), (.lit (.int (3)))])])]), (.bi .ix [(.var 2), (.bi .mod [(.bi .ix [(.var 0), (.lit (.int (17)))]), (.bi .len [(.var 2)])])]), (.var 5), (.var 6)]))]⟩
def c_law_book (ix : Nm → Nat) : Fn := ⟨2, 6, [(.asgO 2 (.call (ix .law_facts) [(.var 0), (.var 1)])), (.asgO 3 (.call (ix .law_marks) [(.bi .slL [(.var 0), (.lit (.int (40)))]), (.var 2)])), (.asgO 4 (.bi .tupleOf [(.bi .slH [(.lst [(.lit (.str [103, 111])), (.lit (.str [115, 116, 97, 121])), (.lit (.str [119, 97, 105, 116])), (.lit (.str [122, 122]))]), (.bi .add [(.lit (.int (1))), (.bi .mod [(.bi .ix [(.var 0), (.lit (.int (165)))]), (.lit (.int (4)))])])])])), (.asgO 5 (.call (ix .law_tree) [(.bi .slL [(.var 0), (.lit (.int (168)))]), (.call (ix .law_pool) [(.var 2), (.var 3)]), (.var 4), (.bi .mod [(.bi .ix [(.var 0), (.lit (.int (166)))]), (.lit (.int (7)))])])), (.ret (.tup [(.var 2), (.var 3), (.var 4), (.bi .ix [(.var 4), (.bi .mod [(.bi .ix [(.var 0), (.lit (.int (167)))]), (.bi .len [(.var 4)])])]), (.var 5)]))]⟩
def c_law_far_facts (ix : Nm → Nat) : Fn := ⟨2, 6, [(.asgO 2 (.lst [])), (.forr (.tp [(.nm 3), (.tp [(.nm 4), (.nm 5)])]) .enum [(.var 0)] [(.ife (.and (.bi .eq [(.bi .ix [(.var 5), (.lit (.int (0)))]), (.lit (.str [110, 117, 109, 98, 101, 114]))]) (.bi .gt [(.bi .mod [(.bi .ix [(.var 1), (.var 3)]), (.lit (.int (3)))]), (.lit (.int (0)))])) [(.asgO 5 (.tup [(.lit (.str [110, 117, 109, 98, 101, 114])), (.bi .ix [(.lst [(.bi .ix [(.var 5), (.lit (.int (1)))]), (.bi .neg [(.bi .pow [(.lit (.int (10))), (.lit (.int (9)))])])]), (.bi .mod [(.bi .fdiv [(.bi .ix [(.var 1), (.var 3)]), (.lit (.int (3)))]), (.lit (.int (2)))])]), (.bi .ix [(.lst [(.bi .ix [(.var 5), (.lit (.int (2)))]), (.bi .pow [(.lit (.int (10))), (.lit (.int (9)))])]), (.bi .mod [(.bi .fdiv [(.bi .ix [(.var 1), (.var 3)]), (.lit (.int (6)))]), (.lit (.int (2)))])])]))] []), (.ex (.mut .append 2 [(.tup [(.var 4), (.var 5)])]))]), (.ret (.bi .tupleOf [(.var 2)]))]⟩
def c_law (ix : Nm → Nat) : Fn := ⟨1, 17, [(.forr (.nm 1) .seq [(.bi .add [(.lst [(.call (ix .law_cell_at) [(.var 0), (.lit (.int (0)))])]), (.bi .slLH [(.var 0), (.lit (.int (1))), (.lit (.int (4)))])])] [(.asgO 2 (.call (ix .law_draws) [(.var 1), (.lit (.int (360))), (.lit (.int (1000)))])), (.asgO 3 (.call (ix .law_book) [(.var 2), (.lit (.int (3)))])), (.asgO 3 (.bi .add [(.tup [(.call (ix .law_far_facts) [(.bi .ix [(.var 3), (.lit (.int (0)))]), (.bi .slL [(.var 2), (.lit (.int (300)))])])]), (.bi .slL [(.var 3), (.lit (.int (1)))])])), (.asgO 4 (.bi .mul [(.lst [(.lit .non)]), (.bi .len [(.bi .ix [(.var 3), (.lit (.int (0)))])])])), (.asgO 5 (.bi .mod [(.bi .ix [(.var 2), (.lit (.int (320)))]), (.bi .len [(.var 4)])])), (.asgO 6 (.call (ix .cells) [(.var 3), (.bi .tupleOf [(.var 4)]), (.lit (.tup []))])), (.ife (.bi .eq [(.bi .mod [(.bi .ix [(.var 2), (.lit (.int (321)))]), (.lit (.int (2)))]), (.lit (.int (0)))]) [(.asgO 7 (.bi .mod [(.bi .add [(.var 5), (.lit (.int (1)))]), (.bi .len [(.var 4)])])), (.asgO 8 (.bi .ix [(.bi .ix [(.var 6), (.var 7)]), (.bi .mod [(.bi .ix [(.var 2), (.lit (.int (322)))]), (.bi .len [(.bi .ix [(.var 6), (.var 7)])])])])), (.setI 4 (.var 7) (.ife (.bi .eq [(.var 7), (.var 5)]) (.lit .non) (.ife (.bi .isInst [(.var 8), (.lit (.fn 0))]) (.var 8) (.bi .ix [(.var 8), (.lit (.int (1)))]))))] []), (.asgO 4 (.bi .tupleOf [(.var 4)])), (.asgO 9 (.lst [])), (.forr (.nm 8) .seq [(.bi .ix [(.var 6), (.var 5)])] [(.asgT (.tp [(.nm 10), (.nm 11)]) (.ife (.bi .isInst [(.var 8), (.lit (.fn 0))]) (.tup [(.var 8), (.lit (.int (1)))]) (.tup [(.bi .ix [(.var 8), (.lit (.int (0)))]), (.bi .add [(.bi .sub [(.bi .ix [(.var 8), (.lit (.int (1)))]), (.bi .ix [(.var 8), (.lit (.int (0)))])]), (.lit (.int (1)))])]))), (.ex (.mut .append 9 [(.tup [(.bi .add [(.bi .add [(.bi .slH [(.var 4), (.var 5)]), (.tup [(.var 10)])]), (.bi .slL [(.var 4), (.bi .add [(.var 5), (.lit (.int (1)))])])]), (.var 11)])]))]), (.asgO 12 (.lst [])), (.forr (.tp [(.nm 13), (.nm 11)]) .seq [(.var 9)] [(.asgO 12 (.bi .add [(.var 12), (.call (ix .may_be) [(.var 3), (.var 13)])]))]), (.ife (.bi .ne [(.call (ix .may_be) [(.var 3), (.var 4)]), (.bi .setSorted [(.var 12)])]) [(.ret (.lit (.bl false)))] []), (.forr (.nm 14) .seq [(.bi .ix [(.var 3), (.lit (.int (2)))])] [(.ife (.bi .ne [(.call (ix .how_many) [(.var 3), (.var 4), (.var 14)]), (.bi .sum [(.comp [13, 11] (.bi .mul [(.call (ix .how_many) [(.var 3), (.var 13), (.var 14)]), (.var 11)]) (.tp [(.nm 13), (.nm 11)]) .seq [(.var 9)] [])])]) [(.ret (.lit (.bl false)))] []), (.asgO 15 (.comp [13, 11] (.call (ix .first_case) [(.var 3), (.var 13), (.var 14)]) (.tp [(.nm 13), (.nm 11)]) .seq [(.var 9)] [])), (.asgO 15 (.comp [16] (.var 16) (.nm 16) .seq [(.var 15)] [(.bi .notN [(.var 16), (.lit .non)])])), (.ife (.bi .ne [(.call (ix .first_case) [(.var 3), (.var 4), (.var 14)]), (.ife (.bi .ne [(.var 15), (.lst [])]) (.bi .min1 [(.var 15)]) (.lit .non))]) [(.ret (.lit (.bl false)))] [])])]), (.ret (.lit (.bl true)))]⟩
def c_empty_sketch (ix : Nm → Nat) : Fn := ⟨1, 1, [(.ret (.bi .mul [(.tup [(.lit .non)]), (.bi .len [(.var 0)])]))]⟩
def c_is_true (ix : Nm → Nat) : Fn := ⟨4, 4, [(.ret (.call (ix .is_so) [(.call (ix .world_of) [(.var 0), (.var 1), (.var 3)]), (.var 2)]))]⟩
def c_end_of (ix : Nm → Nat) : Fn := ⟨2, 2, [(.ret (.bi .ix [(.call (ix .gone) [(.var 0), (.var 1)]), (.lit (.int (1)))]))]⟩
def c_unlike_picks (ix : Nm → Nat) : Fn := ⟨2, 5, [(.ife (.bi .ne [(.bi .ix [(.var 0), (.lit (.int (0)))]), (.bi .ix [(.var 1), (.lit (.int (0)))])]) [(.rais 0 [])] []), (.asgO 2 (.call (ix .cells_by) [(.bi .ix [(.var 0), (.lit (.int (0)))]), (.bi .add [(.call (ix .conditions_of) [(.var 0)]), (.call (ix .conditions_of) [(.var 1)])]), (.call (ix .empty_sketch) [(.bi .ix [(.var 0), (.lit (.int (0)))])])])), (.asgO 3 (.call (ix .picks_of) [(.var 2), (.lit (.int (4000)))])), (.ret (.comp [4] (.var 4) (.nm 4) .seq [(.var 3)] [(.bi .ne [(.call (ix .advice) [(.var 0), (.call (ix .case_of) [(.var 4)])]), (.call (ix .advice) [(.var 1), (.call (ix .case_of) [(.var 4)])])])]))]⟩
def c_apart (ix : Nm → Nat) : Fn := ⟨2, 3, [(.forr (.nm 2) .seq [(.call (ix .unlike_picks) [(.var 0), (.var 1)])] [(.ret (.call (ix .case_of) [(.var 2)]))]), (.ret (.lit .non))]⟩
def c_apart_many (ix : Nm → Nat) : Fn := ⟨2, 3, [(.ret (.bi .sum [(.comp [2] (.call (ix .many_in) [(.var 2)]) (.nm 2) .seq [(.call (ix .unlike_picks) [(.var 0), (.var 1)])] [])]))]⟩
def c_grown (ix : Nm → Nat) : Fn := ⟨3, 7, [(.ife (.bi .eq [(.var 1), (.tup [])]) [(.ret (.var 2))] []), (.asgT (.tp [(.nm 3), (.nm 4), (.nm 5), (.nm 6)]) (.var 0)), (.ife (.bi .eq [(.bi .ix [(.var 1), (.lit (.int (0)))]), (.lit (.int (0)))]) [(.ret (.tup [(.var 3), (.var 4), (.call (ix .grown) [(.var 5), (.bi .slL [(.var 1), (.lit (.int (1)))]), (.var 2)]), (.var 6)]))] []), (.ret (.tup [(.var 3), (.var 4), (.var 5), (.call (ix .grown) [(.var 6), (.bi .slL [(.var 1), (.lit (.int (1)))]), (.var 2)])]))]⟩
def c_corrected (ix : Nm → Nat) : Fn := ⟨4, 10, [(.asgT (.tp [(.nm 4), (.nm 5), (.nm 6), (.nm 7), (.nm 8)]) (.var 0)), (.ex (.call (ix .need_advice) [(.var 0), (.var 2)])), (.ife (.bi .not [(.call (ix .is_true) [(.var 4), (.var 5), (.var 3), (.var 1)])]) [(.rais 0 [])] []), (.ife (.bi .eq [(.call (ix .advice) [(.var 0), (.var 1)]), (.var 2)]) [(.rais 0 [])] []), (.ife (.bi .eq [(.bi .len [(.call (ix .rules_of) [(.var 8)])]), (.lit (.int (30)))]) [(.rais 0 [])] []), (.asgO 9 (.call (ix .end_of) [(.var 0), (.var 1)])), (.ife (.bi .eq [(.bi .len [(.var 9)]), (.lit (.int (12)))]) [(.rais 0 [])] []), (.ret (.tup [(.var 4), (.var 5), (.var 6), (.var 7), (.call (ix .grown) [(.var 8), (.var 9), (.tup [(.var 3), (.var 2), (.tup []), (.tup [])])])]))]⟩
def c_changed_many (ix : Nm → Nat) : Fn := ⟨4, 4, [(.ret (.call (ix .apart_many) [(.var 0), (.call (ix .corrected) [(.var 0), (.var 1), (.var 2), (.var 3)])]))]⟩
def c_law_rules (ix : Nm → Nat) : Fn := ⟨1, 5, [(.ife (.bi .eq [(.var 0), (.tup [])]) [(.ret (.lst []))] []), (.asgO 1 (.lst [(.tup [(.tup []), (.var 0)])])), (.forr (.nm 2) .rng [(.lit (.int (2)))] [(.forr (.tp [(.nm 3), (.nm 4)]) .seq [(.call (ix .law_rules) [(.bi .ix [(.var 0), (.bi .add [(.lit (.int (2))), (.var 2)])])])] [(.ex (.mut .append 1 [(.tup [(.bi .add [(.tup [(.var 2)]), (.var 3)]), (.var 4)])]))])]), (.ret (.var 1))]⟩
def c_law_beside (ix : Nm → Nat) : Fn := ⟨2, 10, [(.asgO 2 (.bi .mod [(.bi .ix [(.var 0), (.lit (.int (0)))]), (.lit (.int (5)))])), (.ife (.bi .eq [(.var 2), (.lit (.int (0)))]) [(.ret (.var 1))] []), (.asgO 3 (.call (ix .law_pool) [(.bi .ix [(.var 1), (.lit (.int (0)))]), (.bi .ix [(.var 1), (.lit (.int (1)))])])), (.ife (.bi .eq [(.var 2), (.lit (.int (1)))]) [(.ret (.bi .add [(.bi .slH [(.var 1), (.lit (.int (4)))]), (.tup [(.call (ix .law_tree) [(.bi .slL [(.var 0), (.lit (.int (10)))]), (.var 3), (.bi .ix [(.var 1), (.lit (.int (2)))]), (.bi .mod [(.bi .ix [(.var 0), (.lit (.int (1)))]), (.lit (.int (7)))])])])]))] []), (.ife (.bi .eq [(.var 2), (.lit (.int (2)))]) [(.asgO 4 (.call (ix .law_marks) [(.bi .slL [(.var 0), (.lit (.int (10)))]), (.bi .ix [(.var 1), (.lit (.int (0)))])])), (.asgO 5 (.call (ix .law_tree) [(.bi .slL [(.var 0), (.lit (.int (140)))]), (.call (ix .law_pool) [(.bi .ix [(.var 1), (.lit (.int (0)))]), (.var 4)]), (.bi .ix [(.var 1), (.lit (.int (2)))]), (.bi .mod [(.bi .ix [(.var 0), (.lit (.int (1)))]), (.lit (.int (7)))])])), (.ret (.tup [(.bi .ix [(.var 1), (.lit (.int (0)))]), (.var 4), (.bi .ix [(.var 1), (.lit (.int (2)))]), (.bi .ix [(.var 1), (.lit (.int (3)))]), (.var 5)]))] []), (.ife (.or (.bi .eq [(.var 2), (.lit (.int (3)))]) (.bi .eq [(.bi .ix [(.var 1), (.lit (.int (4)))]), (.tup [])])) [(.ret (.bi .add [(.bi .slH [(.var 1), (.lit (.int (3)))]), (.tup [(.bi .ix [(.bi .ix [(.var 1), (.lit (.int (2)))]), (.bi .mod [(.bi .ix [(.var 0), (.lit (.int (1)))]), (.bi .len [(.bi .ix [(.var 1), (.lit (.int (2)))])])])]), (.bi .ix [(.var 1), (.lit (.int (4)))])])]))] []), (.asgO 6 (.call (ix .law_rules) [(.bi .ix [(.var 1), (.lit (.int (4)))])])), (.asgT (.tp [(.nm 7), (.nm 8)]) (.bi .ix [(.var 6), (.bi .mod [(.bi .ix [(.var 0), (.lit (.int (1)))]), (.bi .len [(.var 6)])])])), (.asgO 9 (.tup [(.call (ix .law_condition) [(.bi .slL [(.var 0), (.lit (.int (10)))]), (.var 3), (.lit (.int (3)))]), (.bi .ix [(.bi .ix [(.var 1), (.lit (.int (2)))]), (.bi .mod [(.bi .ix [(.var 0), (.lit (.int (2)))]), (.bi .len [(.bi .ix [(.var 1), (.lit (.int (2)))])])])]), (.bi .ix [(.var 8), (.lit (.int (2)))]), (.bi .ix [(.var 8), (.lit (.int (3)))])])), (.ret (.bi .add [(.bi .slH [(.var 1), (.lit (.int (4)))]), (.tup [(.call (ix .law_put_rule) [(.bi .ix [(.var 1), (.lit (.int (4)))]), (.var 7), (.var 9)])])]))]⟩
def c_law_put_rule (ix : Nm → Nat) : Fn := ⟨3, 4, [(.ife (.bi .eq [(.var 1), (.tup [])]) [(.ret (.var 2))] []), (.asgO 3 (.bi .add [(.lit (.int (2))), (.bi .ix [(.var 1), (.lit (.int (0)))])])), (.ret (.bi .add [(.bi .add [(.bi .slH [(.var 0), (.var 3)]), (.tup [(.call (ix .law_put_rule) [(.bi .ix [(.var 0), (.var 3)]), (.bi .slL [(.var 1), (.lit (.int (1)))]), (.var 2)])])]), (.bi .slL [(.var 0), (.bi .add [(.var 3), (.lit (.int (1)))])])]))]⟩
def c_law38 (ix : Nm → Nat) : Fn := ⟨1, 14, [(.forr (.nm 1) .seq [(.bi .add [(.lst [(.call (ix .law_cell_at) [(.var 0), (.lit (.int (0)))])]), (.bi .slLH [(.var 0), (.lit (.int (1))), (.lit (.int (3)))])])] [(.asgO 2 (.call (ix .law_draws) [(.var 1), (.lit (.int (700))), (.lit (.int (1000)))])), (.asgO 3 (.call (ix .law_book) [(.var 2), (.lit (.int (2)))])), (.asgO 4 (.call (ix .law_beside) [(.bi .slL [(.var 2), (.lit (.int (300)))]), (.var 3)])), (.asgO 5 (.call (ix .apart_many) [(.var 3), (.var 4)])), (.forr (.nm 6) .rng [(.lit (.int (30)))] [(.asgO 7 (.call (ix .apart) [(.var 3), (.var 4)])), (.ife (.bi .isN [(.var 7), (.lit .non)]) [.brk] []), (.asgO 8 (.tup [(.lit (.str [121, 101, 115]))])), (.forr (.tp [(.nm 9), (.tp [(.nm 10), (.nm 11)])]) .enum [(.bi .ix [(.var 3), (.lit (.int (0)))])] [(.asgO 12 (.tup [(.lit (.str [105, 115])), (.var 10), (.bi .ix [(.var 7), (.var 9)])])), (.ife (.bi .eq [(.bi .ix [(.var 11), (.lit (.int (0)))]), (.lit (.str [110, 117, 109, 98, 101, 114]))]) [(.asgO 12 (.tup [(.lit (.str [102, 114, 111, 109])), (.var 10), (.bi .ix [(.var 7), (.var 9)]), (.bi .ix [(.var 7), (.var 9)])]))] []), (.asgO 8 (.ife (.bi .eq [(.var 8), (.tup [(.lit (.str [121, 101, 115]))])]) (.var 12) (.tup [(.lit (.str [97, 110, 100])), (.var 8), (.var 12)])))]), (.ife (.or (.bi .eq [(.bi .len [(.call (ix .law_rules) [(.bi .ix [(.var 3), (.lit (.int (4)))])])]), (.lit (.int (30)))]) (.bi .eq [(.bi .len [(.call (ix .end_of) [(.var 3), (.var 7)])]), (.lit (.int (12)))])) [.brk] []), (.asgO 13 (.call (ix .changed_many) [(.var 3), (.var 7), (.call (ix .advice) [(.var 4), (.var 7)]), (.var 8)])), (.asgO 3 (.call (ix .corrected) [(.var 3), (.var 7), (.call (ix .advice) [(.var 4), (.var 7)]), (.var 8)])), (.ife (.or (.bi .ne [(.var 13), (.lit (.int (1)))]) (.or (.bi .ne [(.call (ix .apart_many) [(.var 3), (.var 4)]), (.bi .sub [(.var 5), (.var 13)])]) (.bi .ne [(.call (ix .advice) [(.var 3), (.var 7)]), (.call (ix .advice) [(.var 4), (.var 7)])]))) [(.ret (.lit (.bl false)))] []), (.asgO 5 (.bi .sub [(.var 5), (.var 13)]))]), (.ife (.bi .ne [(.bi .eq [(.var 5), (.lit (.int (0)))]), (.bi .isN [(.call (ix .apart) [(.var 3), (.var 4)]), (.lit .non)])]) [(.ret (.lit (.bl false)))] [])]), (.ret (.lit (.bl true)))]⟩
def cd (ix : Nm → Nat) : Nm → Fn
  | .parts_within => c_parts_within ix
  | .is_so => c_is_so ix
  | .world_of => c_world_of ix
  | .gone => c_gone ix
  | .advice => c_advice ix
  | .rules_of => c_rules_of ix
  | .cuts_in => c_cuts_in ix
  | .conditions_of => c_conditions_of ix
  | .stretches => c_stretches ix
  | .cells_by => c_cells_by ix
  | .cells => c_cells ix
  | .ways_in => c_ways_in ix
  | .first_of => c_first_of ix
  | .size_of => c_size_of ix
  | .picks_of => c_picks_of ix
  | .case_of => c_case_of ix
  | .many_in => c_many_in ix
  | .all_advices => c_all_advices ix
  | .may_be => c_may_be ix
  | .need_advice => c_need_advice ix
  | .how_many => c_how_many ix
  | .first_case => c_first_case ix
  | .law_cell_at => c_law_cell_at ix
  | .law_draws => c_law_draws ix
  | .law_kind => c_law_kind ix
  | .law_facts => c_law_facts ix
  | .law_pool => c_law_pool ix
  | .law_leaf => c_law_leaf ix
  | .law_condition => c_law_condition ix
  | .law_marks => c_law_marks ix
  | .law_tree => c_law_tree ix
  | .law_book => c_law_book ix
  | .law_far_facts => c_law_far_facts ix
  | .law => c_law ix
  | .empty_sketch => c_empty_sketch ix
  | .is_true => c_is_true ix
  | .end_of => c_end_of ix
  | .unlike_picks => c_unlike_picks ix
  | .apart => c_apart ix
  | .apart_many => c_apart_many ix
  | .grown => c_grown ix
  | .corrected => c_corrected ix
  | .changed_many => c_changed_many ix
  | .law_rules => c_law_rules ix
  | .law_beside => c_law_beside ix
  | .law_put_rule => c_law_put_rule ix
  | .law38 => c_law38 ix
class Has (P : List Fn) (ix : Nm → Nat) (nm : Nm) : Prop where
  h : P[ix nm]? = some (cd ix nm)
def nms_law : List Nm := [.parts_within, .is_so, .world_of, .gone, .advice, .rules_of, .cuts_in, .conditions_of, .stretches, .cells_by, .cells, .ways_in, .first_of, .size_of, .picks_of, .case_of, .many_in, .all_advices, .may_be, .need_advice, .how_many, .first_case, .law_cell_at, .law_draws, .law_kind, .law_facts, .law_pool, .law_leaf, .law_condition, .law_marks, .law_tree, .law_book, .law_far_facts, .law]
def ix_law : Nm → Nat
  | .parts_within => 0
  | .is_so => 1
  | .world_of => 2
  | .gone => 3
  | .advice => 4
  | .rules_of => 5
  | .cuts_in => 6
  | .conditions_of => 7
  | .stretches => 8
  | .cells_by => 9
  | .cells => 10
  | .ways_in => 11
  | .first_of => 12
  | .size_of => 13
  | .picks_of => 14
  | .case_of => 15
  | .many_in => 16
  | .all_advices => 17
  | .may_be => 18
  | .need_advice => 19
  | .how_many => 20
  | .first_case => 21
  | .law_cell_at => 22
  | .law_draws => 23
  | .law_kind => 24
  | .law_facts => 25
  | .law_pool => 26
  | .law_leaf => 27
  | .law_condition => 28
  | .law_marks => 29
  | .law_tree => 30
  | .law_book => 31
  | .law_far_facts => 32
  | .law => 33
  | _ => 9999
def nms_law38 : List Nm := [.empty_sketch, .parts_within, .is_so, .world_of, .is_true, .gone, .advice, .end_of, .rules_of, .cuts_in, .conditions_of, .stretches, .cells_by, .ways_in, .first_of, .size_of, .picks_of, .case_of, .many_in, .need_advice, .unlike_picks, .apart, .apart_many, .grown, .corrected, .changed_many, .law_cell_at, .law_draws, .law_kind, .law_facts, .law_pool, .law_leaf, .law_condition, .law_marks, .law_tree, .law_book, .law_rules, .law_beside, .law_put_rule, .law38]
def ix_law38 : Nm → Nat
  | .empty_sketch => 0
  | .parts_within => 1
  | .is_so => 2
  | .world_of => 3
  | .is_true => 4
  | .gone => 5
  | .advice => 6
  | .end_of => 7
  | .rules_of => 8
  | .cuts_in => 9
  | .conditions_of => 10
  | .stretches => 11
  | .cells_by => 12
  | .ways_in => 13
  | .first_of => 14
  | .size_of => 15
  | .picks_of => 16
  | .case_of => 17
  | .many_in => 18
  | .need_advice => 19
  | .unlike_picks => 20
  | .apart => 21
  | .apart_many => 22
  | .grown => 23
  | .corrected => 24
  | .changed_many => 25
  | .law_cell_at => 26
  | .law_draws => 27
  | .law_kind => 28
  | .law_facts => 29
  | .law_pool => 30
  | .law_leaf => 31
  | .law_condition => 32
  | .law_marks => 33
  | .law_tree => 34
  | .law_book => 35
  | .law_rules => 36
  | .law_beside => 37
  | .law_put_rule => 38
  | .law38 => 39
  | _ => 9999
end R
end
section
set_option Elab.async false
set_option linter.all false
set_option autoImplicit false
set_option maxRecDepth 100000
set_option maxHeartbeats 1000000
/-! the evaluator's equations, for simp -/
namespace Ev
@[simp] theorem q_get (l : List (Option SV)) (o : List Ob) (i : Nat) : St.get ⟨l, o⟩ i = (l[i]?).join := rfl
@[simp] theorem q_put (l : List (Option SV)) (o : List Ob) (i : Nat) (v : SV) : St.put ⟨l, o⟩ i v = ⟨l.set i (some v), o⟩ := rfl
@[simp] theorem q_drop (l : List (Option SV)) (o : List Ob) (i : Nat) : St.drop ⟨l, o⟩ i = ⟨l.set i none, o⟩ := rfl
@[simp] theorem q_wipe (l : List (Option SV)) (o : List Ob) (w : List Nat) : St.wipe ⟨l, o⟩ w = ⟨w.foldr (fun i l => l.set i none) l, o⟩ := rfl
@[simp] theorem q_back (l : List (Option SV)) (o : List Ob) (w : List Nat) (s0 : St) : St.back ⟨l, o⟩ w s0 = ⟨w.foldr (fun i l => l.set i (valOf (s0.get i))) l, o⟩ := rfl
@[simp] theorem q_valOf1 (v : PV) : valOf (some (.val v)) = some (.val v) := rfl
@[simp] theorem q_valOf2 (v : PV) : valOf (some (.own v)) = none := rfl
@[simp] theorem q_valOf3 : valOf none = none := rfl
@[simp] theorem q_bnm (i : Nat) (v : PV) (s : St) : bindT (.nm i) v s = if i < s.sl.length then some (s.put i (.val v)) else none := by rw [bindT]
@[simp] theorem q_btp (ts : List TG) (vs : List PV) (s : St) : bindT (.tp ts) (.tup vs) s = bindTs ts vs s := by rw [bindT]
@[simp] theorem q_bs0 (s : St) : bindTs [] [] s = some s := by rw [bindTs]
@[simp] theorem q_bs (t : TG) (ts : List TG) (v : PV) (vs : List PV) (s : St) : bindTs (t :: ts) (v :: vs) s = (bindT t v s).bind fun s' => bindTs ts vs s' := by rw [bindTs]
@[simp] theorem q_par0 (s : St) : putAll [] [] s = some s := rfl
@[simp] theorem q_par1 (i : Nat) (is : List Nat) (v : PV) (vs : List PV) (s : St) : putAll (i :: is) (v :: vs) s = if i < s.sl.length then putAll is vs (s.put i (.val v)) else none := rfl
@[simp] theorem q_v1 (v : PV) : (SV.val v).v = v := rfl
@[simp] theorem q_v2 (v : PV) : (SV.own v).v = v := rfl
section
variable (Γ : Cx)
@[simp] theorem q_lit (v : PV) (s : St) : evalE Γ (.lit v) s = .ok v s := by rw [evalE]
@[simp] theorem q_var (i : Nat) (s : St) : evalE Γ (.var i) s = match s.get i with | some v => .ok v.v (s.freeze i) | none => .no := by rw [evalE]; try rfl
@[simp] theorem q_tup (es : List CE) (s : St) : evalE Γ (.tup es) s = (evalVs Γ es s).bind fun vs s' => .ok (.tup vs) s' := by rw [evalE]
@[simp] theorem q_lst (es : List CE) (s : St) : evalE Γ (.lst es) s = (evalVs Γ es s).bind fun vs s' => .ok (.lst vs) s' := by rw [evalE]
@[simp] theorem q_bi (b : Blt) (es : List CE) (s : St) : evalE Γ (.bi b es) s = (evalAs Γ es s).bind fun vs s' => Out.ofOpt (sem b vs) s' := by rw [evalE]
@[simp] theorem q_and (a b : CE) (s : St) : evalE Γ (.and a b) s = (evalE Γ a s).bind fun v s' => (truth v s').bind fun c s'' => if c then evalE Γ b s'' else .ok (.bl false) s'' := by rw [evalE]
@[simp] theorem q_or (a b : CE) (s : St) : evalE Γ (.or a b) s = (evalE Γ a s).bind fun v s' => (truth v s').bind fun c s'' => if c then .ok (.bl true) s'' else evalE Γ b s'' := by rw [evalE]
@[simp] theorem q_ife (c a b : CE) (s : St) : evalE Γ (.ife c a b) s = (evalE Γ c s).bind fun v s' => (truth v s').bind fun k s'' => if k then evalE Γ a s'' else evalE Γ b s'' := by rw [evalE]
@[simp] theorem q_chain (b1 b2 : Blt) (xy : List CE) (z : CE) (s : St) : evalE Γ (.chain b1 b2 xy z) s = (evalAs Γ xy s).bind fun vs s' => (Out.ofOpt (sem b1 vs) s').bind fun v s1 => (truth v s1).bind fun k s2 =>
      if k then (evalE Γ z s2).bind fun w s3 => Out.ofOpt (sem b2 (vs.drop 1 ++ [w])) s3 else .ok (.bl false) s2 := by rw [evalE]
@[simp] theorem q_call (f : Nat) (es : List CE) (s : St) : evalE Γ (.call f es) s = (evalVs Γ es s).bind fun vs s' => (Out.ofOpt (Γ.call f vs) s').bind fun r s'' => .ok r.v s'' := by rw [evalE]
@[simp] theorem q_callL (f i : Nat) (es : List CE) (s : St) : evalE Γ (.callL f i es) s = match s.get i with
      | some _ => (evalVs Γ es s).bind fun vs s' =>
        match s'.get i with
        | some v => (Out.ofOpt (Γ.call f (v.v :: vs)) s').bind fun r s'' => if scalar r.v then .ok r.v s'' else .no
        | none => .no
      | none => .no := by rw [evalE]; try rfl
@[simp] theorem q_mut (m : Mut) (i : Nat) (es : List CE) (s : St) : evalE Γ (.mut m i es) s = match s.get i with
      | some (.own c0) => if kindM m c0 then (evalVs Γ es s).bind fun vs s' =>
          match s'.get i with
          | some (.own c) => (Out.ofOpt (semMut m c vs) s').bind fun r s'' => .ok r.1 (s''.put i (.own r.2))
          | _ => .no
        else .no
      | _ => .no := by rw [evalE]; try rfl
@[simp] theorem q_As0 (s : St) : evalAs Γ [] s = .ok [] s := by rw [evalAs]
@[simp] theorem q_AsV (i : Nat) (r : List CE) (s : St) : evalAs Γ (.var i :: r) s = (match s.get i with
    | some v => Out.ok v.v (if calms r then s else s.freeze i)
    | none => Out.no).bind fun v s' => (evalAs Γ r s').bind fun vs s'' => .ok (v :: vs) s'' := by rw [evalAs]; try rfl
theorem q_As (e : CE) (r : List CE) (s : St) (h : ∀ i, e ≠ .var i) : evalAs Γ (e :: r) s = (evalE Γ e s).bind fun v s' => (evalAs Γ r s').bind fun vs s'' => .ok (v :: vs) s'' := by
  rw [evalAs]
  exact h
@[simp] theorem q_AsL (v : PV) (r : List CE) (s : St) : evalAs Γ (.lit v :: r) s = (evalE Γ (.lit v) s).bind fun v s' => (evalAs Γ r s').bind fun vs s'' => .ok (v :: vs) s'' := q_As Γ _ _ _ (fun _ h => nomatch h)
@[simp] theorem q_AsT (es : List CE) (r : List CE) (s : St) : evalAs Γ (.tup es :: r) s = (evalE Γ (.tup es) s).bind fun v s' => (evalAs Γ r s').bind fun vs s'' => .ok (v :: vs) s'' := q_As Γ _ _ _ (fun _ h => nomatch h)
@[simp] theorem q_AsLs (es : List CE) (r : List CE) (s : St) : evalAs Γ (.lst es :: r) s = (evalE Γ (.lst es) s).bind fun v s' => (evalAs Γ r s').bind fun vs s'' => .ok (v :: vs) s'' := q_As Γ _ _ _ (fun _ h => nomatch h)
@[simp] theorem q_AsB (b : Blt) (es : List CE) (r : List CE) (s : St) : evalAs Γ (.bi b es :: r) s = (evalE Γ (.bi b es) s).bind fun v s' => (evalAs Γ r s').bind fun vs s'' => .ok (v :: vs) s'' := q_As Γ _ _ _ (fun _ h => nomatch h)
@[simp] theorem q_AsC (f : Nat) (es : List CE) (r : List CE) (s : St) : evalAs Γ (.call f es :: r) s = (evalE Γ (.call f es) s).bind fun v s' => (evalAs Γ r s').bind fun vs s'' => .ok (v :: vs) s'' := q_As Γ _ _ _ (fun _ h => nomatch h)
@[simp] theorem q_AsCL (f i : Nat) (es : List CE) (r : List CE) (s : St) : evalAs Γ (.callL f i es :: r) s = (evalE Γ (.callL f i es) s).bind fun v s' => (evalAs Γ r s').bind fun vs s'' => .ok (v :: vs) s'' := q_As Γ _ _ _ (fun _ h => nomatch h)
@[simp] theorem q_AsI (a b c : CE) (r : List CE) (s : St) : evalAs Γ (.ife a b c :: r) s = (evalE Γ (.ife a b c) s).bind fun v s' => (evalAs Γ r s').bind fun vs s'' => .ok (v :: vs) s'' := q_As Γ _ _ _ (fun _ h => nomatch h)
@[simp] theorem q_AsComp (a : List Nat) (b : CE) (c : TG) (d : SK) (e f r : List CE) (s : St) : evalAs Γ (.comp a b c d e f :: r) s = (evalE Γ (.comp a b c d e f) s).bind fun v s' => (evalAs Γ r s').bind fun vs s'' => .ok (v :: vs) s'' := q_As Γ _ _ _ (fun _ h => nomatch h)
@[simp] theorem q_AsDcomp (a : List Nat) (b b' : CE) (c : TG) (d : SK) (e f r : List CE) (s : St) : evalAs Γ (.dcomp a b b' c d e f :: r) s = (evalE Γ (.dcomp a b b' c d e f) s).bind fun v s' => (evalAs Γ r s').bind fun vs s'' => .ok (v :: vs) s'' := q_As Γ _ _ _ (fun _ h => nomatch h)
@[simp] theorem q_AsScomp (a : List Nat) (b : CE) (c : TG) (d : SK) (e f r : List CE) (s : St) : evalAs Γ (.scomp a b c d e f :: r) s = (evalE Γ (.scomp a b c d e f) s).bind fun v s' => (evalAs Γ r s').bind fun vs s'' => .ok (v :: vs) s'' := q_As Γ _ _ _ (fun _ h => nomatch h)
@[simp] theorem q_Vs0 (s : St) : evalVs Γ [] s = .ok [] s := by rw [evalVs]
@[simp] theorem q_Vs (e : CE) (r : List CE) (s : St) : evalVs Γ (e :: r) s = (evalE Γ e s).bind fun v s' => (evalVs Γ r s').bind fun vs s'' => .ok (v :: vs) s'' := by rw [evalVs]
@[simp] theorem q_ts0 (s : St) : tests Γ [] s = .ok true s := by rw [tests]
@[simp] theorem q_ts (c : CE) (r : List CE) (s : St) : tests Γ (c :: r) s = (evalE Γ c s).bind fun v s' => truth v s' := by rw [tests]
@[simp] theorem q_truth (b : Bool) (s : St) : truth (.bl b) s = .ok b s := rfl
@[simp] theorem q_asg (i : Nat) (e : CE) (s : St) : exec Γ (.asg i e) s = (evalE Γ e s).bind fun v s' => if i < s'.sl.length then .ok .nx (s'.put i (.val v)) else .no := by rw [exec]
@[simp] theorem q_asgO (i : Nat) (e : CE) (s : St) : exec Γ (.asgO i e) s = (evalF Γ e s).bind fun v s' => if i < s'.sl.length then .ok .nx (s'.put i v) else .no := by rw [exec]
@[simp] theorem q_asgT (tg : TG) (e : CE) (s : St) : exec Γ (.asgT tg e) s = (evalE Γ e s).bind fun v s' => (Out.ofOpt (bindT tg v s') s').bind fun s1 _ => .ok .nx s1 := by rw [exec]
@[simp] theorem q_par (is : List Nat) (es : List CE) (s : St) : exec Γ (.par is es) s = (evalVs Γ es s).bind fun vs s' => (Out.ofOpt (putAll is vs s') s').bind fun s1 _ => .ok .nx s1 := by rw [exec]
@[simp] theorem q_parO (i j : Nat) (a b : CE) (s : St) : exec Γ (.parO i j a b) s = (evalE Γ a s).bind fun v s' => (evalF Γ b s').bind fun w s'' => if i < s''.sl.length then if j < s''.sl.length then .ok .nx ((s''.put j w).put i (.val v)) else .no else .no := by rw [exec]
@[simp] theorem q_setI (i : Nat) (k v : CE) (s : St) : exec Γ (.setI i k v) s = (evalE Γ v s).bind fun w s' => match s'.get i with
      | some (.own _) => (evalE Γ k s').bind fun u s'' =>
        match s''.get i with
        | some (.own c) => (Out.ofOpt (semMut .setItem c [u, w]) s'').bind fun r s1 => .ok .nx (s1.put i (.own r.2))
        | _ => .no
      | _ => .no := by rw [exec]; try rfl
@[simp] theorem q_aug (i : Nat) (b : Blt) (e : CE) (s : St) : exec Γ (.aug i b e) s = match s.get i with
    | some (.val (.int x)) => (evalE Γ e s).bind fun v s' => match v with
      | .int y => (Out.ofOpt (sem b [.int x, .int y]) s').bind fun w s'' => if i < s''.sl.length then .ok .nx (s''.put i (.val w)) else .no
      | _ => .no
    | _ => .no := by rw [exec]; try rfl
@[simp] theorem q_ex (e : CE) (s : St) : exec Γ (.ex e) s = (evalE Γ e s).bind fun _ s' => .ok .nx s' := by rw [exec]
@[simp] theorem q_sife (c : CE) (a b : List CS) (s : St) : exec Γ (.ife c a b) s = (evalE Γ c s).bind fun v s' => (truth v s').bind fun k s'' => if k then execs Γ a s'' else execs Γ b s'' := by rw [exec]
@[simp] theorem q_ret (e : CE) (s : St) : exec Γ (.ret e) s = (evalR Γ e s).bind fun r s' => .ok (.ret r) s' := by rw [exec]
@[simp] theorem q_brk (s : St) : exec Γ .brk s = .ok .brk s := by rw [exec]
@[simp] theorem q_pass (s : St) : exec Γ .pass s = .ok .nx s := by rw [exec]
@[simp] theorem q_s0 (s : St) : execs Γ [] s = .ok .nx s := by rw [execs]
@[simp] theorem q_s (c : CS) (r : List CS) (s : St) : execs Γ (c :: r) s = (exec Γ c s).bind fun f s' => match f with
      | .nx => execs Γ r s'
      | f => .ok f s' := by rw [execs]; try rfl
theorem q_comp (own : List Nat) (e : CE) (tg : TG) (sk : SK) (src cs : List CE) (s : St) : evalE Γ (.comp own e tg sk src cs) s = (if calm e && calms cs then evalAs Γ src s else evalVs Γ src s).bind fun vs s' => (Out.ofOpt (items sk vs) s').bind fun xs s1 => if xs.length ≤ sizeTop then
      (loopL (fun x s2 => (Out.ofOpt (bindT tg x s2) s2).bind fun s3 _ => (tests Γ cs s3).bind fun k s4 => if k then (evalE Γ e s4).bind fun v s5 => .ok (some v) (s5.wipe own) else .ok none (s4.wipe own)) xs (s1.wipe own)).bind
        fun ys s6 => .ok (.lst ys) (s6.back own s1) else .no := by rw [evalE]
theorem q_comp2 (own own2 : List Nat) (e : CE) (tg : TG) (sk : SK) (src : List CE) (tg2 : TG) (sk2 : SK) (src2 : List CE) (s : St) : evalE Γ (.comp2 own own2 e tg sk src tg2 sk2 src2) s = (if calm e && calms src2 then evalAs Γ src s else evalVs Γ src s).bind fun vs s' => (Out.ofOpt (items sk vs) s').bind fun xs s1 =>
      (loopS (fun x s2 => (Out.ofOpt (bindT tg x s2) s2).bind fun s3 _ => (evalVs Γ src2 s3).bind fun ws s4 => (Out.ofOpt (items sk2 ws) s4).bind fun zs s5 =>
        (loopL (fun y s6 => (Out.ofOpt (bindT tg2 y s6) s6).bind fun s7 _ => (evalE Γ e s7).bind fun v s8 => .ok (some v) (s8.wipe own2)) zs (s5.wipe own2)).bind fun us s9 => .ok us (s9.wipe own)) xs (s1.wipe own)).bind
        fun ys s6 => if ys.length ≤ sizeTop then .ok (.lst ys) (s6.back own s1) else .no := by rw [evalE]
theorem q_dcomp (own : List Nat) (k v : CE) (tg : TG) (sk : SK) (src cs : List CE) (s : St) : evalE Γ (.dcomp own k v tg sk src cs) s = (if calm k && calm v && calms cs then evalAs Γ src s else evalVs Γ src s).bind fun vs s' => (Out.ofOpt (items sk vs) s').bind fun xs s1 => if xs.length ≤ sizeTop then
      (loopD (fun x s2 => (Out.ofOpt (bindT tg x s2) s2).bind fun s3 _ => (tests Γ cs s3).bind fun b s4 => if b then (evalE Γ k s4).bind fun kv s5 => (evalE Γ v s5).bind fun vv s6 => .ok (some (kv, vv)) (s6.wipe own) else .ok none (s4.wipe own)) xs [] [] (s1.wipe own)).bind
        fun ys s6 => .ok (.dic ys.1 ys.2) (s6.back own s1) else .no := by rw [evalE]
theorem q_scomp (own : List Nat) (e : CE) (tg : TG) (sk : SK) (src cs : List CE) (s : St) : evalE Γ (.scomp own e tg sk src cs) s = (if calm e && calms cs then evalAs Γ src s else evalVs Γ src s).bind fun vs s' => (Out.ofOpt (items sk vs) s').bind fun xs s1 => if xs.length ≤ 4000 then
      (loopL (fun x s2 => (Out.ofOpt (bindT tg x s2) s2).bind fun s3 _ => (tests Γ cs s3).bind fun k s4 => if k then (evalE Γ e s4).bind fun v s5 => .ok (some v) (s5.wipe own) else .ok none (s4.wipe own)) xs (s1.wipe own)).bind
        fun ys s6 => (Out.ofOpt (sem .setSorted [.lst ys]) s6).bind fun r s7 => .ok r (s7.back own s1) else .no := by rw [evalE]
/-- a for loop, its body -/
theorem q_for (tg : TG) (sk : SK) (src : List CE) (b : List CS) (s : St) : exec Γ (.forr tg sk src b) s = (evalVs Γ src s).bind fun vs s' => (Out.ofOpt (items sk vs) s').bind fun xs s1 =>
      forL (fun x s2 => (Out.ofOpt (bindT tg x s2) s2).bind fun s3 _ => execs Γ b s3) xs s1 := by rw [exec]
theorem q_whl (c : CE) (b : List CS) (s : St) : exec Γ (.whl c b) s = whileN (fun s => (evalE Γ c s).bind fun v s' => truth v s') (fun s => execs Γ b s) Γ.turns s := by rw [exec]
@[simp] theorem q_R (i : Nat) (s : St) : evalR Γ (.var i) s = match s.get i with | some v => .ok v (s.drop i) | none => .no := by rw [evalR]; try rfl
@[simp] theorem q_Fcall (f : Nat) (es : List CE) (s : St) : evalF Γ (.call f es) s = (evalVs Γ es s).bind fun vs s' => Out.ofOpt (Γ.call f vs) s' := by rw [evalF]
end
@[simp] theorem q_fs0 (s : St) (body : PV → St → Out Fl) : forL body [] s = .ok .nx s := rfl
theorem q_fs (body : PV → St → Out Fl) (x : PV) (xs : List PV) (s : St) : forL body (x :: xs) s = (body x s).bind fun f s' => match f with
    | .nx => forL body xs s'
    | .brk => .ok .nx s'
    | .ret r => .ok (.ret r) s' := rfl
theorem callN_of {P : List Fn} {gl : List PV} {T f : Nat} {fn : Fn} (h : P[f]? = some fn) (n : Nat) (args : List PV) : callN P gl T (n + 1) f args = runF ⟨callN P gl T n, fun j => gl[j]?, T⟩ fn args := by
  rw [callN, h]
/-- the outcome of a list comprehension's loop whose turns leave the state as it is -/
theorem loopL_map {body : PV → St → Out (Option PV)} {s : St} {g : PV → Option PV} : ∀ {xs : List PV}, (∀ x ∈ xs, body x s = .ok (g x) s) → loopL body xs s = .ok (xs.filterMap g) s
  | [], _ => rfl
  | x :: xs, h => by
    rw [loopL, h x List.mem_cons_self]
    simp only [Out.bind]
    rw [loopL_map fun y hy => h y (List.mem_cons_of_mem _ hy)]
    simp only [List.filterMap_cons]
    cases g x <;> rfl
/-- the run of code ends well, and so -/
def Ret (o : Out Fl) (Q : Fl → St → Prop) : Prop := ∃ f s, o = .ok f s ∧ Q f s
@[simp] theorem Ret_ok (f : Fl) (s : St) (Q : Fl → St → Prop) : Ret (.ok f s) Q ↔ Q f s := ⟨fun ⟨_, _, e, h⟩ => by cases e; exact h, fun h => ⟨f, s, rfl, h⟩⟩
theorem Ret_bind {o : Out Fl} {k : Fl → St → Out Fl} {Q1 Q : Fl → St → Prop} (h : Ret o Q1) (hk : ∀ f s, Q1 f s → Ret (k f s) Q) : Ret (o.bind k) Q := by
  obtain ⟨f, s, rfl, h⟩ := h
  exact hk f s h
theorem Ret_mono {o : Out Fl} {Q1 Q : Fl → St → Prop} (h : Ret o Q1) (hk : ∀ f s, Q1 f s → Q f s) : Ret o Q := by
  obtain ⟨f, s, rfl, h⟩ := h
  exact ⟨f, s, rfl, hk f s h⟩
theorem run_Ret {Γ : Cx} {fn : Fn} {args : List PV} {r : SV} (hl : args.length = fn.np) (H : Ret (execs Γ fn.body ⟨args.map (fun v => some (.val v)) ++ List.replicate (fn.ns - fn.np) none, []⟩) fun f _ => f = .ret r) : runF Γ fn args = some r := by
  obtain ⟨f, s, e, rfl⟩ := H
  unfold runF
  rw [if_pos hl, e]
theorem run_RetP {Γ : Cx} {fn : Fn} {args : List PV} {Q : SV → Prop} (hl : args.length = fn.np) (H : Ret (execs Γ fn.body ⟨args.map (fun v => some (.val v)) ++ List.replicate (fn.ns - fn.np) none, []⟩) fun f _ => ∃ r, f = .ret r ∧ Q r) : ∃ r, runF Γ fn args = some r ∧ Q r := by
  obtain ⟨f, s, e, r, rfl, h⟩ := H
  refine ⟨r, ?_, h⟩
  unfold runF
  rw [if_pos hl, e]
/-- a for loop that never leaves -/
theorem for_Ret {α : Type} {body : PV → St → Out Fl} {e : α → PV} {xs : List α} {s : St} (S : List α → St → Prop) (h : S [] s) (k : ∀ (pre : List α) (x : α) (post : List α) (s : St), xs = pre ++ x :: post → S pre s → Ret (body (e x) s) fun f s' => f = .nx ∧ S (pre ++ [x]) s') : Ret (forL body (xs.map e) s) fun f s' => f = .nx ∧ S xs s' := by
  have key : ∀ (post pre : List α) (s : St), xs = pre ++ post → S pre s → Ret (forL body (post.map e) s) fun f s' => f = .nx ∧ S xs s' := by
    intro post
    induction post with
    | nil => intro pre s hx h; rw [List.append_nil] at hx; subst hx; exact ⟨_, _, rfl, rfl, h⟩
    | cons x post ih =>
      intro pre s hx h
      obtain ⟨f, s1, e1, rfl, h1⟩ := k pre x post s hx h
      rw [List.map_cons, q_fs, e1]
      exact ih (pre ++ [x]) s1 (by rw [hx, List.append_assoc]; try rfl) h1
  exact key xs [] s rfl h
/-- a for loop that may leave with an answer -/
theorem for_RetQ {α : Type} {body : PV → St → Out Fl} {e : α → PV} {xs : List α} {s : St} (S : List α → St → Prop) (Q : Fl → St → Prop) (h : S [] s) (hq : ∀ s', S xs s' → Q .nx s') (k : ∀ (pre : List α) (x : α) (post : List α) (s : St), xs = pre ++ x :: post → S pre s → Ret (body (e x) s) fun f s' => (f = .nx ∧ S (pre ++ [x]) s') ∨ (∃ r, f = .ret r ∧ Q f s')) : Ret (forL body (xs.map e) s) Q := by
  have key : ∀ (post pre : List α) (s : St), xs = pre ++ post → S pre s → Ret (forL body (post.map e) s) Q := by
    intro post
    induction post with
    | nil => intro pre s hx h; rw [List.append_nil] at hx; subst hx; exact ⟨_, _, rfl, hq _ h⟩
    | cons x post ih =>
      intro pre s hx h
      obtain ⟨f, s1, e1, h1⟩ := k pre x post s hx h
      rw [List.map_cons, q_fs, e1]
      rcases h1 with ⟨rfl, h1⟩ | ⟨r, rfl, h1⟩
      · exact ih (pre ++ [x]) s1 (by rw [hx, List.append_assoc]; try rfl) h1
      · exact ⟨_, _, rfl, h1⟩
  exact key xs [] s rfl h
theorem forr_Ret {Γ : Cx} {tg : TG} {sk : SK} {src : List CE} {b : List CS} {s : St} {α : Type} {e : α → PV} {xs : List α} {vs : List PV} {s1 : St} (hv : evalVs Γ src s = .ok vs s1) (hi : items sk vs = some (xs.map e)) (S : List α → St → Prop) (h : S [] s1)
    (k : ∀ (pre : List α) (x : α) (post : List α) (s : St), xs = pre ++ x :: post → S pre s → ∃ s3, bindT tg (e x) s = some s3 ∧ Ret (execs Γ b s3) fun f s' => f = .nx ∧ S (pre ++ [x]) s') : Ret (exec Γ (.forr tg sk src b) s) fun f s' => f = .nx ∧ S xs s' := by
  rw [q_for, hv, Out.bind_ok, hi, Out.ofOpt_some, Out.bind_ok]
  refine for_Ret S h ?_
  intro pre x post s hx hS
  obtain ⟨s3, e3, h3⟩ := k pre x post s hx hS
  rw [e3, Out.ofOpt_some, Out.bind_ok]
  exact h3
theorem forr_RetQ {Γ : Cx} {tg : TG} {sk : SK} {src : List CE} {b : List CS} {s : St} {α : Type} {e : α → PV} {xs : List α} {vs : List PV} {s1 : St} (hv : evalVs Γ src s = .ok vs s1) (hi : items sk vs = some (xs.map e)) (S : List α → St → Prop) (Q : Fl → St → Prop) (h : S [] s1) (hq : ∀ s', S xs s' → Q .nx s')
    (k : ∀ (pre : List α) (x : α) (post : List α) (s : St), xs = pre ++ x :: post → S pre s → ∃ s3, bindT tg (e x) s = some s3 ∧ Ret (execs Γ b s3) fun f s' => (f = .nx ∧ S (pre ++ [x]) s') ∨ (∃ r, f = .ret r ∧ Q f s')) : Ret (exec Γ (.forr tg sk src b) s) Q := by
  rw [q_for, hv, Out.bind_ok, hi, Out.ofOpt_some, Out.bind_ok]
  refine for_RetQ S Q h hq ?_
  intro pre x post s hx hS
  obtain ⟨s3, e3, h3⟩ := k pre x post s hx hS
  rw [e3, Out.ofOpt_some, Out.bind_ok]
  exact h3
end Ev
end
section
set_option Elab.async false
set_option linter.all false
set_option autoImplicit false
set_option maxRecDepth 100000
set_option maxHeartbeats 1000000
namespace R
open Ev
inductive Cond where
  | yes
  | is (n v : Txt)
  | frm (n : Txt) (lo hi : Int)
  | nt (c : Cond)
  | an (a b : Cond)
  | or (a b : Cond)
def Cond.e : Cond → PV
  | .yes => .tup [.str [121, 101, 115]]
  | .is n v => .tup [.str [105, 115], .str n, .str v]
  | .frm n lo hi => .tup [.str [102, 114, 111, 109], .str n, .int lo, .int hi]
  | .nt c => .tup [.str [110, 111, 116], c.e]
  | .an a b => .tup [.str [97, 110, 100], a.e, b.e]
  | .or a b => .tup [.str [111, 114], a.e, b.e]
def Cond.dp : Cond → Nat
  | .nt c => c.dp + 1
  | .an a b => max a.dp b.dp + 1
  | .or a b => max a.dp b.dp + 1
  | _ => 0
inductive Val where
  | s (t : Txt)
  | i (z : Int)
  deriving DecidableEq
def Val.e : Val → PV
  | .s t => .str t
  | .i z => .int z
abbrev World := List (Txt × Val)
def wks (w : World) : List PV := w.map fun p => .str p.1
def wvs (w : World) : List PV := w.map fun p => p.2.e
def we (w : World) : PV := .dic (wks w) (wvs w)
def look : World → Txt → Option Val
  | [], _ => none
  | p :: w, n => if p.1 == n then some p.2 else look w n
def sat (w : World) : Cond → Bool
  | .yes => true
  | .is n v => match look w n with
    | some (.s t) => t == v
    | _ => false
  | .frm n lo hi => match look w n with
    | some (.i z) => decide (lo ≤ z) && decide (z ≤ hi)
    | _ => false
  | .nt c => !sat w c
  | .an a b => sat w a && sat w b
  | .or a b => sat w a || sat w b
/-- the names that a condition tells are there, with values of the right kind -/
def okC (w : World) : Cond → Prop
  | .yes => True
  | .is n _ => ∃ t, look w n = some t
  | .frm n _ _ => ∃ z, look w n = some (.i z)
  | .nt c => okC w c
  | .an a b => okC w a ∧ okC w b
  | .or a b => okC w a ∧ okC w b
@[simp] theorem eqv_s (a b : Txt) : eqv (.str a) (.str b) = (a == b) := by rw [eqv]
@[simp] theorem eqv_i (a b : Int) : eqv (.int a) (.int b) = (a == b) := by rw [eqv]
theorem look_K (w : World) (n : Txt) : lookK (wks w) (wvs w) (.str n) = (look w n).map Val.e := by
  induction w with
  | nil => rfl
  | cons p w ih =>
    have e : lookK (wks (p :: w)) (wvs (p :: w)) (.str n) = if eqv (.str p.1) (.str n) then some p.2.e else lookK (wks w) (wvs w) (.str n) := rfl
    rw [e, ih, eqv_s, look]
    by_cases h : (p.1 == n) = true
    · rw [if_pos h, if_pos h]; rfl
    · rw [if_neg h, if_neg h]
theorem ixAt_nat {n k : Nat} (h : k < n) : ixAt n (k : Int) = some k := by
  unfold ixAt
  rw [if_pos (Int.natCast_nonneg k), if_pos (by omega)]
  rfl
theorem ixT {xs : List PV} {k : Nat} (h : k < xs.length) : sIx [.tup xs, .int (k : Int)] = some xs[k] := by
  simp [sIx, ixAt_nat h]
theorem ixL {xs : List PV} {k : Nat} (h : k < xs.length) : sIx [.lst xs, .int (k : Int)] = some xs[k] := by
  simp [sIx, ixAt_nat h]
@[simp] theorem ix1 (a : PV) (r : List PV) : sIx [.tup (a :: r), .int 0] = some a := ixT (k := 0) (by simp)
@[simp] theorem ix2 (a b : PV) (r : List PV) : sIx [.tup (a :: b :: r), .int 1] = some b := ixT (k := 1) (by simp)
@[simp] theorem ix3 (a b c : PV) (r : List PV) : sIx [.tup (a :: b :: c :: r), .int 2] = some c := ixT (k := 2) (by simp)
@[simp] theorem ix4 (a b c d : PV) (r : List PV) : sIx [.tup (a :: b :: c :: d :: r), .int 3] = some d := ixT (k := 3) (by simp)
@[simp] theorem ix5 (a b c d e : PV) (r : List PV) : sIx [.tup (a :: b :: c :: d :: e :: r), .int 4] = some e := ixT (k := 4) (by simp)
@[simp] theorem ixl1 (a : PV) (r : List PV) : sIx [.lst (a :: r), .int 0] = some a := ixL (k := 0) (by simp)
@[simp] theorem ixl2 (a b : PV) (r : List PV) : sIx [.lst (a :: b :: r), .int 1] = some b := ixL (k := 1) (by simp)
@[simp] theorem seqS (a b : Txt) : sEq [.str a, .str b] = some (.bl (a == b)) := by simp [sEq, eqOk, plain, depth, eqv]
@[simp] theorem sneS (a b : Txt) : sNe [.str a, .str b] = some (.bl !(a == b)) := by simp [sNe, eqOk, plain, depth, eqv]
@[simp] theorem seqI (a b : Int) : sEq [.int a, .int b] = some (.bl (a == b)) := by simp [sEq, eqOk, plain, depth, eqv]
@[simp] theorem slt_I (a b : Int) : sLt [.int a, .int b] = some (.bl (decide (a < b))) := rfl
@[simp] theorem sle_I (a b : Int) : sLe [.int a, .int b] = some (.bl (decide (a ≤ b))) := rfl
@[simp] theorem sgt_I (a b : Int) : sGt [.int a, .int b] = some (.bl (decide (b < a))) := rfl
@[simp] theorem sge_I (a b : Int) : sGe [.int a, .int b] = some (.bl (decide (b ≤ a))) := rfl
@[simp] theorem sadd_I (a b : Int) : sAdd [.int a, .int b] = some (.int (a + b)) := rfl
@[simp] theorem ssub_I (a b : Int) : sSub [.int a, .int b] = some (.int (a - b)) := rfl
@[simp] theorem snot_b (a : Bool) : sNot [.bl a] = some (.bl !a) := rfl
@[simp] theorem ixW (w : World) (n : Txt) : sIx [we w, .str n] = (look w n).map Val.e := by
  show (if keyOk (.str n) then lookK (wks w) (wvs w) (.str n) else none) = _
  rw [look_K]; rfl
variable {P : List Fn} {gl : List PV} {T : Nat} {ix : Nm → Nat}
theorem run_of (nm : Nm) [h : Has P ix nm] (n : Nat) (args : List PV) : callN P gl T (n + 1) (ix nm) args = runF ⟨callN P gl T n, fun j => gl[j]?, T⟩ (cd ix nm) args := callN_of h.h n args
section
variable [Has P ix .is_so]
theorem is_so_ok (w : World) : ∀ (c : Cond) (n : Nat), okC w c → c.dp < n → callN P gl T n (ix .is_so) [we w, c.e] = some (.val (.bl (sat w c)))
  | .yes, n + 1, _, _ => by
    rw [run_of]
    simp [cd, c_is_so, runF, Cond.e, sat, evalF, evalR, mark, freshE, freshB, fresh, sem, St.freeze, Out.ofOpt]
  | .is a v, n + 1, h, _ => by
    obtain ⟨t, h⟩ := h
    rw [run_of]
    cases t <;> simp [cd, c_is_so, runF, Cond.e, sat, evalF, evalR, mark, freshE, freshB, fresh, sem, St.freeze, Out.ofOpt, h, Val.e, calms, calm]
    simp [sEq, eqOk, plain, depth, eqv]
  | .frm a lo hi, n + 1, h, _ => by
    obtain ⟨z, h⟩ := h
    rw [run_of]
    by_cases h1 : lo ≤ z <;> simp [cd, c_is_so, runF, Cond.e, sat, evalF, evalR, mark, freshE, freshB, fresh, sem, St.freeze, Out.ofOpt, h, h1, Val.e, calms, calm]
  | .nt c, n + 1, h, hn => by
    have ih := is_so_ok w c n h (by simp only [Cond.dp] at hn; omega)
    rw [run_of]
    simp [cd, c_is_so, runF, Cond.e, sat, evalF, evalR, mark, freshE, freshB, fresh, sem, St.freeze, Out.ofOpt, ih, scalar]
  | .an a b, n + 1, h, hn => by
    have i1 := is_so_ok w a n h.1 (by simp only [Cond.dp] at hn; omega)
    have i2 := is_so_ok w b n h.2 (by simp only [Cond.dp] at hn; omega)
    rw [run_of]
    cases e : sat w a <;> simp [cd, c_is_so, runF, Cond.e, sat, evalF, evalR, mark, freshE, freshB, fresh, sem, St.freeze, Out.ofOpt, i1, i2, scalar, e]
  | .or a b, n + 1, h, hn => by
    have i1 := is_so_ok w a n h.1 (by simp only [Cond.dp] at hn; omega)
    have i2 := is_so_ok w b n h.2 (by simp only [Cond.dp] at hn; omega)
    rw [run_of]
    cases e : sat w a <;> simp [cd, c_is_so, runF, Cond.e, sat, evalF, evalR, mark, freshE, freshB, fresh, sem, St.freeze, Out.ofOpt, i1, i2, scalar, e]
end
end R
end
section
set_option Elab.async false
set_option linter.all false
set_option autoImplicit false
set_option maxRecDepth 100000
set_option maxHeartbeats 1000000
namespace Ev
theorem loopL_mapT {α : Type} {e : α → PV} {body : PV → St → Out (Option PV)} {s : St} {g : α → Option PV} {xs : List α} (h : ∀ x ∈ xs, body (e x) s = .ok (g x) s) : loopL body (xs.map e) s = .ok (xs.filterMap g) s := by
  induction xs with
  | nil => rfl
  | cons x xs ih =>
    rw [List.map_cons, loopL, h x List.mem_cons_self]
    simp only [Out.bind]
    rw [ih fun y hy => h y (List.mem_cons_of_mem _ hy)]
    simp only [List.filterMap_cons]
    cases g x <;> rfl
theorem plains_of {xs : List PV} (h : ∀ x ∈ xs, plain x = true) : plains xs = true := by
  induction xs with
  | nil => rfl
  | cons x xs ih => rw [plains, h x List.mem_cons_self, ih fun y hy => h y (List.mem_cons_of_mem _ hy)]; rfl
theorem mem_plains {xs : List PV} (h : plains xs = true) : ∀ x ∈ xs, plain x = true := by
  induction xs with
  | nil => intro x hx; cases hx
  | cons x xs ih =>
    rw [plains, Bool.and_eq_true] at h
    intro y hy
    rcases List.mem_cons.mp hy with rfl | hy
    · exact h.1
    · exact ih h.2 y hy
theorem sNe_nilL {xs : List PV} (h : plains xs = true) : sNe [.lst xs, .lst []] = some (.bl !xs.isEmpty) := by
  have : eqOk (.lst xs) (.lst []) = true := by simp [eqOk, plain, h, plains, depth, depths]
  simp only [sNe, this, if_true]
  cases xs <;> simp [eqv, eqvs]
@[simp] theorem sNe_nil0 : sNe [.lst [], .lst []] = some (.bl false) := by rw [sNe_nilL rfl]; rfl
theorem sEq_nilL {xs : List PV} (h : plains xs = true) : sEq [.lst xs, .lst []] = some (.bl xs.isEmpty) := by
  have : eqOk (.lst xs) (.lst []) = true := by simp [eqOk, plain, h, plains, depth, depths]
  simp only [sEq, this, if_true]
  cases xs <;> simp [eqv, eqvs]
theorem sNe_nilT {xs : List PV} (h : plains xs = true) : sNe [.tup xs, .tup []] = some (.bl !xs.isEmpty) := by
  have : eqOk (.tup xs) (.tup []) = true := by simp [eqOk, plain, h, plains, depth, depths]
  simp only [sNe, this, if_true]
  cases xs <;> simp [eqv, eqvs]
theorem sEq_nilT {xs : List PV} (h : plains xs = true) : sEq [.tup xs, .tup []] = some (.bl xs.isEmpty) := by
  have : eqOk (.tup xs) (.tup []) = true := by simp [eqOk, plain, h, plains, depth, depths]
  simp only [sEq, this, if_true]
  cases xs <;> simp [eqv, eqvs]
theorem sAdd_T {xs ys : List PV} (h : xs.length + ys.length ≤ 16777216) : sAdd [.tup xs, .tup ys] = some (.tup (xs ++ ys)) := by
  have h' : xs.length + ys.length ≤ sizeTop := h
  simp only [sAdd, if_pos h']
theorem sAdd_L {xs ys : List PV} (h : xs.length + ys.length ≤ 16777216) : sAdd [.lst xs, .lst ys] = some (.lst (xs ++ ys)) := by
  have h' : xs.length + ys.length ≤ sizeTop := h
  simp only [sAdd, if_pos h']
theorem app_ok {xs : List PV} {v : PV} (h : xs.length < 16777216) : semMut .append (.lst xs) [v] = some (.non, .lst (xs ++ [v])) := by
  have h' : xs.length < sizeTop := h
  simp only [semMut, if_pos h']
end Ev
namespace R
open Ev
structure Mk where
  n : Txt
  rows : List (Cond × Txt)
  rest : Txt
inductive Kind where
  | ch (vs : List Txt)
  | nu (lo hi : Int)
def Kind.e : Kind → PV
  | .ch vs => .tup [.str [99, 104, 111, 105, 99, 101], .tup (vs.map .str)]
  | .nu lo hi => .tup [.str [110, 117, 109, 98, 101, 114], .int lo, .int hi]
abbrev Facts := List (Txt × Kind)
def fact1 (p : Txt × Kind) : PV := .tup [.str p.1, p.2.e]
def fe (F : Facts) : PV := .tup (F.map fact1)
def row1 (p : Cond × Txt) : PV := .tup [p.1.e, .str p.2]
def Mk.e (m : Mk) : PV := .tup [.str m.n, .tup (m.rows.map row1), .str m.rest]
def me (M : List Mk) : PV := .tup (M.map Mk.e)
def cse (c : List Val) : PV := .tup (c.map Val.e)
def has (w : World) (n : Txt) : Bool := w.any fun p => p.1 == n
def putW (w : World) (n : Txt) (v : Val) : World := if has w n then w.map (fun p => if p.1 == n then (p.1, v) else p) else w ++ [(n, v)]
theorem putW_len (w : World) (n : Txt) (v : Val) : (putW w n v).length ≤ w.length + 1 := by
  unfold putW; split <;> simp
theorem putV_map (w : World) (n : Txt) (v : Val) : putV (wks w) (wvs w) (.str n) v.e = wvs (w.map (fun p => if p.1 == n then (p.1, v) else p)) := by
  induction w with
  | nil => rfl
  | cons p w ih =>
    have e : putV (wks (p :: w)) (wvs (p :: w)) (.str n) v.e = (if eqv (.str p.1) (.str n) then v.e else p.2.e) :: putV (wks w) (wvs w) (.str n) v.e := rfl
    rw [e, ih, eqv_s]
    by_cases h : (p.1 == n) = true
    · rw [if_pos h]; simp only [List.map_cons, h, if_true, wvs]
    · rw [if_neg h]; simp only [List.map_cons, h, wvs]; rfl
theorem hasK_w (w : World) (n : Txt) : hasK (wks w) (.str n) = has w n := by
  unfold hasK has wks
  rw [List.any_map]
  congr 1
theorem putK_w (w : World) (n : Txt) (v : Val) : putK (wks w) (wvs w) (.str n) v.e = (wks (putW w n v), wvs (putW w n v)) := by
  unfold putK putW
  rw [hasK_w]
  by_cases h : has w n = true
  · rw [if_pos h, if_pos h, putV_map]
    have : wks (w.map (fun p => if p.1 == n then (p.1, v) else p)) = wks w := by
      unfold wks
      rw [List.map_map]
      apply List.map_congr_left
      intro p _
      show PV.str (if p.1 == n then (p.1, v) else p).1 = _
      split <;> rfl
    rw [this]
  · rw [if_neg h, if_neg h]
    simp [wks, wvs]
def worldF (F : Facts) (c : List Val) : World := (F.zip c).foldl (fun w p => putW w p.1.1 p.2) []
def markVal (w : World) (m : Mk) : Txt := ((m.rows.filter fun r => sat w r.1).map (·.2)).headD m.rest
def worldM : World → List Mk → World
  | w, [] => w
  | w, m :: M => worldM (putW w m.n (.s (markVal w m))) M
def world (F : Facts) (M : List Mk) (c : List Val) : World := worldM (worldF F c) M
def okM : World → List Mk → Prop
  | _, [] => True
  | w, m :: M => (∀ r ∈ m.rows, okC w r.1) ∧ okM (putW w m.n (.s (markVal w m))) M
def dpR (rows : List (Cond × Txt)) (d : Nat) : Prop := ∀ r ∈ rows, r.1.dp < d
theorem zip_map2 {α β γ δ : Type} (f : α → γ) (g : β → δ) : ∀ (xs : List α) (ys : List β), (xs.map f).zip (ys.map g) = (xs.zip ys).map fun p => (f p.1, g p.2)
  | [], _ => rfl
  | _ :: _, [] => rfl
  | x :: xs, y :: ys => by simp only [List.map_cons, List.zip_cons_cons, zip_map2 f g xs ys]
theorem loopD_w {α : Type} {e : α → PV} {k : α → Txt} {v : α → Val} {body : PV → St → Out (Option (PV × PV))} {s : St} : ∀ {xs : List α} {w : World}, (∀ x ∈ xs, body (e x) s = .ok (some (.str (k x), (v x).e)) s) → loopD body (xs.map e) (wks w) (wvs w) s = .ok (wks (xs.foldl (fun w x => putW w (k x) (v x)) w), wvs (xs.foldl (fun w x => putW w (k x) (v x)) w)) s
  | [], _, _ => rfl
  | x :: xs, w, h => by
    rw [List.map_cons, loopD, h x List.mem_cons_self]
    simp only [Out.bind, keyOk, if_true, putK_w]
    rw [loopD_w fun y hy => h y (List.mem_cons_of_mem _ hy)]
    rfl
theorem loopD_w0 {α : Type} {e : α → PV} {k : α → Txt} {v : α → Val} {body : PV → St → Out (Option (PV × PV))} {s : St} {xs : List α} (h : ∀ x ∈ xs, body (e x) s = .ok (some (.str (k x), (v x).e)) s) : loopD body (xs.map e) [] [] s = .ok (wks (xs.foldl (fun w x => putW w (k x) (v x)) []), wvs (xs.foldl (fun w x => putW w (k x) (v x)) [])) s := loopD_w (w := []) h
theorem foldW_len {α : Type} {k : α → Txt} {v : α → Val} : ∀ (l : List α) (w : World), (l.foldl (fun w x => putW w (k x) (v x)) w).length ≤ w.length + l.length
  | [], _ => by simp
  | q :: l, w => by
    rw [List.foldl_cons]
    have h1 := putW_len w (k q) (v q)
    have h2 := foldW_len (k := k) (v := v) l (putW w (k q) (v q))
    rw [List.length_cons]; omega
theorem sel_ok (rows : List (Cond × Txt)) (w : World) : (rows.filterMap fun r => if sat w r.1 then some (PV.str r.2) else none) = ((rows.filter fun r => sat w r.1).map (·.2)).map PV.str := by
  induction rows with
  | nil => rfl
  | cons r rows ih => rw [List.filterMap_cons, List.filter_cons]; cases h : sat w r.1 <;> simp [ih]
variable {P : List Fn} {gl : List PV} {T : Nat} {ix : Nm → Nat}
def woB (ix : Nm → Nat) : List CS := [(.asgO 9 (.comp [10, 6] (.var 6) (.tp [(.nm 10), (.nm 6)]) .seq [(.var 7)] [(.callL (ix .is_so) 3 [(.var 10)])])), (.setI 3 (.var 4) (.ife (.bi .ne [(.var 9), (.lst [])]) (.bi .ix [(.var 9), (.lit (.int (0)))]) (.var 8)))]
theorem head_ix : ∀ (xs : List Txt) (d : Txt), xs ≠ [] → sIx [.lst (xs.map PV.str), .int 0] = some (.str (xs.headD d))
  | [], _, h => absurd rfl h
  | a :: r, _, _ => by rw [List.map_cons, ixl1]; rfl
def woS (x0 x1 x2 : Option SV) (w : World) (s : St) : Prop := ∃ x4 x5 x6 x7 x8 x9 x10, s = ⟨[x0, x1, x2, some (.own (we w)), x4, x5, x6, x7, x8, x9, x10], []⟩
theorem markVal_nil {w : World} {m : Mk} (h : ((m.rows.filter fun r => sat w r.1).map (·.2)) = []) : markVal w m = m.rest := by unfold markVal; rw [h]; rfl
theorem wo_turn {Γ : Cx} {m : Mk} {w : World} {x0 x1 x2 : Option SV} {s : St} (hs : woS x0 x1 x2 w s) (hl : w.length ≤ 3000) (hr : m.rows.length ≤ 1000)
    (hc : ∀ r ∈ m.rows, Γ.call (ix .is_so) [we w, r.1.e] = some (.val (.bl (sat w r.1)))) :
      ∃ s3, bindT (.tp [(.nm 4), (.nm 7), (.nm 8)]) m.e s = some s3 ∧ Ret (execs Γ (woB ix) s3) fun f s' => f = .nx ∧ woS x0 x1 x2 (putW w m.n (.s (markVal w m))) s' := by
  obtain ⟨x4, x5, x6, x7, x8, x9, x10, rfl⟩ := hs
  have hpl : plains (((m.rows.filter fun r => sat w r.1).map (·.2)).map PV.str) = true := plains_of fun x hx => by
    obtain ⟨y, _, rfl⟩ := List.mem_map.mp hx; rfl
  have hks : (wks w).length < sizeTop := by unfold wks sizeTop; rw [List.length_map]; omega
  have hrl' : m.rows.length ≤ sizeTop := by unfold sizeTop; omega
  have hput := putK_w w m.n (.s (markVal w m))
  have hsi : semMut .setItem (we w) [.str m.n, .str (markVal w m)] = some (.non, we (putW w m.n (.s (markVal w m)))) := by
    show (if keyOk (.str m.n) && decide ((wks w).length < sizeTop) then some (PV.non, PV.dic (putK (wks w) (wvs w) (.str m.n) (.str (markVal w m))).1 (putK (wks w) (wvs w) (.str m.n) (.str (markVal w m))).2) else none) = _
    have : putK (wks w) (wvs w) (.str m.n) (.str (markVal w m)) = _ := hput
    rw [this, decide_eq_true hks]; rfl
  refine ⟨_, rfl, ?_⟩
  simp [Mk.e, woB, q_comp, evalF, calms, calm, items, St.freeze, hrl', mark, freshE, freshB, fresh, isBox]
  rw [loopL_mapT (g := fun r : Cond × Txt => if sat w r.1 then some (PV.str r.2) else none)]
  · rw [sel_ok]
    simp only [markVal] at hsi ⊢
    generalize ((m.rows.filter fun r => sat w r.1).map (·.2)) = l at hsi hpl ⊢
    cases l with
    | nil =>
      simp at hsi ⊢
      simp [hsi, woS, sem]
    | cons a l =>
      simp at hsi hpl ⊢
      simp [hsi, hpl, woS, sem, sNe_nilL, St.freeze]
  · intro r hr
    have := hc r hr
    cases e : sat w r.1 <;> simp [row1, this, scalar, St.freeze, e]
section
variable [Has P ix .is_so] [Has P ix .world_of]
theorem world_of_ok (F : Facts) (M : List Mk) (c : List Val) (n d : Nat) (hF : F.length ≤ 1000) (hM : M.length ≤ 1000) (hr : ∀ m ∈ M, m.rows.length ≤ 1000 ∧ dpR m.rows d) (ok : okM (worldF F c) M) (hn : d ≤ n) :
    callN P gl T (n + 1) (ix .world_of) [fe F, me M, cse c] = some (.own (we (world F M c))) := by
  rw [run_of]
  have hz : items .zip [fe F, cse c] = some ((F.zip c).map fun p => PV.tup [fact1 p.1, p.2.e]) := by
    unfold fe cse
    simp only [items]
    rw [zip_map2, List.map_map]; rfl
  have hlen : (worldF F c).length ≤ 1000 := by
    have := foldW_len (k := fun p : (Txt × Kind) × Val => p.1.1) (v := fun p => p.2) (F.zip c) []
    unfold worldF
    rw [List.length_zip, List.length_nil] at this
    omega
  have hzl : min F.length c.length ≤ sizeTop := by unfold sizeTop; omega
  refine run_Ret rfl ?_
  simp [cd, c_world_of, evalF, q_dcomp, calms, calm, hz, hzl, St.freeze]
  rw [loopD_w0 (e := fun p : (Txt × Kind) × Val => PV.tup [fact1 p.1, p.2.e]) (k := fun p => p.1.1) (v := fun p => p.2) (xs := F.zip c)]
  · simp [mark, freshE]
    refine Ret_bind (forr_Ret (e := Mk.e) (xs := M) rfl rfl (fun pre s => ∃ w, woS (some (.val (fe F))) (some (.val (me M))) (some (.val (cse c))) w s ∧ w.length ≤ 1000 + pre.length ∧ ∀ post, M = pre ++ post → okM w post ∧ worldM w post = world F M c) ?_ ?_) ?_
    · exact ⟨_, ⟨_, _, _, _, _, _, _, rfl⟩, hlen, fun post h => ⟨by rw [← show M = post from h]; exact ok, by rw [← show M = post from h]; rfl⟩⟩
    · rintro pre m post s hM' ⟨w, hw, hl, h⟩
      have hmem : m ∈ M := by rw [hM']; simp
      obtain ⟨k1, k2⟩ := h (m :: post) hM'
      obtain ⟨r1, r2⟩ := hr m hmem
      have hpl : pre.length ≤ 1000 := by
        have : M.length = pre.length + (post.length + 1) := by rw [hM']; simp
        omega
      obtain ⟨s3, e3, h3⟩ := wo_turn (ix := ix) (Γ := ⟨callN P gl T n, fun j => gl[j]?, T⟩) hw (by omega) r1 fun r hr' => is_so_ok w r.1 n (k1.1 r hr') (by have := r2 r hr'; omega)
      refine ⟨s3, e3, Ret_mono h3 ?_⟩
      rintro f s ⟨rfl, hs⟩
      refine ⟨rfl, _, hs, ?_, ?_⟩
      · have := putW_len w m.n (.s (markVal w m)); rw [List.length_append, List.length_singleton]; omega
      · intro post' e
        have : post = post' := by
          rw [hM', List.append_assoc] at e
          have := List.append_cancel_left e
          simpa using this
        rw [← this]
        exact ⟨k1.2, k2⟩
    · rintro f s ⟨rfl, w, ⟨x4, x5, x6, x7, x8, x9, x10, rfl⟩, _, h⟩
      have := (h [] (by simp)).2
      simp only [worldM] at this
      simp [this]
  · intro p hp
    simp [fact1, St.freeze]
end
end R
end
section
set_option Elab.async false
set_option linter.all false
set_option autoImplicit false
set_option maxRecDepth 100000
set_option maxHeartbeats 1000000
namespace Ev
@[simp] theorem sNe_nilT0 : sNe [.tup [], .tup []] = some (.bl false) := by rw [sNe_nilT rfl]; rfl
theorem Ret_seq {Γ : Cx} {c : CS} {r : List CS} {s : St} {Q : Fl → St → Prop} (Q1 : St → Prop) (h : Ret (exec Γ c s) fun f s' => f = .nx ∧ Q1 s') (k : ∀ s', Q1 s' → Ret (execs Γ r s') Q) : Ret (execs Γ (c :: r) s) Q := by
  obtain ⟨f, s', e, rfl, h⟩ := h
  rw [q_s, e]
  exact k s' h
theorem while_Ret {σ : Type} (m : σ → Nat) (S : σ → St → Prop) {Q : Fl → St → Prop} {test : St → Out Bool} {body : St → Out Fl} (k : ∀ x s, S x s → ∃ b s1, test s = .ok b s1 ∧ (b = false → Q .nx s1) ∧ (b = true → Ret (body s1) fun f s' => f = .nx ∧ ∃ x', m x' < m x ∧ S x' s')) : ∀ (n : Nat) (x : σ) (s : St), m x < n → S x s → Ret (whileN test body n s) Q
  | n + 1, x, s, h, hS => by
    obtain ⟨b, s1, e, h1, h2⟩ := k x s hS
    rw [whileN, e, Out.bind_ok]
    cases b with
    | false => exact ⟨_, _, rfl, h1 rfl⟩
    | true =>
      obtain ⟨f, s2, e2, rfl, x', hm, hS'⟩ := h2 rfl
      rw [if_pos rfl, e2]
      exact while_Ret m S k n x' s2 (by omega) hS'
theorem whl_Ret {Γ : Cx} {c : CE} {b : List CS} {s : St} {Q : Fl → St → Prop} {σ : Type} (m : σ → Nat) (S : σ → St → Prop) (x : σ) (hm : m x < Γ.turns) (hS : S x s)
    (k : ∀ x s, S x s → ∃ b' s1, ((evalE Γ c s).bind fun v s' => truth v s') = .ok b' s1 ∧ (b' = false → Q .nx s1) ∧ (b' = true → Ret (execs Γ b s1) fun f s' => f = .nx ∧ ∃ x', m x' < m x ∧ S x' s')) : Ret (exec Γ (.whl c b) s) Q := by
  rw [q_whl]
  exact while_Ret m S k _ x s hm hS
end Ev
namespace R
open Ev
inductive Tree where
  | nil
  | node (c : Cond) (own : Txt) (inn oth : Tree)
def Tree.e : Tree → PV
  | .nil => .tup []
  | .node c own inn oth => .tup [c.e, .str own, inn.e, oth.e]
def Tree.dp : Tree → Nat
  | .nil => 0
  | .node _ _ a b => max a.dp b.dp + 1
structure Book where
  F : Facts
  M : List Mk
  A : List Txt
  first : Txt
  t : Tree
def strE (A : List Txt) : PV := .tup (A.map .str)
def Book.e (b : Book) : PV := .tup [fe b.F, me b.M, strE b.A, .str b.first, b.t.e]
/-- conditions of the tree: depth, names -/
def Tree.ok (w : World) : Tree → Prop
  | .nil => True
  | .node c _ a b => okC w c ∧ a.ok w ∧ b.ok w
def Tree.cdp (d : Nat) : Tree → Prop
  | .nil => True
  | .node c _ a b => c.dp < d ∧ a.cdp d ∧ b.cdp d
theorem plain_cond : ∀ c : Cond, plain c.e = true
  | .yes => rfl
  | .is _ _ => rfl
  | .frm _ _ _ => rfl
  | .nt c => by simp [Cond.e, plain, plains, plain_cond c]
  | .an a b => by simp [Cond.e, plain, plains, plain_cond a, plain_cond b]
  | .or a b => by simp [Cond.e, plain, plains, plain_cond a, plain_cond b]
theorem plain_tree : ∀ t : Tree, plain t.e = true
  | .nil => rfl
  | .node c o a b => by simp [Tree.e, plain, plains, plain_cond c, plain_tree a, plain_tree b]
theorem tree_ne (t : Tree) : sNe [t.e, .tup []] = some (.bl (match t with | .nil => false | _ => true)) := by
  cases t with
  | nil => simp only [Tree.e]; rw [sNe_nilT rfl]; rfl
  | node c o a b =>
    have h := plain_tree (.node c o a b)
    simp only [Tree.e, plain] at h ⊢
    rw [sNe_nilT h]; rfl
theorem tree_eq (t : Tree) : sEq [t.e, .tup []] = some (.bl (match t with | .nil => true | _ => false)) := by
  cases t with
  | nil => simp only [Tree.e]; rw [sEq_nilT rfl]; rfl
  | node c o a b =>
    have h := plain_tree (.node c o a b)
    simp only [Tree.e, plain] at h ⊢
    rw [sEq_nilT h]; rfl
def plc (p : List Int) : PV := .tup (p.map .int)
def way1 (r : List Int × Bool) : PV := .tup [plc r.1, .bl r.2]
/-- where a case goes: the advice, the place of the end, the way -/
def go (w : World) : Tree → Txt → List Int → List (List Int × Bool) → Txt × List Int × List (List Int × Bool)
  | .nil, f, p, r => (f, p, r)
  | .node c own a b, f, p, r => if sat w c then go w a own (p ++ [0]) (r ++ [(p, true)]) else go w b f (p ++ [1]) (r ++ [(p, false)])
def goneR (b : Book) (c : List Val) : Txt × List Int × List (List Int × Bool) := go (world b.F b.M c) b.t b.first [] []
def goneV (r : Txt × List Int × List (List Int × Bool)) : PV := .tup [.str r.1, plc r.2.1, .lst (r.2.2.map way1)]
def adv (b : Book) (c : List Val) : Txt := (goneR b c).1
/-- what a run over a book and a case leans on -/
structure OkB (b : Book) (c : List Val) (d : Nat) : Prop where
  hF : b.F.length ≤ 1000
  hM : b.M.length ≤ 1000
  hr : ∀ m ∈ b.M, m.rows.length ≤ 1000 ∧ dpR m.rows d
  m : okM (worldF b.F c) b.M
  t : b.t.ok (world b.F b.M c)
  cd : b.t.cdp d
  td : b.t.dp ≤ 100
variable {P : List Fn} {gl : List PV} {T : Nat} {ix : Nm → Nat}
def goB (ix : Nm → Nat) : List CS := [(.asgT (.tp [(.nm 10), (.nm 11), (.nm 12), (.nm 13)]) (.var 6)), (.asgO 14 (.callL (ix .is_so) 7 [(.var 10)])), (.ex (.mut .append 9 [(.tup [(.var 8), (.var 14)])])), (.ife (.var 14) [(.par [5, 6, 8] [(.var 11), (.var 12), (.bi .add [(.var 8), (.tup [(.lit (.int (0)))])])])] [(.par [6, 8] [(.var 13), (.bi .add [(.var 8), (.tup [(.lit (.int (1)))])])])])]
def goS (x0 x1 x2 x3 x4 : Option SV) (w : World) (d : Nat) (R : Txt × List Int × List (List Int × Bool)) (q : Tree × Txt × List Int × List (List Int × Bool)) (s : St) : Prop :=
  q.1.ok w ∧ q.1.cdp d ∧ q.2.2.1.length + q.1.dp ≤ 1000 ∧ q.2.2.2.length + q.1.dp ≤ 1000 ∧ go w q.1 q.2.1 q.2.2.1 q.2.2.2 = R ∧ ∃ x10 x11 x12 x13 x14, s = ⟨[x0, x1, x2, x3, x4, some (.val (.str q.2.1)), some (.val q.1.e), some (.own (we w)), some (.val (plc q.2.2.1)), some (.own (.lst (q.2.2.2.map way1))), x10, x11, x12, x13, x14], []⟩
def goP (x0 x1 x2 x3 x4 : Option SV) (w : World) (d : Nat) (R : Txt × List Int × List (List Int × Bool)) (k : Nat) (fl : Fl) (s' : St) : Prop := fl = .nx ∧ ∃ x' : Tree × Txt × List Int × List (List Int × Bool), x'.1.dp < k ∧ goS x0 x1 x2 x3 x4 w d R x' s'
theorem go_turn {Γ : Cx} {w : World} {d : Nat} (hc : ∀ c : Cond, okC w c → c.dp < d → Γ.call (ix .is_so) [we w, c.e] = some (.val (.bl (sat w c)))) {x0 x1 x2 x3 x4 : Option SV} {R : Txt × List Int × List (List Int × Bool)} {c : Cond} {o : Txt} {a b : Tree} {f : Txt} {p : List Int} {r : List (List Int × Bool)} {s : St}
    (h : goS x0 x1 x2 x3 x4 w d R (.node c o a b, f, p, r) s) : Ret (execs Γ (goB ix) s) (goP x0 x1 x2 x3 x4 w d R (Tree.node c o a b).dp) := by
  obtain ⟨h1, h2, h4, h5, h6, x10, x11, x12, x13, x14, rfl⟩ := h
  simp only [Tree.dp] at h4 h5
  have e := hc c h1.1 h2.1
  have hap : ∀ v, semMut .append (.lst (r.map way1)) [v] = some (.non, .lst (r.map way1 ++ [v])) := fun v => app_ok (by rw [List.length_map]; omega)
  have hpa : ∀ z : Int, sAdd [plc p, .tup [.int z]] = some (plc (p ++ [z])) := fun z => by
    unfold plc
    rw [sAdd_T (by rw [List.length_map]; show p.length + 1 ≤ _; omega), List.map_append]; rfl
  cases hs : sat w c
  · simp [sem, calms, calm, St.freeze, goB, Tree.e, e, hs, scalar, evalF, mark, freshE, kindM, hap, hpa]
    rw [go, hs] at h6
    refine ⟨rfl, (b, f, p ++ [1], r ++ [(p, false)]), by simp only [Tree.dp]; omega, h1.2.2, h2.2.2, by simp; omega, by simp; omega, h6, by simp [way1]⟩
  · simp [sem, calms, calm, St.freeze, goB, Tree.e, e, hs, scalar, evalF, mark, freshE, kindM, hap, hpa]
    rw [go, hs] at h6
    refine ⟨rfl, (a, o, p ++ [0], r ++ [(p, true)]), by simp only [Tree.dp]; omega, h1.2.1, h2.2.1, by simp; omega, by simp; omega, h6, by simp [way1]⟩
section
variable [Has P ix .is_so] [Has P ix .world_of] [Has P ix .gone]
theorem gone_ok {b : Book} {c : List Val} {d n : Nat} (h : OkB b c d) (hn : d + 1 ≤ n) (hT : 100 < T) : callN P gl T (n + 1) (ix .gone) [b.e, cse c] = some (.val (goneV (goneR b c))) := by
  obtain ⟨m, rfl⟩ : ∃ m, n = m + 1 := ⟨n - 1, by omega⟩
  have hw := world_of_ok (P := P) (gl := gl) (T := T) (ix := ix) b.F b.M c m d h.hF h.hM h.hr h.m (by omega)
  rw [run_of]
  refine run_Ret rfl ?_
  simp [cd, c_gone, Book.e, evalF, hw, St.freeze, mark, freshE]
  refine Ret_bind (whl_Ret (fun q : Tree × Txt × List Int × List (List Int × Bool) => q.1.dp) (goS (some (.val b.e)) (some (.val (cse c))) (some (.val (fe b.F))) (some (.val (me b.M))) (some (.val (strE b.A))) (world b.F b.M c) d (goneR b c)) (b.t, b.first, [], []) (by have := h.td; show _ < T; simp only; omega) ⟨h.t, h.cd, by have := h.td; simp; omega, by have := h.td; simp; omega, rfl, _, _, _, _, _, rfl⟩
    (Q := fun fl s' => fl = .nx ∧ ∃ x6 x10 x11 x12 x13 x14, s' = ⟨[some (.val b.e), some (.val (cse c)), some (.val (fe b.F)), some (.val (me b.M)), some (.val (strE b.A)), some (.val (.str (goneR b c).1)), x6, some (.own (we (world b.F b.M c))), some (.val (plc (goneR b c).2.1)), some (.own (.lst ((goneR b c).2.2.map way1))), x10, x11, x12, x13, x14], []⟩) ?_) ?_
  · rintro ⟨t, f, p, r⟩ s hS
    cases t with
    | nil =>
      obtain ⟨_, _, _, _, h6, x10, x11, x12, x13, x14, rfl⟩ := hS
      rw [go] at h6
      refine ⟨false, _, by simp [sem, calms, calm, Tree.e]; rfl, fun _ => ⟨rfl, _, _, _, _, _, _, by rw [← h6]⟩, fun h => nomatch h⟩
    | node c' o a b' =>
      have hS' := hS
      obtain ⟨_, _, _, _, h6, x10, x11, x12, x13, x14, rfl⟩ := hS
      refine ⟨true, ⟨[some (.val b.e), some (.val (cse c)), some (.val (fe b.F)), some (.val (me b.M)), some (.val (strE b.A)), some (.val (.str f)), some (.val (Tree.node c' o a b').e), some (.own (we (world b.F b.M c))), some (.val (plc p)), some (.own (.lst (r.map way1))), x10, x11, x12, x13, x14], []⟩, by simp [sem, calms, calm, tree_ne], (fun h => nomatch h), fun _ => ?_⟩
      exact go_turn (ix := ix) (Γ := ⟨callN P gl T (m + 1), fun j => gl[j]?, T⟩) (fun c hc hd => is_so_ok _ c _ hc (by omega)) hS'
  · rintro f s ⟨rfl, x6, x10, x11, x12, x13, x14, rfl⟩
    simp [evalR, evalF, mark, freshE, St.freeze, goneV]
end
section
variable [Has P ix .is_so] [Has P ix .world_of] [Has P ix .gone] [Has P ix .advice]
theorem advice_ok {b : Book} {c : List Val} {d n : Nat} (h : OkB b c d) (hn : d + 2 ≤ n) (hT : 100 < T) : callN P gl T (n + 1) (ix .advice) [b.e, cse c] = some (.val (.str (adv b c))) := by
  obtain ⟨m, rfl⟩ : ∃ m, n = m + 1 := ⟨n - 1, by omega⟩
  have hw := gone_ok (P := P) (gl := gl) (T := T) (ix := ix) (n := m) h (by omega) hT
  rw [run_of]
  refine run_Ret rfl ?_
  simp [cd, c_advice, evalR, evalF, hw, St.freeze, sem, goneV, mark, freshE, freshB, fresh, adv]
end
end R
end
section
set_option Elab.async false
set_option linter.all false
set_option autoImplicit false
set_option maxRecDepth 100000
set_option maxHeartbeats 1000000
namespace Ev
theorem bind_asc {α β γ : Type} (o : Out α) (f : α → St → Out β) (g : β → St → Out γ) : (o.bind f).bind g = o.bind fun a s => (f a s).bind g := by cases o <;> rfl
theorem loopS_flat {α : Type} {e : α → PV} {body : PV → St → Out (List PV)} {s : St} {g : α → List PV} {xs : List α} (h : ∀ x ∈ xs, body (e x) s = .ok (g x) s) : loopS body (xs.map e) s = .ok (xs.flatMap g) s := by
  induction xs with
  | nil => rfl
  | cons x xs ih =>
    rw [List.map_cons, loopS, h x List.mem_cons_self, Out.bind_ok, ih fun y hy => h y (List.mem_cons_of_mem _ hy)]
    rfl
/-- a list comprehension without a test -/
theorem loopL_all {α : Type} {e : α → PV} {body : PV → St → Out (Option PV)} {s : St} {g : α → PV} {xs : List α} (h : ∀ x ∈ xs, body (e x) s = .ok (some (g x)) s) : loopL body (xs.map e) s = .ok (xs.map g) s := by
  rw [loopL_mapT (g := fun x => some (g x)) h]
  congr 1
  clear h
  induction xs with
  | nil => rfl
  | cons x xs ih => rw [List.filterMap_cons, ih]; rfl
end Ev
namespace R
open Ev
def partsOf : Cond → List Cond
  | .nt c => [c]
  | .an a b => [a, b]
  | .or a b => [a, b]
  | _ => []
def cutsIn (nm : Txt) : Cond → List Int
  | .frm n lo hi => if n == nm then [lo, hi + 1] else []
  | .nt c => cutsIn nm c
  | .an a b => cutsIn nm a ++ cutsIn nm b
  | .or a b => cutsIn nm a ++ cutsIn nm b
  | _ => []
def Cond.lv : Cond → Nat
  | .nt c => c.lv
  | .an a b => a.lv + b.lv
  | .or a b => a.lv + b.lv
  | _ => 1
theorem cuts_len (nm : Txt) : ∀ c : Cond, (cutsIn nm c).length ≤ 2 * c.lv
  | .yes => by simp [cutsIn]
  | .is _ _ => by simp [cutsIn]
  | .frm n lo hi => by simp only [cutsIn]; split <;> simp [Cond.lv]
  | .nt c => cuts_len nm c
  | .an a b => by have := cuts_len nm a; have := cuts_len nm b; simp only [cutsIn, Cond.lv, List.length_append]; omega
  | .or a b => by have := cuts_len nm a; have := cuts_len nm b; simp only [cutsIn, Cond.lv, List.length_append]; omega
abbrev Rule := Cond × Txt × Tree × Tree
def Rule.t (r : Rule) : Tree := .node r.1 r.2.1 r.2.2.1 r.2.2.2
def rulesOf : Tree → List (List Int × Rule)
  | .nil => []
  | .node c o a b => ([], (c, o, a, b)) :: ((rulesOf a).map (fun p => (0 :: p.1, p.2)) ++ (rulesOf b).map (fun p => (1 :: p.1, p.2)))
def Tree.sz : Tree → Nat
  | .nil => 0
  | .node _ _ a b => a.sz + b.sz + 1
theorem rules_len : ∀ t : Tree, (rulesOf t).length = t.sz
  | .nil => rfl
  | .node c o a b => by simp [rulesOf, Tree.sz, rules_len a, rules_len b]
theorem place_len : ∀ (t : Tree), ∀ p ∈ rulesOf t, p.1.length ≤ t.sz
  | .nil, p, h => by cases h
  | .node c o a b, p, h => by
    simp only [rulesOf, List.mem_cons, List.mem_append, List.mem_map] at h
    rcases h with rfl | ⟨q, hq, rfl⟩ | ⟨q, hq, rfl⟩
    · simp
    · have := place_len a q hq; simp [Tree.sz]; omega
    · have := place_len b q hq; simp [Tree.sz]; omega
def rul1 (p : List Int × Rule) : PV := .tup [plc p.1, (Rule.t p.2).e]
def condsOf (b : Book) : List Cond := (b.M.flatMap fun m => m.rows.map (·.1)) ++ (rulesOf b.t).map (·.2.1)
variable {P : List Fn} {gl : List PV} {T : Nat} {ix : Nm → Nat}
section
variable [Has P ix .parts_within]
theorem parts_ok (c : Cond) (n : Nat) : ∃ r, callN P gl T (n + 1) (ix .parts_within) [c.e] = some r ∧ r.v = .lst ((partsOf c).map Cond.e) := by
  rw [run_of]
  refine run_RetP rfl ?_
  cases c <;> simp [cd, c_parts_within, Cond.e, sem, calms, calm, St.freeze, partsOf, evalR, evalF, mark, freshE, sInn, plain, plains, depth, mem]
variable [Has P ix .cuts_in]
theorem cuts_ok (nm : Txt) : ∀ (c : Cond) (n : Nat), c.dp + 1 < n → c.lv ≤ 1000 → ∃ r, callN P gl T n (ix .cuts_in) [c.e, .str nm] = some r ∧ r.v = .lst ((cutsIn nm c).map .int) := by
  intro c
  have gen : ∀ (c : Cond) (n : Nat), (∀ d ∈ partsOf c, ∃ r, callN P gl T n (ix .cuts_in) [d.e, .str nm] = some r ∧ r.v = .lst ((cutsIn nm d).map .int)) → 0 < n → c.lv ≤ 1000 → (∀ n lo hi, c ≠ .frm n lo hi) → cutsIn nm c = (partsOf c).flatMap (cutsIn nm) → ∃ r, callN P gl T (n + 1) (ix .cuts_in) [c.e, .str nm] = some r ∧ r.v = .lst ((cutsIn nm c).map .int) := by
    intro c n hp hn hl hf he
    obtain ⟨m, rfl⟩ : ∃ m, n = m + 1 := ⟨n - 1, by omega⟩
    obtain ⟨r0, h0, h1⟩ := parts_ok (P := P) (gl := gl) (T := T) (ix := ix) c m
    have hfr : sIx [c.e, .int 0] = some (.str [102, 114, 111, 109]) → False := by
      intro h; cases c <;> simp [Cond.e] at h; exact hf _ _ _ rfl
    obtain ⟨w, hw⟩ : ∃ w, sIx [c.e, .int 0] = some (.str w) := by cases c <;> exact ⟨_, by simp [Cond.e]; rfl⟩
    have hwf : (w == [102, 114, 111, 109]) = false := by
      rw [beq_eq_false_iff_ne]
      intro h; subst h; exact hfr hw
    have hlen := cuts_len nm c
    rw [run_of]
    refine run_RetP rfl ?_
    simp [cd, c_cuts_in, sem, calms, calm, St.freeze, evalR, evalF, mark, freshE, hw, hwf]
    refine Ret_bind (forr_Ret (e := Cond.e) (xs := partsOf c) (vs := [r0.v]) (s1 := _) (by simp [h0, St.freeze]; rfl) (by rw [h1]; rfl) (fun pre s => ∃ x, s = ⟨[some (.val c.e), some (.val (.str nm)), some (.own (.lst ((pre.flatMap (cutsIn nm)).map .int))), x], []⟩) ⟨_, rfl⟩ ?_) ?_
    · rintro pre x post s hx ⟨y, rfl⟩
      obtain ⟨r, e1, e2⟩ := hp x (by rw [hx]; simp)
      refine ⟨_, rfl, ?_⟩
      have hlen2 : (pre.flatMap (cutsIn nm)).length + (cutsIn nm x).length ≤ 16777216 := by
        have : (cutsIn nm c).length = (pre.flatMap (cutsIn nm)).length + ((cutsIn nm x).length + (post.flatMap (cutsIn nm)).length) := by
          rw [he, hx]; simp
        omega
      have hadd : sAdd [.lst ((pre.flatMap (cutsIn nm)).map .int), .lst ((cutsIn nm x).map .int)] = some (.lst (((pre ++ [x]).flatMap (cutsIn nm)).map .int)) := by
        rw [sAdd_L (by rw [List.length_map, List.length_map]; exact hlen2)]; simp
      simp [evalF, calms, calm, St.freeze, e1, e2, sem, hadd, mark, freshE, freshB, fresh, isBox]
    · rintro f s ⟨rfl, x, rfl⟩
      simp [← he]
  induction c with
  | yes => intro n hn hl; obtain ⟨m, rfl⟩ : ∃ m, n = m + 1 := ⟨n - 1, by omega⟩; exact gen _ m (by simp [partsOf]) (by simp only [Cond.dp] at hn; omega) hl (fun _ _ _ h => nomatch h) rfl
  | is _ _ => intro n hn hl; obtain ⟨m, rfl⟩ : ∃ m, n = m + 1 := ⟨n - 1, by omega⟩; exact gen _ m (by simp [partsOf]) (by simp only [Cond.dp] at hn; omega) hl (fun _ _ _ h => nomatch h) rfl
  | frm n' lo hi =>
    intro n hn hl
    obtain ⟨m, rfl⟩ : ∃ m, n = m + 1 := ⟨n - 1, by omega⟩
    rw [run_of]
    refine run_RetP rfl ?_
    cases h : n' == nm <;> simp [cd, c_cuts_in, Cond.e, sem, calms, calm, St.freeze, cutsIn, evalR, evalF, mark, freshE, h]
  | nt c ih => intro n hn hl; obtain ⟨m, rfl⟩ : ∃ m, n = m + 1 := ⟨n - 1, by omega⟩; simp only [Cond.dp, Cond.lv] at hn hl; exact gen _ m (by intro d hd; simp [partsOf] at hd; subst hd; exact ih m (by omega) hl) (by omega) hl (fun _ _ _ h => nomatch h) (by simp [partsOf, cutsIn])
  | an a b ia ib =>
    intro n hn hl; obtain ⟨m, rfl⟩ : ∃ m, n = m + 1 := ⟨n - 1, by omega⟩; simp only [Cond.dp, Cond.lv] at hn hl
    refine gen _ m ?_ (by omega) (by simp only [Cond.lv]; omega) (fun _ _ _ h => nomatch h) (by simp [partsOf, cutsIn])
    intro d hd; simp [partsOf] at hd
    rcases hd with rfl | rfl
    · exact ia m (by omega) (by omega)
    · exact ib m (by omega) (by omega)
  | or a b ia ib =>
    intro n hn hl; obtain ⟨m, rfl⟩ : ∃ m, n = m + 1 := ⟨n - 1, by omega⟩; simp only [Cond.dp, Cond.lv] at hn hl
    refine gen _ m ?_ (by omega) (by simp only [Cond.lv]; omega) (fun _ _ _ h => nomatch h) (by simp [partsOf, cutsIn])
    intro d hd; simp [partsOf] at hd
    rcases hd with rfl | rfl
    · exact ia m (by omega) (by omega)
    · exact ib m (by omega) (by omega)
end
end R
end
section
set_option Elab.async false
set_option linter.all false
set_option autoImplicit false
set_option maxRecDepth 100000
set_option maxHeartbeats 1000000
namespace R
open Ev
variable {P : List Fn} {gl : List PV} {T : Nat} {ix : Nm → Nat}
def rkids (p : Int × Tree) : List (List Int × Rule) := (rulesOf p.2).map fun q => (p.1 :: q.1, q.2)
theorem rkids_len (p : Int × Tree) : (rkids p).length = p.2.sz := by unfold rkids; rw [List.length_map, rules_len]
section
variable [Has P ix .rules_of]
theorem rules_ok : ∀ (t : Tree) (n : Nat), t.dp < n → t.sz ≤ 1000 → ∃ r, callN P gl T n (ix .rules_of) [t.e] = some r ∧ r.v = .lst ((rulesOf t).map rul1)
  | .nil, n + 1, _, _ => by
    rw [run_of]
    refine run_RetP rfl ?_
    have h := tree_eq .nil
    simp only [Tree.e] at h
    simp [cd, c_rules_of, Tree.e, sem, calms, calm, St.freeze, rulesOf, evalR, evalF, mark, freshE, h]
  | .node c o a b, n + 1, hn, hs => by
    simp only [Tree.dp, Tree.sz] at hn hs
    obtain ⟨ra, ea, va⟩ := rules_ok a n (by omega) (by omega)
    obtain ⟨rb, eb, vb⟩ := rules_ok b n (by omega) (by omega)
    have la := rules_len a
    have lb := rules_len b
    have h := tree_eq (.node c o a b)
    have hT : (Tree.node c o a b).e = .tup [c.e, .str o, a.e, b.e] := rfl
    have hpl : ∀ (z : Int) (t : Tree), t.sz ≤ 1000 → ∀ p ∈ rulesOf t, sAdd [.tup [.int z], plc p.1] = some (plc (z :: p.1)) := fun z t ht p hp => by
      have := place_len t p hp
      unfold plc
      rw [sAdd_T (by rw [List.length_map]; show 1 + p.1.length ≤ _; omega)]; rfl
    have l1 : (rulesOf a).length ≤ sizeTop := by unfold sizeTop; omega
    have l2 : (rulesOf b).length ≤ sizeTop := by unfold sizeTop; omega
    have a1 : ∀ X Y : List (List Int × Rule), X.length + Y.length ≤ 16777216 → sAdd [.lst (X.map rul1), .lst (Y.map rul1)] = some (.lst ((X ++ Y).map rul1)) := fun X Y h => by
      rw [sAdd_L (by simpa using h), List.map_append]
    have hTe : sEq [(Tree.node c o a b).e, .tup []] = some (.bl false) := h
    rw [run_of]
    refine run_RetP rfl ?_
    simp [cd, c_rules_of, sem, calms, calm, St.freeze, evalF, mark, freshE, hTe]
    refine Ret_bind (forr_Ret (e := fun p : Int × Tree => PV.int p.1) (xs := [(0, a), (1, b)]) (vs := [.tup [.int 0, .int 1]]) (s1 := _) (by simp [rul1, plc, Rule.t]) rfl (fun pre s => ∃ x, s = ⟨[some (.val (Tree.node c o a b).e), some (.own (.lst (((([], (c, o, a, b)) : List Int × Rule) :: pre.flatMap rkids).map rul1))), x, none, none], []⟩) ⟨none, rfl⟩ ?_) ?_
    · rintro pre ⟨z, t⟩ post s hx ⟨y, rfl⟩
      refine ⟨_, rfl, ?_⟩
      have hmem : (z, t) = (0, a) ∨ (z, t) = (1, b) := by
        have : (z, t) ∈ [((0 : Int), a), (1, b)] := by rw [hx]; simp
        simpa using this
      have ht : ∃ rt, callN P gl T n (ix .rules_of) [t.e] = some rt ∧ rt.v = .lst ((rulesOf t).map rul1) := by
        rcases hmem with h | h <;> cases h
        · exact ⟨_, ea, va⟩
        · exact ⟨_, eb, vb⟩
      have htx : sIx [(Tree.node c o a b).e, .int (2 + z)] = some t.e := by
        rcases hmem with h | h <;> cases h
        · exact ix3 _ _ _ _
        · exact ix4 _ _ _ _ _
      have hts : t.sz ≤ 1000 := by rcases hmem with h | h <;> cases h <;> omega
      obtain ⟨rt, et, vt⟩ := ht
      have hlt := rules_len t
      have l1 : (rulesOf t).length ≤ sizeTop := by unfold sizeTop; omega
      have hll : (pre.flatMap rkids).length ≤ 2000 := by
        have : ([((0 : Int), a), (1, b)].flatMap rkids).length = (pre.flatMap rkids).length + ((rkids (z, t)).length + (post.flatMap rkids).length) := by
          rw [hx]; simp only [List.flatMap_append, List.flatMap_cons, List.length_append]
        simp only [List.flatMap_cons, List.flatMap_nil, List.append_nil, List.length_append, rkids_len] at this
        omega
      simp [evalF, calms, calm, St.freeze, sem, q_comp, htx, et, vt, items, l1]
      rw [loopL_all (g := fun p : List Int × Rule => rul1 (z :: p.1, p.2))]
      · have e1 : (rulesOf t).map (fun p => rul1 (z :: p.1, p.2)) = (rkids (z, t)).map rul1 := by simp [rkids]
        have a2 := a1 ((([], (c, o, a, b)) : List Int × Rule) :: pre.flatMap rkids) (rkids (z, t)) (by rw [rkids_len, List.length_cons]; show _ + 1 + t.sz ≤ _; omega)
        rw [e1]
        simp only [List.map_cons] at a2
        simp [a2, mark, freshE, freshB, fresh, isBox]
      · intro p hp
        simp [rul1, St.freeze, calms, calm, sem, hpl z t hts p hp]
    · rintro f s ⟨rfl, x, rfl⟩
      simp [rulesOf, rkids]
variable [Has P ix .conditions_of]
theorem conds_ok (b : Book) (n : Nat) (hM : b.M.length ≤ 1000) (hr : (b.M.flatMap fun m => m.rows).length ≤ 1000) (hd : b.t.dp < n) (hs : b.t.sz ≤ 1000) : ∃ r, callN P gl T (n + 1) (ix .conditions_of) [b.e] = some r ∧ r.v = .lst ((condsOf b).map Cond.e) := by
  obtain ⟨r0, e0, v0⟩ := rules_ok (P := P) (gl := gl) (T := T) (ix := ix) b.t n hd hs
  have hl := rules_len b.t
  have l1 : (rulesOf b.t).length ≤ sizeTop := by unfold sizeTop; omega
  have hadd : sAdd [.lst ((b.M.flatMap fun m => m.rows.map (·.1)).map Cond.e), .lst (((rulesOf b.t).map (·.2.1)).map Cond.e)] = some (.lst ((condsOf b).map Cond.e)) := by
    have h3 : (b.M.flatMap fun m => m.rows.map (·.1)).length = (b.M.flatMap fun m => m.rows).length := by simp [List.length_flatMap]
    rw [sAdd_L (by rw [List.length_map, List.length_map, List.length_map, h3]; omega), ← List.map_append]; rfl
  have l2 : ((b.M.flatMap fun m => m.rows.map (·.1)).map Cond.e).length ≤ sizeTop := by
    have h3 : (b.M.flatMap fun m => m.rows.map (·.1)).length = (b.M.flatMap fun m => m.rows).length := by simp [List.length_flatMap]
    rw [List.length_map, h3]; unfold sizeTop; omega
  have e1 : (b.M.flatMap fun m => m.rows.map fun r => r.1.e) = (b.M.flatMap fun m => m.rows.map (·.1)).map Cond.e := by
    rw [List.map_flatMap]; simp [Function.comp_def]
  rw [run_of]
  refine run_RetP rfl ?_
  simp [cd, c_conditions_of, evalF, q_comp2, sem, calms, calm, Book.e, items, me]
  rw [loopS_flat (g := fun m : Mk => m.rows.map fun r => r.1.e)]
  · rw [e1]
    simp only [Out.bind_ok, l2, if_true]
    simp [mark, freshE, evalR, evalF, q_comp, sem, calms, calm, e0, v0, items, l1, St.freeze]
    rw [loopL_all (g := fun p : List Int × Rule => p.2.1.e)]
    · have e2 : ((rulesOf b.t).map fun p => p.2.1.e) = ((rulesOf b.t).map (·.2.1)).map Cond.e := by simp [Function.comp_def]
      rw [e2]
      simp only [Out.bind_ok, hadd, Out.ofOpt_some]
      simp [mark, freshB, fresh, isBox]
    · intro p hp
      simp [rul1, St.freeze, calms, calm, sem, Rule.t, Tree.e]
  · intro m hm
    simp [Mk.e, items, St.freeze, calms, calm]
    rw [loopL_all (g := fun r : Cond × Txt => r.1.e)]
    · simp
    · intro r hr'
      simp [row1, St.freeze]
end
end R
end
section
set_option Elab.async false
set_option linter.all false
set_option autoImplicit false
set_option maxRecDepth 100000
set_option maxHeartbeats 1000000
namespace R
open Ev
inductive Cell where
  | s (t : Txt)
  | r (lo hi : Int)
def Cell.e : Cell → PV
  | .s t => .str t
  | .r lo hi => .tup [.int lo, .int hi]
def rowE (r : List Cell) : PV := .lst (r.map Cell.e)
def inb (lo hi c : Int) : Bool := decide (lo < c) && decide (c ≤ hi)
theorem filterMap_if {α β : Type} (p : α → Bool) (f : α → β) : ∀ xs : List α, (xs.filterMap fun c => if p c = true then some (f c) else none) = (xs.filter p).map f
  | [] => rfl
  | c :: xs => by rw [List.filterMap_cons, List.filter_cons, filterMap_if p f xs]; cases h : p c <;> rfl
def startsOf (lo hi : Int) (cuts : List Int) : List Int := lo :: dedupI (sortI (cuts.filter (inb lo hi)))
def endsOf (hi : Int) (st : List Int) : List Int := st.tail.map (· - 1) ++ [hi]
def stretch (lo hi : Int) (cuts : List Int) : List Cell := ((startsOf lo hi cuts).zip (endsOf hi (startsOf lo hi cuts))).map fun p => .r p.1 p.2
theorem allInts_map (xs : List Int) : allInts (xs.map PV.int) = some xs := by
  induction xs with
  | nil => rfl
  | cons x xs ih => rw [List.map_cons, allInts, ih]; rfl
theorem dedup_len : ∀ xs : List Int, (dedupI xs).length ≤ xs.length
  | [] => by simp [dedupI]
  | [i] => by simp [dedupI]
  | i :: j :: r => by
    rw [dedupI]
    have := dedup_len (j :: r)
    split
    · simp only [List.length_cons] at this ⊢; omega
    · simp only [List.length_cons] at this ⊢; omega
theorem ins_len (i : Int) : ∀ xs : List Int, (insI i xs).length = xs.length + 1
  | [] => rfl
  | j :: r => by rw [insI]; split <;> simp [ins_len i r]
theorem sort_len : ∀ xs : List Int, (sortI xs).length = xs.length
  | [] => rfl
  | i :: r => by rw [sortI, ins_len, sort_len r]; rfl
variable {P : List Fn} {gl : List PV} {T : Nat} {ix : Nm → Nat}
theorem cut_tail (xs : List PV) : cutV (.lst xs) (some 1) none = some (.lst xs.tail) := by
  simp only [cutV, cut, slAt]
  cases xs with
  | nil => rfl
  | cons x r =>
    congr 2
    have : ((1 : Int) < 0) = False := by simp
    simp [this]
section
variable [Has P ix .stretches]
theorem stretch_ok (lo hi : Int) (cuts : List Int) (n : Nat) (hl : (dedupI (sortI (cuts.filter (inb lo hi)))).length < 64) (hc : cuts.length < 4000) : ∃ r, callN P gl T (n + 1) (ix .stretches) [.int lo, .int hi, .lst (cuts.map .int)] = some r ∧ r.v = rowE (stretch lo hi cuts) := by
  have hss : sSetSorted [.lst ((cuts.filter (inb lo hi)).map PV.int)] = some (.lst ((dedupI (sortI (cuts.filter (inb lo hi)))).map .int)) := by
    have h0 : ((cuts.filter (inb lo hi)).map PV.int).length < 4000 := by rw [List.length_map]; exact Nat.lt_of_le_of_lt (List.length_filter_le _ _) hc
    have hc' : cuts.length ≤ 4000 := by omega
    have h1 : ((dedupI (sortI (cuts.filter (inb lo hi)))).map PV.int).length < 64 := by rw [List.length_map]; exact hl
    simp only [sSetSorted, if_pos h0, sortSet, allInts_map, Option.bind_some, if_pos h1]
  have h1 : (dedupI (sortI (cuts.filter (inb lo hi)))).length ≤ 63 := by omega
  have hadd : sAdd [.lst [.int lo], .lst ((dedupI (sortI (cuts.filter (inb lo hi)))).map .int)] = some (.lst ((startsOf lo hi cuts).map .int)) := by
    rw [sAdd_L (by rw [List.length_map]; show 1 + _ ≤ _; omega)]; rfl
  have hst : (startsOf lo hi cuts).tail.length ≤ sizeTop := by show (dedupI (sortI (cuts.filter (inb lo hi)))).length ≤ 16777216; omega
  have hadd2 : sAdd [.lst (((startsOf lo hi cuts).tail.map (· - 1)).map .int), .lst [.int hi]] = some (.lst ((endsOf hi (startsOf lo hi cuts)).map .int)) := by
    have hst' : (startsOf lo hi cuts).tail.length < 64 := by show (dedupI (sortI (cuts.filter (inb lo hi)))).length < 64; omega
    rw [sAdd_L (by rw [List.length_map, List.length_map]; show _ + 1 ≤ _; omega)]; unfold endsOf; rw [List.map_append]; rfl
  have hz : sListZip [.lst ((startsOf lo hi cuts).map .int), .lst ((endsOf hi (startsOf lo hi cuts)).map .int)] = some (rowE (stretch lo hi cuts)) := by
    simp only [sListZip, zip_map2, rowE, stretch, List.map_map]; rfl
  have e1 := filterMap_if (inb lo hi) PV.int cuts
  rw [run_of]
  refine run_RetP rfl ?_
  simp [cd, c_stretches, evalF, q_scomp, sem, calms, calm, items, (show cuts.length ≤ 4000 by omega), St.freeze]
  rw [loopL_mapT (e := PV.int) (g := fun c => if inb lo hi c = true then some (PV.int c) else none)]
  · rw [e1]
    simp only [Out.bind_ok, hss, Out.ofOpt_some]
    simp [mark, freshE, freshB, fresh, isBox, hadd, evalF, q_comp, calms, calm, sem, sSlL, cut_tail, items, St.freeze, ← List.map_tail]
    rw [loopL_all (e := PV.int) (g := fun z => PV.int (z - 1))]
    · have h2 : (startsOf lo hi cuts).length ≤ sizeTop + 1 := by show (dedupI (sortI (cuts.filter (inb lo hi)))).length + 1 ≤ 16777216 + 1; omega
      have e3 : (startsOf lo hi cuts).tail.map (fun z => PV.int (z - 1)) = ((startsOf lo hi cuts).tail.map (· - 1)).map PV.int := by rw [List.map_map]; rfl
      rw [if_pos h2, e3]
      simp only [Out.bind_ok, q_back, q_get, List.foldr, List.getElem?_cons_succ, List.getElem?_cons_zero, Option.join, q_valOf3]
      simp [hadd2, hz, evalR, evalF, calms, calm, sem, mark, freshE, freshB, fresh, isBox, rowE, -List.map_map, ← List.map_tail]
    · intro z hz
      simp [St.freeze, calms, calm, sem]
  · intro c hc'
    by_cases h1 : lo < c <;> by_cases h2 : c ≤ hi <;> simp [St.freeze, calms, calm, sem, inb, h1, h2]
end
end R
end
section
set_option Elab.async false
set_option linter.all false
set_option autoImplicit false
set_option maxRecDepth 100000
set_option maxHeartbeats 1000000
namespace R
open Ev
def opE : Option Val → PV
  | none => .non
  | some v => v.e
abbrev Sketch := List (Option Val)
def skE (k : Sketch) : PV := .tup (k.map opE)
def rowOf (C : List Cond) (p : Txt × Kind) (k : Option Val) : List Cell :=
  match p.2, k with
  | .ch vs, none => vs.map .s
  | .ch _, some (.s t) => [.s t]
  | .nu lo hi, none => stretch lo hi (C.flatMap (cutsIn p.1))
  | .nu _ _, some (.i z) => [.r z z]
  | _, _ => []
def okK (p : Txt × Kind) (k : Option Val) : Prop :=
  match p.2, k with
  | .ch _, some (.i _) => False
  | .nu _ _, some (.s _) => False
  | _, _ => True
def cellsBy (F : Facts) (C : List Cond) (k : Sketch) : List (List Cell) := (F.zip k).map fun p => rowOf C p.1 p.2
def rowsE (R : List (List Cell)) : PV := .lst (R.map rowE)
structure OkC (F : Facts) (C : List Cond) (d : Nat) : Prop where
  n : C.length ≤ 1000
  f : ∀ p ∈ F, ∀ lo hi, p.2 = .nu lo hi → (dedupI (sortI ((C.flatMap (cutsIn p.1)).filter (inb lo hi)))).length < 64
  c : ∀ nm, (C.flatMap (cutsIn nm)).length < 4000
  d : ∀ c ∈ C, c.dp < d ∧ c.lv ≤ 1000
variable {P : List Fn} {gl : List PV} {T : Nat} {ix : Nm → Nat}
theorem isN_v (k : Option Val) : sIsN [opE k, .non] = some (.bl k.isNone) := by
  cases k with
  | none => rfl
  | some v => cases v <;> rfl
theorem notN_v (k : Option Val) : sNotN [opE k, .non] = some (.bl k.isSome) := by
  cases k with
  | none => rfl
  | some v => cases v <;> rfl
section
variable [Has P ix .parts_within] [Has P ix .cuts_in] [Has P ix .stretches] [Has P ix .cells_by]
def cbS (F : Facts) (C : List Cond) (k : Sketch) (pre : List ((Txt × Kind) × Option Val)) (s : St) : Prop := ∃ x4 x5 x6 x7 x8, s = ⟨[some (.val (fe F)), some (.val (.lst (C.map Cond.e))), some (.val (skE k)), some (.own (rowsE (pre.map fun p => rowOf C p.1 p.2))), x4, x5, x6, x7, x8], []⟩
theorem cells_by_ok (F : Facts) (C : List Cond) (k : Sketch) (n d : Nat) (hF : F.length ≤ 1000) (h : OkC F C d) (hk : ∀ p ∈ F.zip k, okK p.1 p.2) (hn : d + 1 ≤ n) : callN P gl T (n + 1) (ix .cells_by) [fe F, .lst (C.map Cond.e), skE k] = some (.own (rowsE (cellsBy F C k))) := by
  rw [run_of]
  refine run_Ret rfl ?_
  simp [cd, c_cells_by, evalF, mark, freshE]
  refine Ret_bind (forr_Ret (e := fun p : (Txt × Kind) × Option Val => PV.tup [fact1 p.1, opE p.2]) (xs := F.zip k) (vs := [fe F, skE k]) (s1 := _) (by simp [St.freeze, rowsE]) (by simp only [items, fe, skE, zip_map2, List.map_map]; rfl) (cbS F C k) ⟨none, none, none, none, none, rfl⟩ ?_) ?_
  · rintro pre ⟨⟨nm, kd⟩, kn⟩ post s hx ⟨x4, x5, x6, x7, x8, rfl⟩
    have hlen : pre.length < 16777216 := by
      have h1 : (F.zip k).length = pre.length + (post.length + 1) := by rw [hx]; simp
      rw [List.length_zip] at h1; omega
    have hmem : ((nm, kd), kn) ∈ F.zip k := by rw [hx]; simp
    have hmF : (nm, kd) ∈ F := (List.of_mem_zip hmem).1
    have ok := hk _ hmem
    have hap : ∀ r : List Cell, semMut .append (rowsE (pre.map fun p => rowOf C p.1 p.2)) [rowE r] = some (.non, .lst ((pre.map fun p => rowE (rowOf C p.1 p.2)) ++ [rowE r])) := fun r => by
      unfold rowsE
      rw [app_ok (by rw [List.length_map, List.length_map]; exact hlen), List.map_map]; rfl
    have hkm : kindM .append (rowsE (pre.map fun p => rowOf C p.1 p.2)) = true := rfl
    have hfin : ∀ r : List Cell, rowOf C (nm, kd) kn = r → PV.lst ((pre.map fun p => rowE (rowOf C p.1 p.2)) ++ [rowE r]) = rowsE ((pre ++ [((nm, kd), kn)]).map fun p => rowOf C p.1 p.2) := fun r hr => by
      unfold rowsE; rw [← hr]; simp
    refine ⟨_, rfl, ?_⟩
    cases kd with
    | ch vs =>
      cases kn with
      | none =>
        have hl : sListOf [.tup (vs.map PV.str)] = some (rowE (vs.map .s)) := by simp only [sListOf, rowE, List.map_map]; rfl
        simp [fact1, Kind.e, sem, calms, calm, St.freeze, hkm, isN_v, hl, hap]
        rw [hfin (vs.map .s) rfl]
        exact ⟨_, _, _, _, _, rfl⟩
      | some v =>
        cases v with
        | i z => exact absurd ok id
        | s t =>
          have hl : PV.lst [opE (some (.s t))] = rowE [.s t] := rfl
          simp [fact1, Kind.e, sem, calms, calm, St.freeze, hkm, isN_v, hl, hap]
          rw [hfin [.s t] rfl]
          exact ⟨_, _, _, _, _, rfl⟩
    | nu lo hi =>
      cases kn with
      | some v =>
        cases v with
        | s t => exact absurd ok id
        | i z =>
          have hl : PV.lst [.tup [opE (some (.i z)), opE (some (.i z))]] = rowE [.r z z] := rfl
          simp [fact1, Kind.e, sem, calms, calm, St.freeze, hkm, notN_v, hl, hap]
          rw [hfin [.r z z] rfl]
          exact ⟨_, _, _, _, _, rfl⟩
      | none =>
        obtain ⟨m, rfl⟩ : ∃ m, n = m + 1 := ⟨n - 1, by omega⟩
        obtain ⟨r, e1, e2⟩ := stretch_ok (P := P) (gl := gl) (T := T) (ix := ix) lo hi (C.flatMap (cutsIn nm)) m (h.f _ hmF lo hi rfl) (h.c nm)
        simp [fact1, Kind.e, sem, calms, calm, St.freeze, notN_v, evalF, mark, freshE]
        simp only [bind_asc]
        refine Ret_bind (forr_Ret (e := Cond.e) (xs := C) (vs := [.lst (C.map Cond.e)]) (s1 := _) rfl rfl (fun q s => ∃ x6 x8, s = ⟨[some (.val (fe F)), some (.val (.lst (C.map Cond.e))), some (.val (skE k)), some (.own (rowsE (pre.map fun p => rowOf C p.1 p.2))), some (.val (.str nm)), some (.val (Kind.nu lo hi).e), x6, some (.own (.lst ((q.flatMap (cutsIn nm)).map .int))), x8], []⟩) ⟨_, _, rfl⟩ ?_) ?_
        · rintro q c post' s hx' ⟨x6, x8, rfl⟩
          have hc := h.d c (by rw [hx']; simp)
          obtain ⟨r', e1', e2'⟩ := cuts_ok (P := P) (gl := gl) (T := T) (ix := ix) nm c (m + 1) (by omega) hc.2
          have hq : (q.flatMap (cutsIn nm)).length ≤ 4000 := by
            have : (C.flatMap (cutsIn nm)).length = (q.flatMap (cutsIn nm)).length + ((cutsIn nm c).length + (post'.flatMap (cutsIn nm)).length) := by rw [hx']; simp only [List.flatMap_append, List.flatMap_cons, List.length_append]
            have := h.c nm
            omega
          have hcl := cuts_len nm c
          have hadd : sAdd [.lst ((q.flatMap (cutsIn nm)).map .int), .lst ((cutsIn nm c).map .int)] = some (.lst (((q ++ [c]).flatMap (cutsIn nm)).map .int)) := by
            rw [sAdd_L (by rw [List.length_map, List.length_map]; omega)]; simp
          refine ⟨_, rfl, ?_⟩
          simp [evalF, calms, calm, St.freeze, e1', e2', sem, mark, freshE, freshB, fresh, isBox]
          rw [hadd]
          simp
        · rintro f s ⟨rfl, x6, x8, rfl⟩
          simp [hkm, St.freeze, sem, calms, calm, Kind.e]
          rw [e1]
          simp [hkm, e2, hap]
          rw [hfin (stretch lo hi (C.flatMap (cutsIn nm))) rfl]
          exact ⟨_, _, _, _, _, rfl⟩
  · rintro f s ⟨rfl, x4, x5, x6, x7, x8, rfl⟩
    simp [cellsBy]
end
end R
end
section
set_option Elab.async false
set_option linter.all false
set_option autoImplicit false
set_option maxRecDepth 100000
set_option maxHeartbeats 1000000
namespace R
open Ev
abbrev Pick := List Cell
def pickE (p : Pick) : PV := .tup (p.map Cell.e)
def ways (R : List (List Cell)) : Nat := R.foldl (fun a r => a * r.length) 1
def step (ps : List Pick) (row : List Cell) : List Pick := ps.flatMap fun p => row.map fun c => p ++ [c]
def picks (R : List (List Cell)) : List Pick := R.foldl step [[]]
def firstOf : Cell → Val
  | .s t => .s t
  | .r lo _ => .i lo
def sizeOf : Cell → Int
  | .s _ => 1
  | .r lo hi => hi - lo + 1
def caseOf (p : Pick) : List Val := p.map firstOf
def manyIn (p : Pick) : Int := p.foldl (fun a c => a * sizeOf c) 1
theorem step_len (ps : List Pick) (row : List Cell) : (step ps row).length = ps.length * row.length := by
  unfold step
  induction ps with
  | nil => simp
  | cons p ps ih => simp only [List.flatMap_cons, List.length_append, List.length_map, ih, List.length_cons, Nat.add_mul]; omega
theorem foldl_step_len (R : List (List Cell)) : ∀ ps : List Pick, (R.foldl step ps).length = R.foldl (fun a r => a * r.length) ps.length := by
  induction R with
  | nil => intro ps; rfl
  | cons r R ih => intro ps; rw [List.foldl_cons, ih, step_len]; rfl
theorem picks_len (R : List (List Cell)) : (picks R).length = ways R := foldl_step_len R [[]]
theorem ways_mono (R : List (List Cell)) (h : ∀ r ∈ R, r ≠ []) : ∀ a : Nat, a ≤ R.foldl (fun a r => a * r.length) a := by
  induction R with
  | nil => intro a; exact Nat.le_refl _
  | cons r R ih =>
    intro a
    have h1 : 0 < r.length := List.length_pos_iff.mpr (h r List.mem_cons_self)
    exact Nat.le_trans (Nat.le_mul_of_pos_right a h1) (ih (fun x hx => h x (List.mem_cons_of_mem _ hx)) _)
theorem ways_pre (R1 R2 : List (List Cell)) (h : ∀ r ∈ R2, r ≠ []) : ways R1 ≤ ways (R1 ++ R2) := by
  unfold ways
  rw [List.foldl_append]
  exact ways_mono R2 h _
theorem picks_plen (R : List (List Cell)) : ∀ p ∈ picks R, p.length = R.length := by
  have key : ∀ (R : List (List Cell)) (ps : List Pick) (n : Nat), (∀ p ∈ ps, p.length = n) → ∀ p ∈ R.foldl step ps, p.length = n + R.length := by
    intro R
    induction R with
    | nil => intro ps n h; exact h
    | cons r R ih =>
      intro ps n h p hp
      rw [List.foldl_cons] at hp
      have := ih (step ps r) (n + 1) (by
        intro q hq
        unfold step at hq
        simp only [List.mem_flatMap, List.mem_map] at hq
        obtain ⟨a, ha, c, hc, rfl⟩ := hq
        rw [List.length_append, h a ha]; rfl) p hp
      rw [this, List.length_cons]; omega
  intro p hp
  have := key R [[]] 0 (by simp) p hp
  omega
variable {P : List Fn} {gl : List PV} {T : Nat} {ix : Nm → Nat}
section
variable [Has P ix .rules_of] [Has P ix .conditions_of] [Has P ix .parts_within] [Has P ix .cuts_in] [Has P ix .stretches] [Has P ix .cells_by] [Has P ix .cells]
structure OkL (b : Book) (k : Sketch) (more : List Cond) (d : Nat) : Prop where
  c : OkC b.F (condsOf b ++ more) d
  hF : b.F.length ≤ 1000
  hM : b.M.length ≤ 1000
  hr : (b.M.flatMap fun m => m.rows).length ≤ 1000
  td : b.t.dp < d
  sz : b.t.sz ≤ 1000
  k : ∀ p ∈ b.F.zip k, okK p.1 p.2
def cellsOf (b : Book) (k : Sketch) (more : List Cond) : List (List Cell) := cellsBy b.F (condsOf b ++ more) k
theorem cells_ok {b : Book} {k : Sketch} {more : List Cond} {d : Nat} (h : OkL b k more d) (n : Nat) (hn : d + 2 ≤ n) : callN P gl T (n + 1) (ix .cells) [b.e, skE k, .tup (more.map Cond.e)] = some (.own (rowsE (cellsOf b k more))) := by
  obtain ⟨m, rfl⟩ : ∃ m, n = m + 1 := ⟨n - 1, by omega⟩
  obtain ⟨r1, e1, v1⟩ := conds_ok (P := P) (gl := gl) (T := T) (ix := ix) b m h.hM h.hr (by have := h.td; omega) h.sz
  have e2 := cells_by_ok (P := P) (gl := gl) (T := T) (ix := ix) b.F (condsOf b ++ more) k m d h.hF h.c h.k (by omega)
  have hadd : sAdd [.lst ((condsOf b).map Cond.e), .lst (more.map Cond.e)] = some (.lst ((condsOf b ++ more).map Cond.e)) := by
    have := h.c.n
    rw [List.length_append] at this
    rw [sAdd_L (by rw [List.length_map, List.length_map]; omega), List.map_append]
  have hi : sIx [b.e, .int 0] = some (fe b.F) := ix1 _ _
  rw [run_of]
  refine run_Ret rfl ?_
  simp [cd, c_cells, evalR, evalF, sem, calms, calm, hi, St.freeze, e1, v1, sListOf, -List.map_append]
  rw [hadd]
  simp [e2, cellsOf, St.freeze, -List.map_append]
end
section
variable [Has P ix .first_of] [Has P ix .case_of]
theorem isStr (c : Cell) : sIsInst [c.e, .fn 0] = some (.bl (match c with | .s _ => true | _ => false)) := by cases c <;> rfl
theorem first_ok (c : Cell) (n : Nat) : callN P gl T (n + 1) (ix .first_of) [c.e] = some (.val (firstOf c).e) := by
  rw [run_of]
  refine run_Ret rfl ?_
  cases c <;> simp [cd, c_first_of, evalR, evalF, sem, calms, calm, isStr, St.freeze, mark, freshE, firstOf, Val.e] <;> simp [Cell.e]
theorem case_ok (p : Pick) (n : Nat) (hl : p.length ≤ 1000) : callN P gl T (n + 2) (ix .case_of) [pickE p] = some (.val (cse (caseOf p))) := by
  have l1 : p.length ≤ sizeTop := by unfold sizeTop; omega
  rw [run_of]
  refine run_Ret rfl ?_
  simp [cd, c_case_of, evalR, evalF, sem, calms, calm, St.freeze, mark, freshE, q_comp, pickE, items, l1]
  rw [loopL_all (g := fun c : Cell => (firstOf c).e)]
  · simp [sTupleOf, freshB, fresh, cse, caseOf]
  · intro c hc
    simp [St.freeze, first_ok]
end
section
variable [Has P ix .ways_in]
theorem ways_ok (R : List (List Cell)) (n : Nat) (hl : ∀ r ∈ R, r.length ≤ 1000000) : callN P gl T (n + 1) (ix .ways_in) [rowsE R] = some (.val (.int (ways R))) := by
  rw [run_of]
  refine run_Ret rfl ?_
  simp [cd, c_ways_in, evalF, mark, freshE]
  refine Ret_bind (forr_Ret (e := rowE) (xs := R) (vs := [rowsE R]) (s1 := _) rfl rfl (fun pre s => ∃ x, s = ⟨[some (.val (rowsE R)), some (.val (.int (ways pre))), x], []⟩) ⟨_, rfl⟩ ?_) ?_
  · rintro pre r post s hx ⟨y, rfl⟩
    have hr := hl r (by rw [hx]; simp)
    have hm : mulOk (ways pre : Int) (r.length : Int) = true := by
      have : big (r.length : Int) = true := by unfold big; rw [decide_eq_true_eq]; omega
      unfold mulOk; rw [this]; simp
    refine ⟨_, rfl, ?_⟩
    simp [calms, calm, sem, rowE, sLen, sMul, hm]
    simp [ways]
  · rintro f s ⟨rfl, x, rfl⟩
    simp
variable [Has P ix .picks_of]
theorem picks_ok (R : List (List Cell)) (n : Nat) (most : Int) (hl : ∀ r ∈ R, r ≠ []) (hw : ways R ≤ most) (hm : most ≤ 1000000) (hn : R.length ≤ 1000) : ∃ r, callN P gl T (n + 2) (ix .picks_of) [rowsE R, .int most] = some r ∧ r.v = .lst ((picks R).map pickE) := by
  have hrl : ∀ r ∈ R, r.length ≤ 1000000 := by
    intro r hr
    obtain ⟨a, b, rfl⟩ := List.append_of_mem hr
    have h1 := ways_pre (a ++ [r]) b (fun x hx => hl x (by simp [hx]))
    have h2 : ways (a ++ [r]) = ways a * r.length := by unfold ways; rw [List.foldl_append]; rfl
    have h3 : 1 ≤ ways a := ways_mono a (fun x hx => hl x (by simp [hx])) 1
    have h4 : r.length ≤ ways a * r.length := Nat.le_mul_of_pos_left _ h3
    rw [List.append_assoc, List.singleton_append] at h1
    omega
  have hW := ways_ok (P := P) (gl := gl) (T := T) (ix := ix) R n hrl
  have hlt : (decide (most < (ways R : Int))) = false := by rw [decide_eq_false_iff_not]; omega
  rw [run_of]
  refine run_RetP rfl ?_
  simp [cd, c_picks_of, evalF, mark, freshE, St.freeze, hW, sem, hlt]
  refine Ret_bind (forr_Ret (e := rowE) (xs := R) (vs := [rowsE R]) (s1 := _) rfl rfl (fun pre s => ∃ x, s = ⟨[some (.val (rowsE R)), some (.val (.int most)), some (.own (.lst ((picks pre).map pickE))), x, none, none], []⟩) ⟨_, rfl⟩ ?_) ?_
  · rintro pre r post s hx ⟨y, rfl⟩
    refine ⟨_, rfl, ?_⟩
    have e0 : picks (pre ++ [r]) = step (picks pre) r := by unfold picks; rw [List.foldl_append]; rfl
    have hlen : (step (picks pre) r).length ≤ sizeTop := by
      rw [← e0, picks_len]
      have h1 := ways_pre (pre ++ [r]) post (fun x hx' => hl x (by rw [hx]; simp [hx']))
      rw [List.append_assoc, List.singleton_append, ← hx] at h1
      unfold sizeTop; omega
    have hr1 := hrl r (by rw [hx]; simp)
    have hr2 : r.length ≤ sizeTop := by unfold sizeTop; omega
    have e1 : (picks pre).flatMap (fun p => r.map fun c => pickE (p ++ [c])) = (step (picks pre) r).map pickE := by
      unfold step; rw [List.map_flatMap]; simp [Function.comp_def]
    have hlen2 : ((step (picks pre) r).map pickE).length ≤ sizeTop := by rw [List.length_map]; exact hlen
    simp [calms, calm, sem, evalF, q_comp2, items]
    rw [loopS_flat (g := fun p : Pick => r.map fun c => pickE (p ++ [c]))]
    · rw [e1]
      simp only [Out.bind_ok, if_pos hlen2]
      simp [mark, freshE, e0]
    · intro p hp
      have hpl := picks_plen pre p hp
      have hpl2 : p.length ≤ 1000 := by
        have : R.length = pre.length + (post.length + 1) := by rw [hx]; simp
        omega
      simp [St.freeze, calms, calm, items, rowE, sem]
      rw [loopL_all (g := fun c : Cell => pickE (p ++ [c]))]
      · simp
      · intro c hc
        have hadd : sAdd [pickE p, .tup [c.e]] = some (pickE (p ++ [c])) := by
          unfold pickE
          rw [sAdd_T (by rw [List.length_map]; show p.length + 1 ≤ _; omega), List.map_append]; rfl
        simp [St.freeze, calms, calm, sem, hadd]
  · rintro f s ⟨rfl, x, rfl⟩
    simp
end
section
variable [Has P ix .size_of] [Has P ix .many_in]
theorem size_ok (c : Cell) (n : Nat) : callN P gl T (n + 1) (ix .size_of) [c.e] = some (.val (.int (sizeOf c))) := by
  rw [run_of]
  refine run_Ret rfl ?_
  cases c <;> simp [cd, c_size_of, evalR, evalF, sem, calms, calm, isStr, St.freeze, mark, freshE, sizeOf] <;> simp [Cell.e]
def okSz (c : Cell) : Prop := (sizeOf c).natAbs < 2 ^ 64
theorem many_ok (p : Pick) (n : Nat) (h : ∀ c ∈ p, okSz c) : callN P gl T (n + 2) (ix .many_in) [pickE p] = some (.val (.int (manyIn p))) := by
  rw [run_of]
  refine run_Ret rfl ?_
  simp [cd, c_many_in, evalF, mark, freshE]
  refine Ret_bind (forr_Ret (e := Cell.e) (xs := p) (vs := [pickE p]) (s1 := _) rfl rfl (fun pre s => ∃ x, s = ⟨[some (.val (pickE p)), some (.val (.int (manyIn pre))), x], []⟩) ⟨_, rfl⟩ ?_) ?_
  · rintro pre c post s hx ⟨y, rfl⟩
    have hm : mulOk (manyIn pre) (sizeOf c) = true := by
      have : big (sizeOf c) = true := by unfold big; rw [decide_eq_true_eq]; exact h c (by rw [hx]; simp)
      unfold mulOk; rw [this]; simp
    refine ⟨_, rfl, ?_⟩
    simp [calms, calm, sem, size_ok, St.freeze, sMul, hm]
    simp [manyIn]
  · rintro f s ⟨rfl, x, rfl⟩
    simp
end
end R
end
section
set_option Elab.async false
set_option linter.all false
set_option autoImplicit false
set_option maxRecDepth 100000
set_option maxHeartbeats 1000000
namespace Ev
theorem allStrs_map (xs : List Txt) : allStrs (xs.map PV.str) = some xs := by
  induction xs with
  | nil => rfl
  | cons x xs ih => rw [List.map_cons, allStrs, ih]; rfl
/-- the keys of a dict filled by texts -/
def addK (l : List Txt) (k : Txt) : List Txt := if l.any (fun x => x == k) then l else l ++ [k]
theorem putK_t {l : List Txt} {vs : List PV} {k : Txt} {v : PV} (hl : vs.length = l.length) : ∃ ws, putK (l.map PV.str) vs (.str k) v = ((addK l k).map .str, ws) ∧ ws.length = (addK l k).length := by
  have h : hasK (l.map PV.str) (.str k) = l.any (fun x => x == k) := by
    unfold hasK; rw [List.any_map]; congr 1
  have hv : ∀ (ks vs : List PV), (putV ks vs (.str k) v).length = vs.length := by
    intro ks
    induction ks with
    | nil => intro vs; cases vs <;> rfl
    | cons a ks ih => intro vs; cases vs with
      | nil => rfl
      | cons b vs => simp [putV, ih]
  unfold putK addK
  rw [h]
  split
  · exact ⟨_, rfl, by rw [hv]; exact hl⟩
  · exact ⟨vs ++ [v], by simp, by simp [hl]⟩
theorem loopD_t {α : Type} {e : α → PV} {k : α → Txt} {v : α → PV} {body : PV → St → Out (Option (PV × PV))} {s : St} : ∀ {xs : List α} {l : List Txt} {vs : List PV}, vs.length = l.length → (∀ x ∈ xs, body (e x) s = .ok (some (.str (k x), v x)) s) → ∃ ws, loopD body (xs.map e) (l.map .str) vs s = .ok (((xs.map k).foldl addK l).map .str, ws) s ∧ ws.length = ((xs.map k).foldl addK l).length
  | [], l, vs, hl, _ => ⟨vs, rfl, hl⟩
  | x :: xs, l, vs, hl, h => by
    obtain ⟨ws, e1, e2⟩ := putK_t (l := l) (vs := vs) (k := k x) (v := v x) hl
    obtain ⟨us, e3, e4⟩ := loopD_t (v := v) (body := body) (s := s) (xs := xs) (l := addK l (k x)) (vs := ws) e2 fun y hy => h y (List.mem_cons_of_mem _ hy)
    refine ⟨us, ?_, e4⟩
    rw [List.map_cons, loopD, h x List.mem_cons_self]
    simp only [Out.bind_ok, keyOk, if_true, e1]
    exact e3
end Ev
namespace R
open Ev
def allAdv (b : Book) (k : Sketch) (more : List Cond) : List (Pick × Txt) := (picks (cellsOf b k more)).map fun p => (p, adv b (caseOf p))
def rowA (p : Pick × Txt) : PV := .tup [pickE p.1, .str p.2]
structure OkA (b : Book) (k : Sketch) (more : List Cond) (d : Nat) : Prop where
  l : OkL b k more d
  ne : ∀ r ∈ cellsOf b k more, r ≠ []
  w : ways (cellsOf b k more) ≤ 4000
  b : ∀ p ∈ picks (cellsOf b k more), OkB b (caseOf p) d
def mayBe (b : Book) (k : Sketch) : List Txt := sortT (((allAdv b k []).map (·.2)).foldl addK [])
def howMany (b : Book) (k : Sketch) (a : Txt) : Int := (((allAdv b k []).filter fun p => p.2 == a).map fun p => manyIn p.1).sum
def firstCase (b : Book) (k : Sketch) (a : Txt) : Option (List Val) := ((allAdv b k []).find? fun p => p.2 == a).map fun p => caseOf p.1
def caseO : Option (List Val) → PV
  | none => .non
  | some c => cse c
theorem cells_len (b : Book) (k : Sketch) (more : List Cond) : (cellsOf b k more).length ≤ b.F.length := by
  unfold cellsOf cellsBy; rw [List.length_map, List.length_zip]; omega
theorem adv_len (b : Book) (k : Sketch) (more : List Cond) : (allAdv b k more).length = ways (cellsOf b k more) := by
  unfold allAdv; rw [List.length_map, picks_len]
variable {P : List Fn} {gl : List PV} {T : Nat} {ix : Nm → Nat}
section
variable [Has P ix .rules_of] [Has P ix .conditions_of] [Has P ix .parts_within] [Has P ix .cuts_in] [Has P ix .stretches] [Has P ix .cells_by] [Has P ix .cells]
  [Has P ix .first_of] [Has P ix .case_of] [Has P ix .ways_in] [Has P ix .picks_of] [Has P ix .is_so] [Has P ix .world_of] [Has P ix .gone] [Has P ix .advice] [Has P ix .all_advices]
theorem all_ok {b : Book} {k : Sketch} {more : List Cond} {d : Nat} (h : OkA b k more d) (n : Nat) (hn : d + 4 ≤ n) (hT : 100 < T) : ∃ r, callN P gl T (n + 1) (ix .all_advices) [b.e, skE k, .tup (more.map Cond.e)] = some r ∧ r.v = .lst ((allAdv b k more).map rowA) := by
  obtain ⟨m, rfl⟩ : ∃ m, n = m + 2 := ⟨n - 2, by omega⟩
  have e1 := cells_ok (P := P) (gl := gl) (T := T) (ix := ix) h.l (m + 1) (by omega)
  have hl := h.l.hF
  have hcl := cells_len b k more
  obtain ⟨r2, e2, v2⟩ := picks_ok (P := P) (gl := gl) (T := T) (ix := ix) (cellsOf b k more) m 4000 h.ne (by have := h.w; omega) (by decide) (by omega)
  have hlen : (picks (cellsOf b k more)).length ≤ sizeTop := by rw [picks_len]; have := h.w; unfold sizeTop; omega
  rw [run_of]
  refine run_RetP rfl ?_
  simp [cd, c_all_advices, evalR, evalF, calms, calm, q_comp, St.freeze, e1, e2, v2, items, hlen]
  rw [loopL_all (g := fun p : Pick => rowA (p, adv b (caseOf p)))]
  · simp [allAdv, mark, freshE]
  · intro p hp
    have hpl := picks_plen _ p hp
    have hc := case_ok (P := P) (gl := gl) (T := T) (ix := ix) p m (by omega)
    have ha := advice_ok (P := P) (gl := gl) (T := T) (ix := ix) (n := m + 1) (h.b p hp) (by omega) hT
    simp [St.freeze, hc, ha, rowA]
end
section
variable [Has P ix .rules_of] [Has P ix .conditions_of] [Has P ix .parts_within] [Has P ix .cuts_in] [Has P ix .stretches] [Has P ix .cells_by] [Has P ix .cells]
  [Has P ix .first_of] [Has P ix .case_of] [Has P ix .ways_in] [Has P ix .picks_of] [Has P ix .is_so] [Has P ix .world_of] [Has P ix .gone] [Has P ix .advice] [Has P ix .all_advices] [Has P ix .may_be]
theorem may_ok {b : Book} {k : Sketch} {d : Nat} (h : OkA b k [] d) (n : Nat) (hn : d + 5 ≤ n) (hT : 100 < T) (hk : (((allAdv b k []).map (·.2)).foldl addK []).length < 64) : callN P gl T (n + 1) (ix .may_be) [b.e, skE k] = some (.own (.lst ((mayBe b k).map .str))) := by
  obtain ⟨m, rfl⟩ : ∃ m, n = m + 1 := ⟨n - 1, by omega⟩
  obtain ⟨r1, e1, v1⟩ := all_ok (P := P) (gl := gl) (T := T) (ix := ix) h m (by omega) hT
  simp only [List.map_nil] at e1
  have hlen : (allAdv b k []).length ≤ sizeTop := by rw [adv_len]; have := h.w; unfold sizeTop; omega
  rw [run_of]
  refine run_Ret rfl ?_
  simp [cd, c_may_be, evalR, evalF, calms, calm, q_dcomp, St.freeze, e1, v1, items, hlen]
  obtain ⟨ws, e2, e3⟩ := loopD_t (e := rowA) (k := fun p : Pick × Txt => p.2) (v := fun _ => PV.bl true) (xs := allAdv b k []) (l := []) (vs := []) (s := ⟨[some (.val b.e), some (.val (skE k)), none, none], []⟩)
    (body := fun x s2 => (Out.ofOpt (bindT (.tp [.nm 2, .nm 3]) x s2) s2).bind fun s3 _ => (tests ⟨callN P gl T (m + 1), fun j => gl[j]?, T⟩ [] s3).bind fun b s4 => if b then (evalE ⟨callN P gl T (m + 1), fun j => gl[j]?, T⟩ (.var 3) s4).bind fun kv s5 => (evalE ⟨callN P gl T (m + 1), fun j => gl[j]?, T⟩ (.lit (.bl true)) s5).bind fun vv s6 => .ok (some (kv, vv)) (s6.wipe [2, 3]) else .ok none (s4.wipe [2, 3])) rfl
    (by intro p hp; simp [rowA, St.freeze])
  simp [St.freeze] at e2
  rw [e2]
  have hs : sSorted [.dic ((((allAdv b k []).map (·.2)).foldl addK []).map .str) ws] = some (.lst ((mayBe b k).map .str)) := by
    simp only [sSorted, List.length_map, if_pos hk, sortV]
    have : allInts ((((allAdv b k []).map (·.2)).foldl addK []).map PV.str) = none ∨ (((allAdv b k []).map (·.2)).foldl addK []) = [] := by
      cases ((allAdv b k []).map (·.2)).foldl addK [] with
      | nil => exact .inr rfl
      | cons a r => exact .inl rfl
    rcases this with h0 | h0
    · rw [h0, allStrs_map]; rfl
    · unfold mayBe; rw [h0]; rfl
  simp [sem]
  rw [hs]
  simp [mark, freshE, freshB, fresh, isBox]
end
section
variable [Has P ix .need_advice]
theorem need_ok {b : Book} {a : Txt} (ha : a ∈ b.A) (n : Nat) : callN P gl T (n + 1) (ix .need_advice) [b.e, .str a] = some (.val .non) := by
  have h1 : sIsInst [.str a, .fn 0] = some (.bl true) := rfl
  have h2 : sNin [.str a, strE b.A] = some (.bl false) := by
    have hp : plains (b.A.map PV.str) = true := plains_of fun x hx => by obtain ⟨y, _, rfl⟩ := List.mem_map.mp hx; rfl
    have hm : mem (b.A.map PV.str) (.str a) = true := by
      unfold mem; rw [List.any_map, List.any_eq_true]
      exact ⟨a, ha, by simp [eqv]⟩
    simp [sNin, strE, plain, hp, depth, hm]
  have hi : sIx [b.e, .int 2] = some (strE b.A) := ix3 _ _ _ _
  rw [run_of]
  unfold runF
  simp [cd, c_need_advice, calms, calm, sem, h1, h2, hi, St.freeze]
end
section
variable [Has P ix .rules_of] [Has P ix .conditions_of] [Has P ix .parts_within] [Has P ix .cuts_in] [Has P ix .stretches] [Has P ix .cells_by] [Has P ix .cells]
  [Has P ix .first_of] [Has P ix .case_of] [Has P ix .ways_in] [Has P ix .picks_of] [Has P ix .is_so] [Has P ix .world_of] [Has P ix .gone] [Has P ix .advice] [Has P ix .all_advices] [Has P ix .need_advice]
def fcS (b : Book) (k : Sketch) (a : Txt) (pre : List (Pick × Txt)) (s : St) : Prop := (∀ p ∈ pre, (p.2 == a) = false) ∧ ∃ x y, s = ⟨[some (.val b.e), some (.val (skE k)), some (.val (.str a)), x, y], []⟩
theorem first_case_ok [Has P ix .first_case] {b : Book} {k : Sketch} {a : Txt} {d : Nat} (h : OkA b k [] d) (ha : a ∈ b.A) (n : Nat) (hn : d + 5 ≤ n) (hT : 100 < T) : callN P gl T (n + 1) (ix .first_case) [b.e, skE k, .str a] = some (.val (caseO (firstCase b k a))) := by
  obtain ⟨m, rfl⟩ : ∃ m, n = m + 2 := ⟨n - 2, by omega⟩
  obtain ⟨r1, e1, v1⟩ := all_ok (P := P) (gl := gl) (T := T) (ix := ix) h (m + 1) (by omega) hT
  simp only [List.map_nil] at e1
  rw [run_of]
  refine run_Ret rfl ?_
  simp [cd, c_first_case, St.freeze, need_ok ha]
  refine Ret_bind (Q1 := fun f s => (f = .nx ∧ firstCase b k a = none) ∨ (∃ c, firstCase b k a = some c ∧ f = .ret (.val (cse c)))) (forr_RetQ (e := rowA) (xs := allAdv b k []) (vs := [r1.v]) (s1 := _) (by simp [St.freeze, e1]) (by rw [v1]; rfl)
    (fcS b k a) _ ⟨by simp, none, none, rfl⟩ ?_ ?_) ?_
  · rintro s ⟨h1, _⟩
    refine .inl ⟨rfl, ?_⟩
    unfold firstCase
    rw [List.find?_eq_none.mpr fun p hp => by simp [h1 p hp]]; rfl
  · rintro pre p post s hx ⟨h1, x, y, rfl⟩
    refine ⟨_, rfl, ?_⟩
    have hpm : p ∈ allAdv b k [] := by rw [hx]; simp
    have hpl : p.1.length ≤ 1000 := by
      unfold allAdv at hpm
      obtain ⟨q, hq, rfl⟩ := List.mem_map.mp hpm
      have := picks_plen _ q hq
      have := cells_len b k []
      have := h.l.hF
      show q.length ≤ 1000
      omega
    cases hp : p.2 == a
    · simp [calms, calm, St.freeze, sem, hp]
      refine ⟨fun q hq => ?_, _, _, rfl⟩
      rcases List.mem_append.mp hq with hq | hq
      · exact h1 q hq
      · rw [List.mem_singleton.mp hq]; exact hp
    · have hc := case_ok (P := P) (gl := gl) (T := T) (ix := ix) p.1 m hpl
      have hf : firstCase b k a = some (caseOf p.1) := by
        unfold firstCase
        rw [hx, List.find?_append, List.find?_eq_none.mpr fun p hp => by simp [h1 p hp], List.find?_cons, hp]; rfl
      simp [calms, calm, St.freeze, sem, hp, evalR, evalF, hc, hf]
  · rintro f s (⟨rfl, h0⟩ | ⟨c, h0, rfl⟩)
    · simp [evalR, evalF, mark, freshE, h0, caseO]
    · simp [h0, caseO]
theorem how_many_ok [Has P ix .how_many] [Has P ix .size_of] [Has P ix .many_in] {b : Book} {k : Sketch} {a : Txt} {d : Nat} (h : OkA b k [] d) (ha : a ∈ b.A) (hz : ∀ p ∈ picks (cellsOf b k []), ∀ c ∈ p, okSz c) (n : Nat) (hn : d + 5 ≤ n) (hT : 100 < T) : callN P gl T (n + 1) (ix .how_many) [b.e, skE k, .str a] = some (.val (.int (howMany b k a))) := by
  obtain ⟨m, rfl⟩ : ∃ m, n = m + 2 := ⟨n - 2, by omega⟩
  obtain ⟨r1, e1, v1⟩ := all_ok (P := P) (gl := gl) (T := T) (ix := ix) h (m + 1) (by omega) hT
  simp only [List.map_nil] at e1
  have hlen : (allAdv b k []).length ≤ sizeTop := by rw [adv_len]; have := h.w; unfold sizeTop; omega
  rw [run_of]
  refine run_Ret rfl ?_
  simp [cd, c_how_many, St.freeze, need_ok ha, evalR, evalF, calms, calm, q_comp, e1, v1, items, hlen]
  rw [loopL_mapT (g := fun p : Pick × Txt => if (p.2 == a) = true then some (PV.int (manyIn p.1)) else none)]
  · have e2 := filterMap_if (fun p : Pick × Txt => p.2 == a) (fun p => PV.int (manyIn p.1)) (allAdv b k [])
    rw [e2]
    have e3 : sSum [.lst (((allAdv b k []).filter fun p => p.2 == a).map fun p => PV.int (manyIn p.1))] = some (.int (howMany b k a)) := by
      have : (((allAdv b k []).filter fun p => p.2 == a).map fun p => PV.int (manyIn p.1)) = (((allAdv b k []).filter fun p => p.2 == a).map fun p => manyIn p.1).map PV.int := by rw [List.map_map]; rfl
      rw [this]
      simp only [sSum, allInts_map]; rfl
    simp [sem]
    rw [e3]
    simp [mark, freshE, freshB, fresh]
  · intro p hp
    have hpm : p.1 ∈ picks (cellsOf b k []) := by
      unfold allAdv at hp
      obtain ⟨q, hq, rfl⟩ := List.mem_map.mp hp
      exact hq
    have hmn := many_ok (P := P) (gl := gl) (T := T) (ix := ix) p.1 m (hz _ hpm)
    cases hpa : p.2 == a <;> simp [rowA, St.freeze, calms, calm, sem, hpa, hmn]
end
end R
end
section
set_option Elab.async false
set_option linter.all false
set_option autoImplicit false
set_option maxRecDepth 100000
/-! order: texts, sorted lists -/
namespace Ev
theorem ltT_irr : ∀ a : Txt, ltT a a = false
  | [] => rfl
  | a :: s => by rw [ltT]; simp [ltT_irr s]
theorem ltT_trans : ∀ a b c : Txt, ltT a b = true → ltT b c = true → ltT a c = true
  | [], [], _, h, _ => by simp [ltT] at h
  | [], _ :: _, [], _, h => by simp [ltT] at h
  | [], _ :: _, _ :: _, _, _ => rfl
  | _ :: _, [], _, h, _ => by simp [ltT] at h
  | _ :: _, _ :: _, [], _, h => by simp [ltT] at h
  | a :: s, b :: t, c :: u, h, k => by
    rw [ltT] at h k ⊢
    by_cases h1 : a = b
    · subst h1
      by_cases h2 : a = c
      · subst h2
        simp only [beq_self_eq_true, if_true] at h k ⊢
        exact ltT_trans s t u h k
      · have : (a == c) = false := by rw [beq_eq_false_iff_ne]; exact h2
        rw [this] at k ⊢
        exact k
    · have e1 : (a == b) = false := by rw [beq_eq_false_iff_ne]; exact h1
      rw [e1] at h
      have h' : a < b := of_decide_eq_true h
      by_cases h2 : b = c
      · subst h2
        rw [e1]
        exact h
      · have e2 : (b == c) = false := by rw [beq_eq_false_iff_ne]; exact h2
        rw [e2] at k
        have k' : b < c := of_decide_eq_true k
        have e3 : (a == c) = false := by rw [beq_eq_false_iff_ne]; omega
        rw [e3]
        exact decide_eq_true (by omega)
theorem ltT_tri : ∀ a b : Txt, ltT a b = true ∨ a = b ∨ ltT b a = true
  | [], [] => .inr (.inl rfl)
  | [], _ :: _ => .inl rfl
  | _ :: _, [] => .inr (.inr rfl)
  | a :: s, b :: t => by
    rw [ltT, ltT]
    by_cases h1 : a = b
    · subst h1
      simp only [beq_self_eq_true, if_true]
      rcases ltT_tri s t with h | h | h
      · exact .inl h
      · exact .inr (.inl (by rw [h]))
      · exact .inr (.inr h)
    · have e1 : (a == b) = false := by rw [beq_eq_false_iff_ne]; exact h1
      have e2 : (b == a) = false := by rw [beq_eq_false_iff_ne]; exact Ne.symm h1
      rw [e1, e2]
      rcases Nat.lt_or_gt_of_ne h1 with h | h
      · exact .inl (decide_eq_true h)
      · exact .inr (.inr (decide_eq_true h))
/-- a strict total order -/
structure Sto {α : Type} (lt : α → α → Bool) : Prop where
  irr : ∀ a, lt a a = false
  trans : ∀ a b c, lt a b = true → lt b c = true → lt a c = true
  tri : ∀ a b, lt a b = true ∨ a = b ∨ lt b a = true
theorem stoT : Sto ltT := ⟨ltT_irr, ltT_trans, ltT_tri⟩
def ltI (a b : Int) : Bool := decide (a < b)
theorem stoI : Sto ltI := ⟨fun a => by simp [ltI], fun a b c h k => by simp [ltI] at *; omega, fun a b => by simp [ltI]; omega⟩
section
variable {α : Type} {lt : α → α → Bool}
theorem Sto.asym (o : Sto lt) {a b : α} (h : lt a b = true) : lt b a = false := by
  cases e : lt b a with
  | false => rfl
  | true => have := o.trans _ _ _ h e; rw [o.irr] at this; exact absurd this Bool.false_ne_true
theorem Sto.le_of (o : Sto lt) {a b : α} (h : lt b a = false) : lt a b = true ∨ a = b := by
  rcases o.tri a b with h1 | h1 | h1
  · exact .inl h1
  · exact .inr h1
  · rw [h] at h1; exact absurd h1 Bool.false_ne_true
/-- strictly rising -/
def Asc (lt : α → α → Bool) (l : List α) : Prop := l.Pairwise fun a b => lt a b = true
def Wk (lt : α → α → Bool) (l : List α) : Prop := l.Pairwise fun a b => lt b a = false
def insG (lt : α → α → Bool) (x : α) : List α → List α
  | [] => [x]
  | y :: r => if lt y x = false then x :: y :: r else y :: insG lt x r
def sortG (lt : α → α → Bool) : List α → List α
  | [] => []
  | x :: r => insG lt x (sortG lt r)
theorem insG_mem (x z : α) : ∀ l : List α, z ∈ insG lt x l ↔ z = x ∨ z ∈ l
  | [] => by simp [insG]
  | y :: r => by
    rw [insG]
    split
    · simp
    · simp only [List.mem_cons, insG_mem x z r]
      constructor
      · rintro (h | h | h)
        · exact .inr (.inl h)
        · exact .inl h
        · exact .inr (.inr h)
      · rintro (h | h | h)
        · exact .inr (.inl h)
        · exact .inl h
        · exact .inr (.inr h)
theorem sortG_mem (z : α) : ∀ l : List α, z ∈ sortG lt l ↔ z ∈ l
  | [] => by simp [sortG]
  | x :: r => by rw [sortG, insG_mem, sortG_mem z r, List.mem_cons]
theorem insG_len (x : α) : ∀ l : List α, (insG lt x l).length = l.length + 1
  | [] => rfl
  | y :: r => by rw [insG]; split <;> simp [insG_len x r]
theorem sortG_len : ∀ l : List α, (sortG lt l).length = l.length
  | [] => rfl
  | x :: r => by rw [sortG, insG_len, sortG_len r]; rfl
theorem insG_wk (o : Sto lt) (x : α) : ∀ l : List α, Wk lt l → Wk lt (insG lt x l)
  | [], _ => by simp [insG, Wk]
  | y :: r, h => by
    unfold Wk at h ⊢
    rw [List.pairwise_cons] at h
    rw [insG]
    split
    · rename_i h1
      rw [List.pairwise_cons, List.pairwise_cons]
      refine ⟨fun z hz => ?_, h⟩
      rcases List.mem_cons.mp hz with rfl | hz
      · exact h1
      · have h2 := h.1 z hz
        cases e : lt z x with
        | false => rfl
        | true =>
          rcases o.le_of h1 with h3 | h3
          · have := o.trans _ _ _ e h3; rw [h2] at this; exact absurd this Bool.false_ne_true
          · subst h3; rw [h2] at e; exact absurd e Bool.false_ne_true
    · rename_i h1
      rw [List.pairwise_cons]
      refine ⟨fun z hz => ?_, insG_wk o x r h.2⟩
      rcases (insG_mem x z r).mp hz with rfl | hz
      · have h1 : lt y z = true := by cases e : lt y z with | true => rfl | false => exact absurd e h1
        exact o.asym h1
      · exact h.1 z hz
theorem sortG_wk (o : Sto lt) : ∀ l : List α, Wk lt (sortG lt l)
  | [] => .nil
  | x :: r => insG_wk o x _ (sortG_wk o r)
theorem insG_nodup (x : α) : ∀ l : List α, x ∉ l → l.Nodup → (insG lt x l).Nodup
  | [], _, _ => by simp [insG]
  | y :: r, hx, h => by
    rw [insG]
    split
    · rw [List.nodup_cons]; exact ⟨hx, h⟩
    · rw [List.nodup_cons] at h ⊢
      refine ⟨fun hy => ?_, insG_nodup x r (fun hr => hx (List.mem_cons_of_mem _ hr)) h.2⟩
      rcases (insG_mem x y r).mp hy with e | hy
      · exact hx (by rw [e]; exact List.mem_cons_self)
      · exact h.1 hy
theorem sortG_nodup : ∀ l : List α, l.Nodup → (sortG lt l).Nodup
  | [], _ => by simp [sortG]
  | x :: r, h => by
    rw [List.nodup_cons] at h
    exact insG_nodup x _ (fun hx => h.1 ((sortG_mem x r).mp hx)) (sortG_nodup r h.2)
theorem asc_of_wk (o : Sto lt) : ∀ {l : List α}, Wk lt l → l.Nodup → Asc lt l
  | [], _, _ => .nil
  | x :: r, h, n => by
    unfold Wk at h
    rw [List.pairwise_cons] at h
    rw [List.nodup_cons] at n
    unfold Asc
    rw [List.pairwise_cons]
    refine ⟨fun z hz => ?_, asc_of_wk o h.2 n.2⟩
    rcases o.le_of (h.1 z hz) with h1 | h1
    · exact h1
    · subst h1; exact absurd hz n.1
theorem Asc.nodup (o : Sto lt) {l : List α} (h : Asc lt l) : l.Nodup := by
  unfold Asc at h
  refine h.imp fun {a b} hab e => ?_
  subst e; rw [o.irr] at hab; exact absurd hab Bool.false_ne_true
/-- rising lists with the same things are one -/
theorem asc_ext (o : Sto lt) : ∀ {l m : List α}, Asc lt l → Asc lt m → (∀ z, z ∈ l ↔ z ∈ m) → l = m
  | [], [], _, _, _ => rfl
  | [], y :: m, _, _, h => absurd ((h y).mpr List.mem_cons_self) (by simp)
  | x :: l, [], _, _, h => absurd ((h x).mp List.mem_cons_self) (by simp)
  | x :: l, y :: m, hl, hm, h => by
    unfold Asc at hl hm
    rw [List.pairwise_cons] at hl hm
    have exy : x = y := by
      rcases List.mem_cons.mp ((h x).mp List.mem_cons_self) with e | e
      · exact e
      · rcases List.mem_cons.mp ((h y).mpr List.mem_cons_self) with e' | e'
        · exact e'.symm
        · have h1 := hm.1 x e
          have h2 := hl.1 y e'
          rw [o.asym h1] at h2; exact absurd h2 Bool.false_ne_true
    subst exy
    rw [asc_ext o hl.2 hm.2]
    intro z
    constructor
    · intro hz
      rcases List.mem_cons.mp ((h z).mp (List.mem_cons_of_mem _ hz)) with e | e
      · subst e
        have := hl.1 z hz; rw [o.irr] at this; exact absurd this Bool.false_ne_true
      · exact e
    · intro hz
      rcases List.mem_cons.mp ((h z).mpr (List.mem_cons_of_mem _ hz)) with e | e
      · subst e
        have := hm.1 z hz; rw [o.irr] at this; exact absurd this Bool.false_ne_true
      · exact e
end
theorem insT_G (x : Txt) : ∀ l, insT x l = insG ltT x l
  | [] => rfl
  | y :: r => by
    rw [insT, insG, insT_G x r]
    unfold leT
    cases ltT y x <;> rfl
theorem sortT_G : ∀ l, sortT l = sortG ltT l
  | [] => rfl
  | x :: r => by rw [sortT, sortG, sortT_G r, insT_G]
theorem insI_G (x : Int) : ∀ l, insI x l = insG ltI x l
  | [] => rfl
  | y :: r => by
    rw [insI, insG, insI_G x r]
    unfold ltI
    by_cases h : x ≤ y
    · rw [if_pos h, if_pos (by rw [decide_eq_false_iff_not]; omega)]
    · rw [if_neg h, if_neg (by rw [decide_eq_false_iff_not]; omega)]
theorem sortI_G : ∀ l, sortI l = sortG ltI l
  | [] => rfl
  | x :: r => by rw [sortI, sortG, sortI_G r, insI_G]
theorem dedupT_mem (z : Txt) : ∀ l, z ∈ dedupT l ↔ z ∈ l
  | [] => by simp [dedupT]
  | [i] => by simp [dedupT]
  | i :: j :: r => by
    rw [dedupT]
    split
    · rename_i h
      have e : i = j := by simpa using h
      rw [dedupT_mem z (j :: r)]; subst e; simp
    · simp only [List.mem_cons, dedupT_mem z (j :: r)]
theorem dedupI_mem (z : Int) : ∀ l, z ∈ dedupI l ↔ z ∈ l
  | [] => by simp [dedupI]
  | [i] => by simp [dedupI]
  | i :: j :: r => by
    rw [dedupI]
    split
    · rename_i h
      have e : i = j := by simpa using h
      rw [dedupI_mem z (j :: r)]; subst e; simp
    · simp only [List.mem_cons, dedupI_mem z (j :: r)]
theorem dedupT_asc : ∀ {l : List Txt}, Wk ltT l → Asc ltT (dedupT l)
  | [], _ => .nil
  | [i], _ => by simp [dedupT, Asc]
  | i :: j :: r, h => by
    unfold Wk at h
    rw [List.pairwise_cons] at h
    rw [dedupT]
    have ih := dedupT_asc (l := j :: r) h.2
    split
    · exact ih
    · rename_i h1
      have hne : i ≠ j := fun e => h1 (by rw [e]; simp)
      unfold Asc
      rw [List.pairwise_cons]
      refine ⟨fun z hz => ?_, ih⟩
      have hij : ltT i j = true := by
        rcases stoT.le_of (h.1 j List.mem_cons_self) with e | e
        · exact e
        · exact absurd e hne
      rcases List.mem_cons.mp ((dedupT_mem z _).mp hz) with rfl | hz
      · exact hij
      · have h2 := h.2
        rw [List.pairwise_cons] at h2
        rcases stoT.le_of (h2.1 z hz) with e | e
        · exact stoT.trans _ _ _ hij e
        · rw [← e]; exact hij
theorem dedupI_asc : ∀ {l : List Int}, Wk ltI l → Asc ltI (dedupI l)
  | [], _ => .nil
  | [i], _ => by simp [dedupI, Asc]
  | i :: j :: r, h => by
    unfold Wk at h
    rw [List.pairwise_cons] at h
    rw [dedupI]
    have ih := dedupI_asc (l := j :: r) h.2
    split
    · exact ih
    · rename_i h1
      have hne : i ≠ j := fun e => h1 (by rw [e]; simp)
      unfold Asc
      rw [List.pairwise_cons]
      refine ⟨fun z hz => ?_, ih⟩
      have hij : ltI i j = true := by
        rcases stoI.le_of (h.1 j List.mem_cons_self) with e | e
        · exact e
        · exact absurd e hne
      rcases List.mem_cons.mp ((dedupI_mem z _).mp hz) with rfl | hz
      · exact hij
      · have h2 := h.2
        rw [List.pairwise_cons] at h2
        rcases stoI.le_of (h2.1 z hz) with e | e
        · exact stoI.trans _ _ _ hij e
        · rw [← e]; exact hij
theorem sortedI (l : List Int) : Asc ltI (dedupI (sortI l)) ∧ ∀ z, z ∈ dedupI (sortI l) ↔ z ∈ l := by
  rw [sortI_G]
  exact ⟨dedupI_asc (sortG_wk stoI l), fun z => by rw [dedupI_mem, sortG_mem]⟩
theorem sortedT (l : List Txt) : Asc ltT (dedupT (sortT l)) ∧ ∀ z, z ∈ dedupT (sortT l) ↔ z ∈ l := by
  rw [sortT_G]
  exact ⟨dedupT_asc (sortG_wk stoT l), fun z => by rw [dedupT_mem, sortG_mem]⟩
theorem sortT_asc {l : List Txt} (h : l.Nodup) : Asc ltT (sortT l) ∧ ∀ z, z ∈ sortT l ↔ z ∈ l := by
  rw [sortT_G]
  exact ⟨asc_of_wk stoT (sortG_wk stoT l) (sortG_nodup l h), fun z => sortG_mem z l⟩
end Ev
end
section
set_option Elab.async false
set_option linter.all false
set_option autoImplicit false
set_option maxRecDepth 100000
set_option maxHeartbeats 1000000
namespace R
open Ev
def intE (L : List Int) : PV := .lst (L.map .int)
def g (L : List Int) (k : Nat) : Int := L.getD k 0
theorem ixI {L : List Int} {k : Nat} (h : k < L.length) : sIx [intE L, .int (k : Int)] = some (.int (g L k)) := by
  unfold intE g
  rw [ixL (by rw [List.length_map]; exact h)]
  simp [List.getD_eq_getElem?_getD, h]
def Nn (L : List Int) : Prop := ∀ x ∈ L, 0 ≤ x
theorem g_nn {L : List Int} (h : Nn L) (k : Nat) : 0 ≤ g L k := by
  unfold g
  by_cases hk : k < L.length
  · rw [List.getD_eq_getElem?_getD, List.getElem?_eq_getElem hk]; exact h _ (List.getElem_mem hk)
  · rw [List.getD_eq_getElem?_getD, List.getElem?_eq_none (by omega)]; simp
def sub (L : List Int) (i j : Nat) : List Int := (L.drop i).take (j - i)
theorem sub_nn {L : List Int} (h : Nn L) (i j : Nat) : Nn (sub L i j) := fun x hx => h x (List.mem_of_mem_drop (List.mem_of_mem_take hx))
theorem drop_nn {L : List Int} (h : Nn L) (i : Nat) : Nn (L.drop i) := fun x hx => h x (List.mem_of_mem_drop hx)
theorem sub_len (L : List Int) (i j : Nat) : (sub L i j).length = min (j - i) (L.length - i) := by unfold sub; rw [List.length_take, List.length_drop]
theorem slLH_I (L : List Int) (i j : Nat) : sSlLH [intE L, .int (i : Int), .int (j : Int)] = some (intE (sub L i j)) := by
  have h1 : ((i : Int) < 0) = False := by simp
  have h2 : ((j : Int) < 0) = False := by simp
  have e : ∀ n : Nat, ((n : Int)).toNat = n := fun n => Int.toNat_natCast n
  simp only [sSlLH, cutV, intE, cut, slAt, h1, h2, if_false, e, sub, List.length_map]
  congr 2
  rw [← List.map_drop, ← List.map_take]
  congr 1
  by_cases hi : i ≤ L.length
  · rw [Nat.min_eq_left hi]
    by_cases hj : j ≤ L.length
    · rw [Nat.min_eq_left hj]
    · have e1 : min j L.length = L.length := Nat.min_eq_right (by omega)
      rw [e1, List.take_of_length_le (by rw [List.length_drop]; exact Nat.le_refl _), List.take_of_length_le (by rw [List.length_drop]; omega)]
  · have e1 : min i L.length = L.length := Nat.min_eq_right (by omega)
    rw [e1, List.drop_of_length_le (Nat.le_refl _), List.drop_of_length_le (by omega)]; simp
theorem slL_I (L : List Int) (i : Nat) : sSlL [intE L, .int (i : Int)] = some (intE (L.drop i)) := by
  have h1 : ((i : Int) < 0) = False := by simp
  have e : ∀ n : Nat, ((n : Int)).toNat = n := fun n => Int.toNat_natCast n
  simp only [sSlL, cutV, intE, cut, slAt, h1, if_false, e, List.length_map]
  congr 2
  rw [← List.map_drop, ← List.map_take]
  congr 1
  by_cases hi : i ≤ L.length
  · rw [Nat.min_eq_left hi, List.take_of_length_le (by rw [List.length_drop]; omega)]
  · rw [Nat.min_eq_right (by omega), List.drop_of_length_le (Nat.le_refl _), List.drop_of_length_le (by omega)]; simp
theorem ixMem {xs : List PV} {i : Int} (h0 : 0 ≤ i) (h1 : i < xs.length) : ∃ v ∈ xs, sIx [.lst xs, .int i] = some v := by
  obtain ⟨k, rfl⟩ := Int.eq_ofNat_of_zero_le h0
  have hk : k < xs.length := by omega
  exact ⟨_, List.getElem_mem hk, ixL hk⟩
@[simp] theorem smod_lit (a : Int) (n : Nat) [NeZero n] : True := trivial
theorem smod_pos {a j : Int} (h : 0 < j) : sMod [.int a, .int j] = some (.int (a % j)) := by simp only [sMod, if_pos h]
theorem sfdiv_pos {a j : Int} (h : 0 < j) (w : wide j = true) : sFdiv [.int a, .int j] = some (.int (a / j)) := by simp only [sFdiv]; rw [if_pos (by simp [h, w])]
variable {P : List Fn} {gl : List PV} {T : Nat} {ix : Nm → Nat}
section
variable [Has P ix .law_cell_at]
theorem cell_at_ok (ns : List Int) (k : Nat) (n : Nat) : callN P gl T (n + 1) (ix .law_cell_at) [intE ns, .int k] = some (.val (.int (g ns k))) := by
  have hl : sLen [intE ns] = some (.int ns.length) := by simp [sLen, intE]
  rw [run_of]
  refine run_Ret rfl ?_
  by_cases h : k < ns.length
  · have h' : ((k : Int) < (ns.length : Int)) := by omega
    simp [cd, c_law_cell_at, calms, calm, sem, hl, h, evalR, evalF, ixI h, mark, freshE, freshB, fresh]
  · have h' : ¬ ((k : Int) < (ns.length : Int)) := by omega
    have e : g ns k = 0 := by unfold g; rw [List.getD_eq_getElem?_getD, List.getElem?_eq_none (by omega)]; rfl
    simp [cd, c_law_cell_at, calms, calm, sem, hl, h, evalR, evalF, mark, freshE, e]
end
theorem mod_bd (x : Int) : 0 ≤ x % 2305843009213693951 ∧ x % 2305843009213693951 < 2305843009213693951 := by omega
theorem wide_of {z : Int} (h : z.natAbs < 2 ^ 17) : wide z = true := by
  unfold wide
  rw [decide_eq_true_eq]
  exact Nat.lt_of_lt_of_le h (Nat.pow_le_pow_right (by decide) (by decide))
def DrS (cell many size : Int) (j : Nat) (s : St) : Prop := ∃ (L : List Int) (r t : Int) (k6 : Option SV), s = ⟨[some (.val (.int cell)), some (.val (.int many)), some (.val (.int size)), some (.own (intE L)), some (.val (.int r)), some (.val (.int t)), k6], []⟩ ∧
  L.length = j - 3 ∧ (∀ x ∈ L, 0 ≤ x ∧ x < size) ∧ 0 ≤ t ∧ t < 2305843009213693951
def drB : List CS := [(.asgO 5 (.bi .mod [(.bi .add [(.bi .add [(.bi .add [(.bi .mul [(.var 5), (.var 5)]), (.bi .mul [(.lit (.int (48271))), (.var 5)])]), (.var 6)]), (.lit (.int (1)))]), (.lit (.int (2305843009213693951)))])), (.ife (.and (.bi .gt [(.var 6), (.lit (.int (2)))]) (.bi .gt [(.var 4), (.lit (.int (0)))])) [(.ex (.mut .append 3 [(.bi .mod [(.var 4), (.var 2)])])), (.asgO 4 (.bi .fdiv [(.var 4), (.var 2)]))] [(.ife (.bi .gt [(.var 6), (.lit (.int (2)))]) [(.ex (.mut .append 3 [(.bi .mod [(.bi .fdiv [(.var 5), (.lit (.int (4096)))]), (.var 2)])]))] [])])]
theorem dr_turn {Γ : Cx} {cell many size : Int} {j : Nat} {s : St} (hs : 0 < size) (hw : wide size = true) (hj : j < 10000) (h : DrS cell many size j s) : ∃ s3, bindT (.nm 6) (.int (j : Int)) s = some s3 ∧ Ret (execs Γ drB s3) fun f s' => f = .nx ∧ DrS cell many size (j + 1) s' := by
  obtain ⟨L, r, t, k6, rfl, hl, hL, t0, t1⟩ := h
  have hb : big t = true := by
    unfold big
    rw [decide_eq_true_eq]; omega
  have hm : sMul [.int t, .int t] = some (.int (t * t)) := by
    have : mulOk t t = true := by unfold mulOk; rw [hb]; rfl
    simp only [sMul, this, if_true]
  have hm2 : sMul [.int 48271, .int t] = some (.int (48271 * t)) := by
    have : mulOk 48271 t = true := by unfold mulOk; rw [hb]; simp
    simp only [sMul, this, if_true]
  have hap : ∀ z : Int, semMut .append (intE L) [.int z] = some (.non, intE (L ++ [z])) := fun z => by
    unfold intE
    rw [app_ok (by rw [List.length_map]; omega)]; simp
  have hkm : kindM .append (intE L) = true := rfl
  have h4 : wide 4096 = true := wide_of (by decide)
  have hadd : ∀ z : Int, 0 ≤ z → z < size → ∀ x ∈ L ++ [z], 0 ≤ x ∧ x < size := fun z z0 z1 x hx => by
    rcases List.mem_append.mp hx with h | h
    · exact hL x h
    · rw [List.mem_singleton.mp h]; exact ⟨z0, z1⟩
  have hd1 : sFdiv [.int r, .int size] = some (.int (r / size)) := sfdiv_pos hs hw
  have hd2 : ∀ z : Int, sFdiv [.int z, .int 4096] = some (.int (z / 4096)) := fun z => sfdiv_pos (by decide) h4
  have hd3 : ∀ z : Int, sMod [.int z, .int size] = some (.int (z % size)) := fun z => smod_pos hs
  have hd4 : ∀ z : Int, sMod [.int z, .int 2305843009213693951] = some (.int (z % 2305843009213693951)) := fun z => smod_pos (by decide)
  refine ⟨_, rfl, ?_⟩
  by_cases h1 : (2 : Int) < (j : Int)
  · have h1' : 2 < j := by omega
    by_cases h2 : 0 < r
    · simp [drB, evalF, mark, freshE, freshB, fresh, isBox, sem, hm, hm2, hap, hkm, hd1, hd2, hd3, hd4, h1, h1', h2, calms, calm]
      exact ⟨L ++ [r % size], r / size, _, _, rfl, by rw [List.length_append, List.length_singleton]; omega, hadd _ (Int.emod_nonneg _ (by omega)) (Int.emod_lt_of_pos _ hs), mod_bd _⟩
    · simp [drB, evalF, mark, freshE, freshB, fresh, isBox, sem, hm, hm2, hap, hkm, hd1, hd2, hd3, hd4, h1, h1', h2, calms, calm]
      exact ⟨_, r, _, _, rfl, by rw [List.length_append, List.length_singleton]; omega, hadd _ (Int.emod_nonneg _ (by omega)) (Int.emod_lt_of_pos _ hs), mod_bd _⟩
  · have h1' : ¬ 2 < j := by omega
    simp [drB, evalF, mark, freshE, freshB, fresh, isBox, sem, hm, hm2, hap, hkm, hd1, hd2, hd3, hd4, h1, h1', calms, calm]
    exact ⟨L, r, _, _, rfl, by omega, hL, mod_bd _⟩
section
variable [Has P ix .law_draws]
theorem rngL_nat (m : Nat) : rngL 0 (m : Int) = (List.range m).map fun k : Nat => PV.int (k : Int) := by
  unfold rngL
  simp
theorem range_split {m : Nat} {pre post : List Nat} {x : Nat} (h : List.range m = pre ++ x :: post) : x = pre.length ∧ pre.length < m := by
  have h1 : (List.range m)[pre.length]? = some x := by rw [h]; simp
  rw [List.getElem?_eq_some_iff] at h1
  obtain ⟨h2, h3⟩ := h1
  rw [List.getElem_range] at h3
  rw [List.length_range] at h2
  exact ⟨h3.symm, h2⟩
theorem draws_core {Γ : Cx} (cell E : Int) (many size : Nat) (hm : many < 9000) (hs : 0 < size) (hw : wide (size : Int) = true) (hb : bnd ((many : Int) + 3) = true) (hpow : sPow [.int 10, .int 18] = some (.int E))
    (hmul' : sMul [.int cell, .int (b2i (decide (E ≤ cell)))] = some (.int (cell * b2i (decide (E ≤ cell))))) :
    ∃ r, runF Γ (c_law_draws ix) [.int cell, .int many, .int size] = some r ∧ ∃ L : List Int, r = .own (intE L) ∧ L.length = many ∧ ∀ x ∈ L, 0 ≤ x ∧ x < size := by
  have hti : ∀ b : Bool, sToInt [.bl b] = some (.int (b2i b)) := fun _ => rfl
  have hd4 : ∀ z : Int, sMod [.int z, .int 2305843009213693951] = some (.int (z % 2305843009213693951)) := fun z => smod_pos (by decide)
  have hcode : c_law_draws ix = ⟨3, 7, [(.asgO 3 (.lst [])), (.asgO 4 (.bi .mul [(.var 0), (.bi .toInt [(.bi .ge [(.var 0), (.bi .pow [(.lit (.int (10))), (.lit (.int (18)))])])])])), (.asgO 5 (.bi .mod [(.var 0), (.lit (.int (2305843009213693951)))])), (.forr (.nm 6) .rng [(.bi .add [(.var 1), (.lit (.int (3)))])] drB), (.ret (.var 3))]⟩ := rfl
  rw [hcode]
  refine run_RetP rfl ?_
  have h1 : ∀ s : St, evalE Γ (.bi .pow [(.lit (.int (10))), (.lit (.int (18)))]) s = .ok (.int E) s := fun s => by simp [sem, hpow]
  have hv : evalVs Γ [(.bi .add [(.var 1), (.lit (.int (3)))])] ⟨[some (.val (.int cell)), some (.val (.int many)), some (.val (.int size)), some (.own (intE [])), some (.val (.int (cell * b2i (decide (E ≤ cell))))), some (.val (.int (cell % 2305843009213693951))), none], []⟩ = .ok [.int ((many : Int) + 3)] ⟨[some (.val (.int cell)), some (.val (.int many)), some (.val (.int size)), some (.own (intE [])), some (.val (.int (cell * b2i (decide (E ≤ cell))))), some (.val (.int (cell % 2305843009213693951))), none], []⟩ := by simp [sem, calms, calm]
  refine Ret_seq (fun s => s = ⟨[some (.val (.int cell)), some (.val (.int many)), some (.val (.int size)), some (.own (intE [])), none, none, none], []⟩) (by simp [evalF, mark, freshE, intE]) ?_
  rintro s rfl
  refine Ret_seq (fun s => s = ⟨[some (.val (.int cell)), some (.val (.int many)), some (.val (.int size)), some (.own (intE [])), some (.val (.int (cell * b2i (decide (E ≤ cell))))), none, none], []⟩) (by simp [evalF, mark, freshE, freshB, fresh, isBox, sem, hpow, hti, hmul', calms, calm]) ?_
  rintro s rfl
  refine Ret_seq (fun s => s = ⟨[some (.val (.int cell)), some (.val (.int many)), some (.val (.int size)), some (.own (intE [])), some (.val (.int (cell * b2i (decide (E ≤ cell))))), some (.val (.int (cell % 2305843009213693951))), none], []⟩) (by simp [evalF, mark, freshE, freshB, fresh, isBox, sem, hd4, calms, calm]) ?_
  rintro s rfl
  refine Ret_seq (fun s => DrS cell many size (List.range (many + 3)).length s) (forr_Ret (e := fun k : Nat => PV.int (k : Int)) (xs := List.range (many + 3)) (vs := [.int ((many : Int) + 3)]) hv (by simp only [items, hb, if_true]; rw [show ((many : Int) + 3) = ((many + 3 : Nat) : Int) by omega, rngL_nat]) (fun pre s => DrS cell many size pre.length s) ⟨[], cell * b2i (decide (E ≤ cell)), cell % 2305843009213693951, none, rfl, rfl, by simp, mod_bd _⟩ ?_) ?_
  · rintro pre x post s hx hS
    obtain ⟨rfl, hlt⟩ := range_split hx
    have := dr_turn (Γ := Γ) (by omega) hw (by omega) hS
    rw [List.length_append, List.length_singleton]
    exact this
  · rintro s ⟨L, r, t, k6, rfl, h1, h2, _⟩
    rw [List.length_range] at h1
    simp
    exact ⟨L, rfl, by omega, h2⟩
theorem draws_ok (cell : Int) (many size : Nat) (n : Nat) (hm : many < 9000) (hs : 0 < size) (hsz : size < 100000) : ∃ L : List Int, callN P gl T (n + 1) (ix .law_draws) [.int cell, .int many, .int size] = some (.own (intE L)) ∧ L.length = many ∧ ∀ x ∈ L, 0 ≤ x ∧ x < size := by
  have hb : bnd ((many : Int) + 3) = true := by
    unfold bnd
    rw [Bool.and_eq_true, decide_eq_true_eq, decide_eq_true_eq]; omega
  have hw : wide (size : Int) = true := wide_of (by rw [Int.natAbs_natCast]; exact Nat.lt_of_lt_of_le hsz (by decide))
  obtain ⟨E, hpow⟩ : ∃ E : Int, sPow [.int 10, .int 18] = some (.int E) := ⟨1000000000000000000, by simp [sPow, big]⟩
  have hmul : mulOk cell (b2i (decide (E ≤ cell))) = true := by
    unfold mulOk
    have : big (b2i (decide (E ≤ cell))) = true := by cases decide (E ≤ cell) <;> decide
    rw [this]; simp
  have hmul' : sMul [.int cell, .int (b2i (decide (E ≤ cell)))] = some (.int (cell * b2i (decide (E ≤ cell)))) := by simp only [sMul, hmul, if_true]
  rw [run_of]
  obtain ⟨r, e, L, rfl, h⟩ := draws_core (Γ := ⟨callN P gl T n, fun j => gl[j]?, T⟩) (ix := ix) cell E many size hm hs hw hb hpow hmul'
  exact ⟨L, e, h⟩
end
end R
end
section
set_option Elab.async false
set_option linter.all false
set_option autoImplicit false
set_option maxRecDepth 100000
set_option maxHeartbeats 1000000
namespace R
open Ev
theorem ixI' {L : List Int} {k : Nat} {i : Int} (h : k < L.length) (hi : i = (k : Int)) : sIx [intE L, .int i] = some (.int (g L k)) := by subst hi; exact ixI h
def chs : List Txt := [[97], [98], [99], [100, 100], [101], [122, 122], [122, 122, 122, 122, 122, 122, 122, 122]]
/-- the kinds that the generator makes -/
def okKind : Kind → Prop
  | .ch vs => ∃ s m : Nat, s < 3 ∧ m < 3 ∧ vs = (chs.drop s).take (2 + m)
  | .nu lo hi => -3 ≤ lo ∧ lo ≤ 3 ∧ lo ≤ hi ∧ hi ≤ lo + 4
variable {P : List Fn} {gl : List PV} {T : Nat} {ix : Nm → Nat}
theorem md {a j : Int} (h : 0 < j) : 0 ≤ a % j ∧ a % j < j := ⟨Int.emod_nonneg _ (by omega), Int.emod_lt_of_pos _ h⟩
theorem md_nat (a : Int) (j : Nat) (h : 0 < j) : ∃ k : Nat, k < j ∧ a % (j : Int) = (k : Int) := by
  obtain ⟨h0, h1⟩ := md (a := a) (j := (j : Int)) (by omega)
  obtain ⟨k, e⟩ := Int.eq_ofNat_of_zero_le h0
  exact ⟨k, by omega, e⟩
section
variable [Has P ix .law_kind]
theorem kind_ok {L : List Int} (hl : 3 ≤ L.length) (n : Nat) : ∃ k : Kind, callN P gl T (n + 1) (ix .law_kind) [intE L] = some (.val k.e) ∧ okKind k := by
  have i0 : sIx [intE L, .int 0] = some (.int (g L 0)) := ixI' (by omega) rfl
  have i1 : sIx [intE L, .int 1] = some (.int (g L 1)) := ixI' (by omega) rfl
  have i2 : sIx [intE L, .int 2] = some (.int (g L 2)) := ixI' (by omega) rfl
  have m2 : ∀ z : Int, sMod [.int z, .int 2] = some (.int (z % 2)) := fun z => smod_pos (by decide)
  have m3 : ∀ z : Int, sMod [.int z, .int 3] = some (.int (z % 3)) := fun z => smod_pos (by decide)
  have m5 : ∀ z : Int, sMod [.int z, .int 5] = some (.int (z % 5)) := fun z => smod_pos (by decide)
  have m7 : ∀ z : Int, sMod [.int z, .int 7] = some (.int (z % 7)) := fun z => smod_pos (by decide)
  by_cases h : g L 0 % 2 = 0
  · obtain ⟨s, hs, es⟩ := md_nat (g L 2) 3 (by decide)
    obtain ⟨m, hm, em⟩ := md_nat (g L 1) 3 (by decide)
    refine ⟨.ch ((chs.drop s).take (2 + m)), ?_, s, m, hs, hm, rfl⟩
    have hsl : sSlLH [.lst [.str [97], .str [98], .str [99], .str [100, 100], .str [101], .str [122, 122], .str [122, 122, 122, 122, 122, 122, 122, 122]], .int (s : Int), .int ((s : Int) + 2 + (m : Int))] = some (.lst (((chs.drop s).take (2 + m)).map .str)) := by
      have : s = 0 ∨ s = 1 ∨ s = 2 := by omega
      have : m = 0 ∨ m = 1 ∨ m = 2 := by omega
      rcases ‹s = 0 ∨ s = 1 ∨ s = 2› with rfl | rfl | rfl <;> rcases ‹m = 0 ∨ m = 1 ∨ m = 2› with rfl | rfl | rfl <;> rfl
    have es' : g L 2 % 3 = (s : Int) := es
    have em' : g L 1 % 3 = (m : Int) := em
    rw [run_of]
    refine run_Ret rfl ?_
    simp [cd, c_law_kind, calms, calm, sem, i0, i1, i2, m2, m3, h, es', em', evalF, mark, freshE, freshB, fresh, isBox, evalR, hsl, sTupleOf, Kind.e]
  · refine ⟨.nu (g L 1 % 7 - 3) (g L 1 % 7 - 3 + g L 2 % 5), ?_, ?_⟩
    · rw [run_of]
      refine run_Ret rfl ?_
      simp [cd, c_law_kind, calms, calm, sem, i0, i1, i2, m2, m5, m7, h, evalF, mark, freshE, freshB, fresh, isBox, evalR, Kind.e, St.freeze]
    · have := md (a := g L 1) (j := 7) (by decide)
      have := md (a := g L 2) (j := 5) (by decide)
      exact ⟨by omega, by omega, by omega, by omega⟩
end
def poolOf (F : Facts) (M : List Mk) : Facts := F ++ M.map fun m => (m.n, .ch (m.rows.map (·.2) ++ [m.rest]))
section
variable [Has P ix .law_pool]
theorem pool_ok (F : Facts) (M : List Mk) (n : Nat) (hF : F.length ≤ 1000) (hM : M.length ≤ 1000) (hr : ∀ m ∈ M, m.rows.length ≤ 1000) : callN P gl T (n + 1) (ix .law_pool) [fe F, me M] = some (.own (.lst ((poolOf F M).map fact1))) := by
  have l1 : F.length ≤ sizeTop := by unfold sizeTop; omega
  rw [run_of]
  refine run_Ret rfl ?_
  simp [cd, c_law_pool, evalF, q_comp, calms, calm, fe, items, l1]
  rw [loopL_all (g := fact1)]
  · simp [mark, freshE]
    refine Ret_bind (forr_Ret (e := Mk.e) (xs := M) (vs := [me M]) (s1 := _) (by simp [St.freeze, fe, poolOf]) rfl (fun pre s => ∃ x3 x4 x5 x6 x7 x8, s = ⟨[some (.val (fe F)), some (.val (me M)), some (.own (.lst ((poolOf F pre).map fact1))), x3, x4, x5, x6, x7, x8], []⟩) ⟨none, none, none, none, none, none, rfl⟩ ?_) ?_
    · rintro pre m post s hx ⟨x3, x4, x5, x6, x7, x8, rfl⟩
      have hm : m ∈ M := by rw [hx]; simp
      have hml := hr m hm
      have l2 : m.rows.length ≤ sizeTop := by unfold sizeTop; omega
      have hpl : pre.length ≤ 1000 := by
        have : M.length = pre.length + (post.length + 1) := by rw [hx]; simp
        omega
      have hadd : sAdd [.tup ((m.rows.map (·.2)).map .str), .tup [.str m.rest]] = some (.tup ((m.rows.map (·.2) ++ [m.rest]).map .str)) := by
        rw [sAdd_T (by rw [List.length_map, List.length_map]; show _ + 1 ≤ _; omega), List.map_append]; rfl
      have hap : ∀ v, semMut .append (.lst ((poolOf F pre).map fact1)) [v] = some (.non, .lst ((poolOf F pre).map fact1 ++ [v])) := fun v => app_ok (by rw [List.length_map]; unfold poolOf; rw [List.length_append, List.length_map]; omega)
      have hkm : kindM .append (.lst ((poolOf F pre).map fact1)) = true := rfl
      have hfin : (poolOf F pre).map fact1 ++ [PV.tup [.str m.n, .tup [.str [99, 104, 111, 105, 99, 101], .tup ((m.rows.map (·.2) ++ [m.rest]).map .str)]]] = (poolOf F (pre ++ [m])).map fact1 := by
        unfold poolOf; simp [fact1, Kind.e]
      refine ⟨_, rfl, ?_⟩
      simp [calms, calm, hkm, q_comp, items, l2, St.freeze]
      rw [loopL_all (g := fun r : Cond × Txt => PV.str r.2)]
      · have e1 : (m.rows.map fun r => PV.str r.2) = (m.rows.map (·.2)).map PV.str := by rw [List.map_map]; rfl
        rw [e1]
        simp only [Out.bind_ok, sem, sTupleOf, Out.ofOpt_some, q_back, q_get]
        simp [hadd, hap, -List.map_append, -List.map_map]
        simp only [hadd, Out.ofOpt_some, Out.bind_ok, hkm, if_true, hap, hfin]
      · intro r hr'
        simp [row1, St.freeze]
    · rintro f s ⟨rfl, x3, x4, x5, x6, x7, x8, rfl⟩
      simp
  · intro p hp
    simp [fact1, St.freeze]
end
/-- what leaves the generator makes over a pool -/
def condOk (pool : Facts) : Cond → Prop
  | .yes => True
  | .is n v => ∃ vs, (n, .ch vs) ∈ pool ∧ v ∈ vs
  | .frm n lo hi => ∃ a b, (n, .nu a b) ∈ pool ∧ a - 2 ≤ lo ∧ lo ≤ a + 5 ∧ lo ≤ hi ∧ hi ≤ lo + 3
  | .nt c => condOk pool c
  | .an a b => condOk pool a ∧ condOk pool b
  | .or a b => condOk pool a ∧ condOk pool b
def poolNe (pool : Facts) : Prop := pool ≠ [] ∧ ∀ p ∈ pool, ∀ vs, p.2 = .ch vs → vs ≠ []
section
variable [Has P ix .law_leaf]
theorem leaf_ok {L : List Int} (hl : 5 ≤ L.length) (hn : Nn L) {pool : Facts} (hp : poolNe pool) (n : Nat) : ∃ c : Cond, callN P gl T (n + 1) (ix .law_leaf) [intE L, .lst (pool.map fact1)] = some (.val c.e) ∧ condOk pool c ∧ c.dp = 0 ∧ c.lv = 1 := by
  have i1 : sIx [intE L, .int 1] = some (.int (g L 1)) := ixI' (by omega) rfl
  have i2 : sIx [intE L, .int 2] = some (.int (g L 2)) := ixI' (by omega) rfl
  have i3 : sIx [intE L, .int 3] = some (.int (g L 3)) := ixI' (by omega) rfl
  have i4 : sIx [intE L, .int 4] = some (.int (g L 4)) := ixI' (by omega) rfl
  have m11 : ∀ z : Int, sMod [.int z, .int 11] = some (.int (z % 11)) := fun z => smod_pos (by decide)
  have m8 : ∀ z : Int, sMod [.int z, .int 8] = some (.int (z % 8)) := fun z => smod_pos (by decide)
  have m4 : ∀ z : Int, sMod [.int z, .int 4] = some (.int (z % 4)) := fun z => smod_pos (by decide)
  by_cases h : g L 4 % 11 = 0
  · refine ⟨.yes, ?_, trivial, rfl, rfl⟩
    rw [run_of]
    refine run_Ret rfl ?_
    simp [cd, c_law_leaf, calms, calm, sem, i4, m11, h, evalF, mark, freshE, evalR, Cond.e]
  · have hpl : 0 < pool.length := List.length_pos_iff.mpr hp.1
    have hlen : sLen [.lst (pool.map fact1)] = some (.int pool.length) := by simp [sLen]
    have mp : ∀ z : Int, sMod [.int z, .int pool.length] = some (.int (z % pool.length)) := fun z => smod_pos (by omega)
    obtain ⟨j, hj, ej⟩ := md_nat (g L 1) pool.length hpl
    have ij : sIx [.lst (pool.map fact1), .int (g L 1 % pool.length)] = some (fact1 pool[j]) := by
      rw [ej, ixL (by rw [List.length_map]; exact hj)]; simp
    have hmem : pool[j] ∈ pool := List.getElem_mem hj
    obtain ⟨⟨nm, k⟩, hk⟩ : ∃ p, pool[j] = p := ⟨_, rfl⟩
    rw [hk] at hmem ij
    cases k with
    | ch vs =>
      have hv := hp.2 _ hmem vs rfl
      have hvl : 0 < vs.length := List.length_pos_iff.mpr hv
      have mv : ∀ z : Int, sMod [.int z, .int vs.length] = some (.int (z % vs.length)) := fun z => smod_pos (by omega)
      have hlv : sLen [.tup (vs.map PV.str)] = some (.int vs.length) := by simp [sLen]
      obtain ⟨q, hq, eq⟩ := md_nat (g L 2) vs.length hvl
      have iq : sIx [.tup (vs.map PV.str), .int (g L 2 % vs.length)] = some (.str vs[q]) := by
        rw [eq, ixT (by rw [List.length_map]; exact hq)]; simp
      refine ⟨.is nm vs[q], ?_, ⟨vs, hmem, List.getElem_mem hq⟩, rfl, rfl⟩
      rw [run_of]
      refine run_Ret rfl ?_
      simp [cd, c_law_leaf, calms, calm, sem, i1, i2, i4, m11, h, hlen, mp, ij, fact1, Kind.e, hlv, mv, iq, evalF, mark, freshE, evalR, Cond.e, St.freeze]
    | nu lo hi =>
      refine ⟨.frm nm (lo + g L 2 % 8 - 2) (lo + g L 2 % 8 - 2 + g L 3 % 4), ?_, ⟨lo, hi, hmem, ?_⟩, rfl, rfl⟩
      · rw [run_of]
        refine run_Ret rfl ?_
        simp [cd, c_law_leaf, calms, calm, sem, i1, i2, i3, i4, m11, m8, m4, h, hlen, mp, ij, fact1, Kind.e, evalF, mark, freshE, freshB, fresh, isBox, evalR, Cond.e, St.freeze]
      · have := md (a := g L 2) (j := 8) (by decide)
        have := md (a := g L 3) (j := 4) (by decide)
        exact ⟨by omega, by omega, by omega, by omega⟩
variable [Has P ix .law_condition]
theorem cond_ok {pool : Facts} (hp : poolNe pool) : ∀ (many : Nat) (L : List Int) (n : Nat), 1 ≤ many → 6 * many ≤ L.length + 1 → Nn L → many < n → ∃ c : Cond, callN P gl T n (ix .law_condition) [intE L, .lst (pool.map fact1), .int many] = some (.val c.e) ∧ condOk pool c ∧ c.dp < many ∧ 2 * c.lv ≤ many + 1 := by
  intro many
  induction many using Nat.strongRecOn with
  | _ many ih =>
    intro L n h1 hl hn hm
    obtain ⟨m, rfl⟩ : ∃ m, n = m + 1 := ⟨n - 1, by omega⟩
    have i0 : sIx [intE L, .int 0] = some (.int (g L 0)) := ixI' (by omega) rfl
    have m8 : ∀ z : Int, sMod [.int z, .int 8] = some (.int (z % 8)) := fun z => smod_pos (by decide)
    have m2 : ∀ z : Int, sMod [.int z, .int 2] = some (.int (z % 2)) := fun z => smod_pos (by decide)
    by_cases c1 : many < 2 ∨ g L 0 % 8 < 2
    · obtain ⟨m', rfl⟩ : ∃ m', m = m' + 1 := ⟨m - 1, by omega⟩
      obtain ⟨c, e, k1, k2, k3⟩ := leaf_ok (P := P) (gl := gl) (T := T) (ix := ix) (by omega) hn hp m'
      refine ⟨c, ?_, k1, by omega, by omega⟩
      rw [run_of]
      refine run_Ret rfl ?_
      by_cases c2 : many < 2
      · have c2' : (many : Int) < 2 := by omega
        simp [cd, c_law_condition, calms, calm, sem, i0, m8, c2, c2', evalF, mark, freshE, freshB, fresh, isBox, evalR, e, St.freeze]
      · have c2' : ¬ (many : Int) < 2 := by omega
        have c3 : g L 0 % 8 < 2 := by rcases c1 with h | h; exact absurd h c2; exact h
        simp [cd, c_law_condition, calms, calm, sem, i0, m8, c2, c2', c3, evalF, mark, freshE, freshB, fresh, isBox, evalR, e, St.freeze]
    · have c2 : ¬ (many : Int) < 2 := fun h => c1 (.inl (by omega))
      have c2n : ¬ many < 2 := fun h => c1 (.inl h)
      have c3 : ¬ g L 0 % 8 < 2 := fun h => c1 (.inr h)
      by_cases d1 : many = 2 ∨ g L 0 % 8 = 2
      · obtain ⟨c, e, k1, k2, k3⟩ := ih (many - 1) (by omega) (L.drop 6) m (by omega) (by rw [List.length_drop]; omega) (drop_nn hn 6) (by omega)
        have hsl : sSlL [intE L, .int 6] = some (intE (L.drop 6)) := slL_I L 6
        have hcast : (many : Int) - 1 = ((many - 1 : Nat) : Int) := by omega
        have d1' : ((many : Int) == 2) = true ∨ (g L 0 % 8 == 2) = true := by
          rcases d1 with h | h
          · left; rw [beq_iff_eq]; omega
          · right; rw [beq_iff_eq]; exact h
        refine ⟨.nt c, ?_, k1, by show c.dp + 1 < many; omega, by show 2 * c.lv ≤ many + 1; omega⟩
        rw [run_of]
        refine run_Ret rfl ?_
        by_cases d2 : (many : Int) = 2
        · simp [cd, c_law_condition, calms, calm, sem, i0, m8, c2, c2n, c3, d2, evalF, mark, freshE, freshB, fresh, isBox, evalR, St.freeze, hsl, Cond.e]
          have e' : callN P gl T m (ix .law_condition) [intE (L.drop 6), .lst (pool.map fact1), .int 1] = some (.val c.e) := by
            have hm2 : many - 1 = 1 := by omega
            rw [hm2] at e; exact e
          simp [e']
        · have d3 : g L 0 % 8 = 2 := by rcases d1 with h | h; exact absurd (by omega) d2; exact h
          have d2' : ((many : Int) == 2) = false := by rw [beq_eq_false_iff_ne]; exact d2
          have d2n : ¬ many = 2 := by omega
          simp [cd, c_law_condition, calms, calm, sem, i0, m8, c2, c2n, c3, d2, d2', d2n, d3, evalF, mark, freshE, freshB, fresh, isBox, evalR, St.freeze, hsl, hcast, e, Cond.e]
      · have d2 : ¬ (many : Int) = 2 := fun h => d1 (.inl (by omega))
        have d2n : ¬ many = 2 := fun h => d1 (.inl h)
        have d3 : ¬ g L 0 % 8 = 2 := fun h => d1 (.inr h)
        have i1 : sIx [intE L, .int 1] = some (.int (g L 1)) := ixI' (by omega) rfl
        have mm : ∀ z : Int, sMod [.int z, .int ((many : Int) - 2)] = some (.int (z % ((many : Int) - 2))) := fun z => smod_pos (by omega)
        obtain ⟨q, hq, eq⟩ := md_nat (g L 1) (many - 2) (by omega)
        have eq' : g L 1 % ((many : Int) - 2) = (q : Int) := by rw [← eq]; congr 1; omega
        have hl1 : sSlLH [intE L, .int 6, .int (6 + 6 * (1 + (q : Int)))] = some (intE (sub L 6 (6 + 6 * (1 + q)))) := by
          rw [← slLH_I L 6 (6 + 6 * (1 + q))]; congr 3
        have hl2 : sSlL [intE L, .int (6 + 6 * (1 + (q : Int)))] = some (intE (L.drop (6 + 6 * (1 + q)))) := by
          rw [← slL_I L (6 + 6 * (1 + q))]; congr 3
        obtain ⟨a, ea, ka1, ka2, ka3⟩ := ih (1 + q) (by omega) (sub L 6 (6 + 6 * (1 + q))) m (by omega) (by rw [sub_len]; omega) (sub_nn hn _ _) (by omega)
        obtain ⟨b, eb, kb1, kb2, kb3⟩ := ih (many - 1 - (1 + q)) (by omega) (L.drop (6 + 6 * (1 + q))) m (by omega) (by rw [List.length_drop]; omega) (drop_nn hn _) (by omega)
        have cb : (many : Int) - 1 - (1 + (q : Int)) = ((many - 1 - (1 + q) : Nat) : Int) := by omega
        have ca : (1 : Int) + (q : Int) = ((1 + q : Nat) : Int) := by omega
        have mul6 : sMul [.int 6, .int (1 + (q : Int))] = some (.int (6 * (1 + (q : Int)))) := by
          have : mulOk 6 (1 + (q : Int)) = true := by unfold mulOk; simp [big]
          simp only [sMul, this, if_true]
        have ea' : callN P gl T m (ix .law_condition) [intE (sub L 6 (6 + 6 * (1 + q))), .lst (pool.map fact1), .int (1 + (q : Int))] = some (.val a.e) := by rw [ca]; exact ea
        have eb' : callN P gl T m (ix .law_condition) [intE (L.drop (6 + 6 * (1 + q))), .lst (pool.map fact1), .int ((many : Int) - 1 - (1 + (q : Int)))] = some (.val b.e) := by rw [cb]; exact eb
        have hw : g L 0 % 8 % 2 = 0 ∨ g L 0 % 8 % 2 = 1 := by omega
        rcases hw with hw | hw
        · refine ⟨.an a b, ?_, ⟨ka1, kb1⟩, by show max a.dp b.dp + 1 < many; omega, by show 2 * (a.lv + b.lv) ≤ many + 1; omega⟩
          rw [run_of]
          refine run_Ret rfl ?_
          simp [cd, c_law_condition, calms, calm, sem, i0, i1, m8, m2, mm, c2, c2n, c3, d2, d2n, d3, eq', mul6, hl1, hl2, ea', eb', hw, evalF, mark, freshE, freshB, fresh, isBox, evalR, St.freeze, Cond.e]
        · refine ⟨.or a b, ?_, ⟨ka1, kb1⟩, by show max a.dp b.dp + 1 < many; omega, by show 2 * (a.lv + b.lv) ≤ many + 1; omega⟩
          rw [run_of]
          refine run_Ret rfl ?_
          simp [cd, c_law_condition, calms, calm, sem, i0, i1, m8, m2, mm, c2, c2n, c3, d2, d2n, d3, eq', mul6, hl1, hl2, ea', eb', hw, evalF, mark, freshE, freshB, fresh, isBox, evalR, St.freeze, Cond.e]
end
end R
end
section
set_option Elab.async false
set_option linter.all false
set_option autoImplicit false
set_option maxRecDepth 100000
set_option maxHeartbeats 1000000
namespace Ev
@[simp] theorem q_dsp0 (Γ : Cx) (s : St) : evalE Γ (.dsp [] []) s = .ok (.dic [] []) s := by rw [evalE]; simp
/-- dicts with text keys -/
abbrev DW := List (Txt × PV)
def dks (d : DW) : List PV := d.map fun p => .str p.1
def dvs (d : DW) : List PV := d.map (·.2)
def dE (d : DW) : PV := .dic (dks d) (dvs d)
def lookD : DW → Txt → Option PV
  | [], _ => none
  | p :: d, n => if p.1 == n then some p.2 else lookD d n
def hasD (d : DW) (n : Txt) : Bool := d.any fun p => p.1 == n
def putD (d : DW) (n : Txt) (v : PV) : DW := if hasD d n then d.map (fun p => if p.1 == n then (p.1, v) else p) else d ++ [(n, v)]
theorem look_D (w : DW) (n : Txt) : lookK (dks w) (dvs w) (.str n) = lookD w n := by
  induction w with
  | nil => rfl
  | cons p w ih =>
    have e : lookK (dks (p :: w)) (dvs (p :: w)) (.str n) = if eqv (.str p.1) (.str n) then some p.2 else lookK (dks w) (dvs w) (.str n) := rfl
    rw [e, ih, lookD]
    simp [eqv]
theorem ixD (w : DW) (n : Txt) : (if keyOk (.str n) then lookK (dks w) (dvs w) (.str n) else none) = lookD w n := by rw [look_D]; rfl
theorem putV_D (w : DW) (n : Txt) (v : PV) : putV (dks w) (dvs w) (.str n) v = dvs (w.map (fun p => if p.1 == n then (p.1, v) else p)) := by
  induction w with
  | nil => rfl
  | cons p w ih =>
    have e : putV (dks (p :: w)) (dvs (p :: w)) (.str n) v = (if eqv (.str p.1) (.str n) then v else p.2) :: putV (dks w) (dvs w) (.str n) v := rfl
    rw [e, ih]
    by_cases h : (p.1 == n) = true
    · have h' : p.1 = n := by simpa using h
      simp [eqv, dvs, h']
    · have h' : ¬ p.1 = n := by simpa using h
      simp [eqv, dvs, h']
theorem putK_D (w : DW) (n : Txt) (v : PV) : putK (dks w) (dvs w) (.str n) v = (dks (putD w n v), dvs (putD w n v)) := by
  unfold putK putD
  have hh : hasK (dks w) (.str n) = hasD w n := by
    unfold hasK hasD dks
    rw [List.any_map]
    congr 1
  rw [hh]
  by_cases h : hasD w n = true
  · rw [if_pos h, if_pos h, putV_D]
    have : dks (w.map (fun p => if p.1 == n then (p.1, v) else p)) = dks w := by
      unfold dks
      rw [List.map_map]
      apply List.map_congr_left
      intro p _
      show PV.str (if p.1 == n then (p.1, v) else p).1 = _
      split <;> rfl
    rw [this]
  · rw [if_neg h, if_neg h]
    simp [dks, dvs]
theorem setD_ok {w : DW} {n : Txt} {v : PV} (h : w.length < 16777216) : semMut .setItem (dE w) [.str n, v] = some (.non, dE (putD w n v)) := by
  have hk : (dks w).length < sizeTop := by unfold dks; rw [List.length_map]; exact h
  show (if keyOk (.str n) && decide ((dks w).length < sizeTop) then some (PV.non, PV.dic (putK (dks w) (dvs w) (.str n) v).1 (putK (dks w) (dvs w) (.str n) v).2) else none) = _
  rw [putK_D, decide_eq_true hk]; rfl
theorem putD_keys (w : DW) (n : Txt) (v : PV) : (putD w n v).map (·.1) = if hasD w n then w.map (·.1) else w.map (·.1) ++ [n] := by
  unfold putD
  split
  · rw [List.map_map]
    apply List.map_congr_left
    intro p _
    show (if p.1 == n then (p.1, v) else p).1 = _
    split <;> rfl
  · simp
theorem hasD_iff (w : DW) (n : Txt) : hasD w n = true ↔ n ∈ w.map (·.1) := by
  unfold hasD
  rw [List.any_eq_true, List.mem_map]
  constructor
  · rintro ⟨p, hp, e⟩; exact ⟨p, hp, by simpa using e⟩
  · rintro ⟨p, hp, e⟩; exact ⟨p, hp, by simpa using e⟩
theorem putD_mem {w : DW} {n : Txt} {v : PV} {p : Txt × PV} (h : p ∈ putD w n v) : p ∈ w ∨ p.2 = v := by
  unfold putD at h
  split at h
  · obtain ⟨q, hq, rfl⟩ := List.mem_map.mp h
    split
    · exact .inr rfl
    · exact .inl hq
  · rcases List.mem_append.mp h with h | h
    · exact .inl h
    · rw [List.mem_singleton.mp h]; exact .inr rfl
theorem lookD_mem {w : DW} {n : Txt} (h : n ∈ w.map (·.1)) : ∃ v, lookD w n = some v ∧ ∃ p ∈ w, p.2 = v := by
  induction w with
  | nil => simp at h
  | cons p w ih =>
    rw [lookD]
    by_cases e : (p.1 == n) = true
    · exact ⟨p.2, by rw [if_pos e], p, List.mem_cons_self, rfl⟩
    · rw [if_neg e]
      rw [List.map_cons, List.mem_cons] at h
      rcases h with h | h
      · subst h; simp at e
      · obtain ⟨v, e1, q, hq, e2⟩ := ih h
        exact ⟨v, e1, q, List.mem_cons_of_mem _ hq, e2⟩
/-- things of two lists that belong together -/
inductive All2 {α β : Type} (Q : α → β → Prop) : List α → List β → Prop where
  | nil : All2 Q [] []
  | cons {x : α} {y : β} {xs : List α} {ys : List β} (h : Q x y) (t : All2 Q xs ys) : All2 Q (x :: xs) (y :: ys)
theorem choose_on {α β : Type} [Inhabited β] {Q : α → β → Prop} {xs : List α} (h : ∀ x ∈ xs, ∃ y, Q x y) : ∃ Y : α → β, ∀ x ∈ xs, Q x (Y x) := by
  classical
  exact ⟨fun x => if hx : x ∈ xs then Classical.choose (h x hx) else default, fun x hx => by simp only [dif_pos hx]; exact Classical.choose_spec (h x hx)⟩
end Ev
namespace R
open Ev
instance : Inhabited Kind := ⟨.ch []⟩
def facNames : List Txt := [[97, 103, 101], [99, 111, 108], [107], [115, 105, 122, 101], [98], [120], [116, 101, 109, 112], [122, 122, 122, 122, 122, 122, 122, 122]]
structure WFacts (F : Facts) (limit : Nat) : Prop where
  asc : Asc ltT (F.map (·.1))
  nm : ∀ p ∈ F, p.1 ∈ facNames
  ne : F ≠ []
  len : F.length ≤ limit
  kd : ∀ p ∈ F, okKind p.2
variable {P : List Fn} {gl : List PV} {T : Nat} {ix : Nm → Nat}
def faS (L : List Int) (limit : Int) (pre : List Nat) (s : St) : Prop := ∃ (d : DW) (x3 x4 : Option SV), s = ⟨[some (.val (intE L)), some (.val (.int limit)), some (.own (dE d)), x3, x4], []⟩ ∧
  (d.map (·.1)).Nodup ∧ (∀ n ∈ d.map (·.1), n ∈ facNames) ∧ (∀ p ∈ d, ∃ L' : List Int, p.2 = intE L' ∧ L'.length = 3) ∧ d.length ≤ pre.length ∧ (pre ≠ [] → d ≠ [])
section
variable [Has P ix .law_kind] [Has P ix .law_facts]
theorem facts_ok {L : List Int} {limit : Nat} (h0 : 0 < limit) (hl : limit ≤ 8) (hL : 1 + 4 * limit ≤ L.length) (n : Nat) : ∃ F : Facts, callN P gl T (n + 2) (ix .law_facts) [intE L, .int limit] = some (.val (fe F)) ∧ WFacts F limit := by
  have i0 : sIx [intE L, .int 0] = some (.int (g L 0)) := ixI' (by omega) rfl
  have ml : ∀ z : Int, sMod [.int z, .int limit] = some (.int (z % limit)) := fun z => smod_pos (by omega)
  have m8 : ∀ z : Int, sMod [.int z, .int 8] = some (.int (z % 8)) := fun z => smod_pos (by decide)
  obtain ⟨q, hq, eq⟩ := md_nat (g L 0) limit h0
  have hb : bnd (1 + (q : Int)) = true := by unfold bnd; rw [Bool.and_eq_true, decide_eq_true_eq, decide_eq_true_eq]; omega
  rw [run_of]
  obtain ⟨r, e, F, rfl, h⟩ : ∃ r, runF ⟨callN P gl T (n + 1), fun j => gl[j]?, T⟩ (cd ix .law_facts) [intE L, .int limit] = some r ∧ ∃ F : Facts, r = .val (fe F) ∧ WFacts F limit := by
    refine run_RetP rfl ?_
    refine Ret_seq (fun s => s = ⟨[some (.val (intE L)), some (.val (.int limit)), some (.own (dE [])), none, none], []⟩) (by simp [cd, c_law_facts, evalF, mark, freshE, dE, dks, dvs]) ?_
    rintro s rfl
    refine Ret_seq (fun s => faS L limit (List.range (1 + q)) s) (forr_Ret (e := fun k : Nat => PV.int (k : Int)) (xs := List.range (1 + q)) (vs := [.int (1 + (q : Int))]) (s1 := ⟨[some (.val (intE L)), some (.val (.int limit)), some (.own (dE [])), none, none], []⟩) (by simp [calms, calm, sem, i0, ml, eq]) (by simp only [items, hb, if_true]; rw [show (1 + (q : Int)) = ((1 + q : Nat) : Int) by omega, rngL_nat]) (faS L limit) ⟨[], none, none, rfl, by simp, by simp, by simp, by simp, by simp⟩ ?_) ?_
    · rintro pre x post s hx ⟨d, x3, x4, rfl, k1, k2, k3, k4, k5⟩
      obtain ⟨rfl, hlt⟩ := range_split hx
      have mul4 : sMul [.int 4, .int (pre.length : Int)] = some (.int (4 * (pre.length : Int))) := by
        have : mulOk 4 (pre.length : Int) = true := by unfold mulOk; simp [big]
        simp only [sMul, this, if_true]
      have ik : sIx [intE L, .int (1 + 4 * (pre.length : Int))] = some (.int (g L (1 + 4 * pre.length))) := ixI' (by omega) (by omega)
      obtain ⟨j, hj, ej⟩ := md_nat (g L (1 + 4 * pre.length)) 8 (by decide)
      have ej' : g L (1 + 4 * pre.length) % 8 = (j : Int) := ej
      have hsl : sSlLH [intE L, .int (2 + 4 * (pre.length : Int)), .int (5 + 4 * (pre.length : Int))] = some (intE (sub L (2 + 4 * pre.length) (5 + 4 * pre.length))) := by
        rw [← slLH_I]; congr 3
      have hnl : facNames.length = 8 := rfl
      have inm : sIx [.lst [.str [97, 103, 101], .str [99, 111, 108], .str [107], .str [115, 105, 122, 101], .str [98], .str [120], .str [116, 101, 109, 112], .str [122, 122, 122, 122, 122, 122, 122, 122]], .int (j : Int)] = some (.str (facNames[j]'(by omega))) := by
        have := ixL (xs := facNames.map PV.str) (k := j) (by rw [List.length_map]; omega)
        rw [List.getElem_map] at this
        exact this
      refine ⟨_, rfl, ?_⟩
      simp [calms, calm, sem, mul4, ik, m8, ej', inm, evalF, mark, freshE, freshB, fresh, isBox, hsl, setD_ok (show d.length < 16777216 by omega), St.freeze]
      refine ⟨putD d (facNames[j]'(by omega)) (intE (sub L (2 + 4 * pre.length) (5 + 4 * pre.length))), _, _, rfl, ?_, ?_, ?_, ?_, ?_⟩
      · rw [putD_keys]
        split
        · exact k1
        · rename_i hh
          rw [List.nodup_append]
          refine ⟨k1, by simp, ?_⟩
          intro a ha b hb e
          rw [List.mem_singleton] at hb
          subst hb; subst e
          exact hh ((hasD_iff _ _).mpr ha)
      · rw [putD_keys]
        split
        · exact k2
        · intro a ha
          rcases List.mem_append.mp ha with ha | ha
          · exact k2 a ha
          · rw [List.mem_singleton.mp ha]; exact List.getElem_mem _
      · intro p hp
        rcases putD_mem hp with h | h
        · exact k3 p h
        · exact ⟨_, h, by rw [sub_len]; omega⟩
      · have : (putD d (facNames[j]'(by omega)) (intE (sub L (2 + 4 * pre.length) (5 + 4 * pre.length)))).length ≤ d.length + 1 := by
          unfold putD; split <;> simp
        rw [List.length_append, List.length_singleton]; omega
      · intro _ e
        unfold putD at e
        split at e
        · rename_i hh
          rw [List.map_eq_nil_iff] at e
          subst e; simp [hasD] at hh
        · simp at e
    · rintro s ⟨d, x3, x4, rfl, k1, k2, k3, k4, k5⟩
      rw [List.length_range] at k4
      have hne : d ≠ [] := k5 (by simp [List.range_succ, Nat.add_comm 1 q])
      have hsort : sSorted [dE d] = some (.lst ((sortT (d.map (·.1))).map .str)) := by
        have hlen : (dks d).length < 64 := by unfold dks; rw [List.length_map]; omega
        simp only [sSorted, dE, if_pos hlen, sortV]
        have h1 : dks d = (d.map (·.1)).map PV.str := by unfold dks; rw [List.map_map]; rfl
        have h2 : allInts (dks d) = none := by
          cases d with
          | nil => exact absurd rfl hne
          | cons a r => rfl
        rw [h2, h1, allStrs_map]; rfl
      obtain ⟨hasc, hmem⟩ := sortT_asc k1
      have hsl : (sortT (d.map (·.1))).length = d.length := by rw [sortT_G, sortG_len, List.length_map]
      have hlz : (sortT (d.map (·.1))).length ≤ sizeTop := by rw [hsl]; unfold sizeTop; omega
      obtain ⟨Y, hY⟩ := choose_on (Q := fun (nm : Txt) (k : Kind) => ∃ L' : List Int, sIx [dE d, .str nm] = some (intE L') ∧ callN P gl T (n + 1) (ix .law_kind) [intE L'] = some (.val k.e) ∧ okKind k) (xs := sortT (d.map (·.1))) (by
        intro nm hnm
        obtain ⟨v, e1, p, hp, e2⟩ := lookD_mem ((hmem nm).mp hnm)
        obtain ⟨L', e3, e4⟩ := k3 p hp
        obtain ⟨k, e5, e6⟩ := kind_ok (P := P) (gl := gl) (T := T) (ix := ix) (L := L') (by omega) n
        refine ⟨k, L', ?_, e5, e6⟩
        show (if keyOk (.str nm) then lookK (dks d) (dvs d) (.str nm) else none) = _
        rw [ixD, e1, ← e2, e3])
      simp [evalR, evalF, calms, calm, sem, q_comp, hsort, items, hlz, St.freeze]
      rw [loopL_all (g := fun nm => fact1 (nm, Y nm))]
      · have e1 : (sortT (d.map (·.1))).map (fun nm => fact1 (nm, Y nm)) = ((sortT (d.map (·.1))).map fun nm => (nm, Y nm)).map fact1 := by rw [List.map_map]; rfl
        rw [e1]
        simp [sTupleOf, mark, freshE, freshB, fresh, -List.map_map]
        refine ⟨(sortT (d.map (·.1))).map fun nm => (nm, Y nm), rfl, ?_, ?_, ?_, ?_, ?_⟩
        · rw [List.map_map, show ((fun x : Txt × Kind => x.1) ∘ fun nm => (nm, Y nm)) = id from rfl, List.map_id]; exact hasc
        · intro p hp
          obtain ⟨nm, hnm, rfl⟩ := List.mem_map.mp hp
          exact k2 nm ((hmem nm).mp hnm)
        · intro e
          have := congrArg List.length e
          rw [List.length_map, hsl] at this
          exact hne (List.length_eq_zero_iff.mp this)
        · rw [List.length_map, hsl]; omega
        · intro p hp
          obtain ⟨nm, hnm, rfl⟩ := List.mem_map.mp hp
          obtain ⟨_, _, _, e⟩ := hY nm hnm
          exact e
      · intro nm hnm
        obtain ⟨L', e1, e2, _⟩ := hY nm hnm
        simp [e1, e2, fact1, St.freeze]
  exact ⟨F, e, h⟩
end
end R
end
section
set_option Elab.async false
set_option linter.all false
set_option autoImplicit false
set_option maxRecDepth 100000
set_option maxHeartbeats 1000000
namespace R
open Ev
def mkVals : List Txt := [[104, 105], [108, 111], [109, 105, 100]]
def mkName (k : Nat) : Txt := [109, 97 + k]
structure MkOk (F pre : _) (m : Mk) : Prop where
  rows : ∀ r ∈ m.rows, condOk (poolOf F pre) r.1 ∧ r.1.dp < 3 ∧ r.1.lv ≤ 2 ∧ r.2 ∈ mkVals
  rest : m.rest ∈ mkVals
  len : 1 ≤ m.rows.length ∧ m.rows.length ≤ 3
  nm : m.n = mkName pre.length
def MksOk (F : Facts) (M : List Mk) : Prop := M.length ≤ 2 ∧ ∀ (i : Nat) (h : i < M.length), MkOk F (M.take i) M[i]
theorem MksOk.snoc {F : Facts} {M : List Mk} {m : Mk} (h : MksOk F M) (hl : M.length < 2) (hm : MkOk F M m) : MksOk F (M ++ [m]) := by
  refine ⟨by rw [List.length_append, List.length_singleton]; omega, fun i hi => ?_⟩
  by_cases h1 : i < M.length
  · rw [List.getElem_append_left h1, List.take_append_of_le_length (by omega)]
    exact h.2 i h1
  · rw [List.length_append, List.length_singleton] at hi
    have : i = M.length := by omega
    subst this
    simpa using hm
theorem poolNe_of {F : Facts} {M : List Mk} (h : F ≠ []) (hk : ∀ p ∈ F, okKind p.2) : poolNe (poolOf F M) := by
  refine ⟨by unfold poolOf; simp [h], ?_⟩
  intro p hp vs e
  unfold poolOf at hp
  rcases List.mem_append.mp hp with hp | hp
  · have := hk p hp
    rw [e] at this
    obtain ⟨s, m, hs, hm, rfl⟩ := this
    intro e
    have := congrArg List.length e
    simp [chs] at this
    omega
  · obtain ⟨m, hm, rfl⟩ := List.mem_map.mp hp
    simp only [Kind.ch.injEq] at e
    rw [← e]; simp
variable {P : List Fn} {gl : List PV} {T : Nat} {ix : Nm → Nat}
theorem mem3 (z : Int) : ∃ v ∈ mkVals, sIx [.lst [.str [104, 105], .str [108, 111], .str [109, 105, 100]], .int (z % 3)] = some (.str v) := by
  obtain ⟨j, hj, ej⟩ := md_nat z 3 (by decide)
  have ej' : z % 3 = (j : Int) := ej
  rw [ej']
  have : j = 0 ∨ j = 1 ∨ j = 2 := by omega
  rcases this with rfl | rfl | rfl
  · exact ⟨[104, 105], by simp [mkVals], rfl⟩
  · exact ⟨[108, 111], by simp [mkVals], rfl⟩
  · exact ⟨[109, 105, 100], by simp [mkVals], rfl⟩
def rowsOk (F : Facts) (M : List Mk) (rs : List (Cond × Txt)) : Prop := ∀ r ∈ rs, condOk (poolOf F M) r.1 ∧ r.1.dp < 3 ∧ r.1.lv ≤ 2 ∧ r.2 ∈ mkVals
def mkS1 (L S : List Int) (F : Facts) (M : List Mk) (k : Nat) (pre : List Nat) (s : St) : Prop := ∃ (rs : List (Cond × Txt)) (x6 x7 : Option SV), s = ⟨[some (.val (intE L)), some (.val (fe F)), some (.val (me M)), some (.val (.int (k : Int))), some (.own (intE S)), some (.own (.lst (rs.map row1))), x6, x7], []⟩ ∧ rowsOk F M rs ∧ rs.length = pre.length
def mkS2 (L : List Int) (F : Facts) (pre : List Nat) (s : St) : Prop := ∃ (M : List Mk) (x3 x4 x5 x6 x7 : Option SV), s = ⟨[some (.val (intE L)), some (.val (fe F)), some (.val (me M)), x3, x4, x5, x6, x7], []⟩ ∧ MksOk F M ∧ M.length = pre.length
theorem bndN {q : Nat} (h : q < 1000000) : bnd (q : Int) = true := by unfold bnd; rw [Bool.and_eq_true, decide_eq_true_eq, decide_eq_true_eq]; omega
theorem mulN {a b : Nat} (h : b < 1000000) : sMul [.int (a : Int), .int (b : Int)] = some (.int ((a : Int) * (b : Int))) := by
  have : mulOk (a : Int) (b : Int) = true := by
    have : big (b : Int) = true := by unfold big; rw [decide_eq_true_eq]; omega
    unfold mulOk; rw [this]; simp
  simp only [sMul, this, if_true]
@[simp] theorem isBox_ints (L : List Int) : isBox (intE L) = true := rfl
def mkB1 (ix : Nm → Nat) : List CS := [(.asgO 7 (.bi .slLH [(.var 4), (.bi .add [(.lit (.int (2))), (.bi .mul [(.lit (.int (19))), (.var 6)])]), (.bi .add [(.lit (.int (21))), (.bi .mul [(.lit (.int (19))), (.var 6)])])])), (.ex (.mut .append 5 [(.tup [(.call (ix .law_condition) [(.var 7), (.call (ix .law_pool) [(.var 1), (.var 2)]), (.lit (.int (3)))]), (.bi .ix [(.lst [(.lit (.str [104, 105])), (.lit (.str [108, 111])), (.lit (.str [109, 105, 100]))]), (.bi .mod [(.bi .ix [(.var 7), (.lit (.int (18)))]), (.lit (.int (3)))])])])]))]
section
variable [Has P ix .law_leaf] [Has P ix .law_condition] [Has P ix .law_pool]
theorem mk_turn1 {L S : List Int} {F : Facts} {M : List Mk} {k n : Nat} {pre : List Nat} {s : St} (hF : F.length ≤ 1000) (hM : M.length ≤ 2) (hMr : ∀ m ∈ M, m.rows.length ≤ 1000) (hp : poolNe (poolOf F M)) (hS : S.length = 60) (hn : Nn S) (hpre : pre.length < 3) (hfuel : 5 ≤ n) (h : mkS1 L S F M k pre s) :
    ∃ s3, bindT (.nm 6) (.int (pre.length : Int)) s = some s3 ∧ Ret (execs ⟨callN P gl T n, fun j => gl[j]?, T⟩ (mkB1 ix) s3) fun f s' => f = .nx ∧ ∀ x, mkS1 L S F M k (pre ++ [x]) s' := by
  obtain ⟨rs, x6, x7, rfl, h1, h2⟩ := h
  obtain ⟨m, rfl⟩ : ∃ m, n = m + 1 := ⟨n - 1, by omega⟩
  have mul19 : sMul [.int 19, .int (pre.length : Int)] = some (.int (19 * (pre.length : Int))) := mulN (a := 19) (by omega)
  have hsl : sSlLH [intE S, .int (2 + 19 * (pre.length : Int)), .int (21 + 19 * (pre.length : Int))] = some (intE (sub S (2 + 19 * pre.length) (21 + 19 * pre.length))) := by
    rw [← slLH_I]; congr 3
  have hsub : (sub S (2 + 19 * pre.length) (21 + 19 * pre.length)).length = 19 := by rw [sub_len]; omega
  have i18 : sIx [intE (sub S (2 + 19 * pre.length) (21 + 19 * pre.length)), .int 18] = some (.int (g (sub S (2 + 19 * pre.length) (21 + 19 * pre.length)) 18)) := ixI' (by omega) rfl
  have m3 : ∀ z : Int, sMod [.int z, .int 3] = some (.int (z % 3)) := fun z => smod_pos (by decide)
  obtain ⟨v, hv, ev⟩ := mem3 (g (sub S (2 + 19 * pre.length) (21 + 19 * pre.length)) 18)
  have hpool := pool_ok (P := P) (gl := gl) (T := T) (ix := ix) F M m hF (by omega) hMr
  obtain ⟨c, ec, k1, k2, k3⟩ := cond_ok (P := P) (gl := gl) (T := T) (ix := ix) hp 3 (sub S (2 + 19 * pre.length) (21 + 19 * pre.length)) (m + 1) (by omega) (by omega) (sub_nn hn _ _) (by omega)
  have ec' : callN P gl T (m + 1) (ix .law_condition) [intE (sub S (2 + 19 * pre.length) (21 + 19 * pre.length)), .lst ((poolOf F M).map fact1), .int 3] = some (.val c.e) := ec
  have hkm : kindM .append (.lst (rs.map row1)) = true := rfl
  have hap : ∀ v, semMut .append (.lst (rs.map row1)) [v] = some (.non, .lst (rs.map row1 ++ [v])) := fun v => app_ok (by rw [List.length_map]; omega)
  refine ⟨_, rfl, ?_⟩
  simp [mkB1, calms, calm, sem, mul19, hsl, evalF, mark, freshE, freshB, fresh, hkm, hpool, ec', i18, m3, ev, hap, St.freeze]
  intro x
  refine ⟨rs ++ [(c, v)], _, _, by rw [List.map_append]; rfl, ?_, by simp [h2]⟩
  intro r hr
  rcases List.mem_append.mp hr with hr | hr
  · exact h1 r hr
  · rw [List.mem_singleton.mp hr]; exact ⟨k1, k2, by show c.lv ≤ 2; omega, hv⟩
variable [Has P ix .law_marks]
def mkB2 (ix : Nm → Nat) : List CS := [(.asgO 4 (.bi .slLH [(.var 0), (.bi .add [(.lit (.int (1))), (.bi .mul [(.lit (.int (60))), (.var 3)])]), (.bi .add [(.lit (.int (61))), (.bi .mul [(.lit (.int (60))), (.var 3)])])])), (.asgO 5 (.lst [])), (.forr (.nm 6) .rng [(.bi .add [(.lit (.int (1))), (.bi .mod [(.bi .ix [(.var 4), (.lit (.int (0)))]), (.lit (.int (3)))])])] (mkB1 ix)), (.asgO 2 (.bi .add [(.var 2), (.tup [(.tup [(.bi .add [(.lit (.str [109])), (.bi .ix [(.lit (.str [97, 98])), (.var 3)])]), (.bi .tupleOf [(.var 5)]), (.bi .ix [(.lst [(.lit (.str [104, 105])), (.lit (.str [108, 111])), (.lit (.str [109, 105, 100]))]), (.bi .mod [(.bi .ix [(.var 4), (.lit (.int (1)))]), (.lit (.int (3)))])])])])]))]
theorem mk_turn2 {L : List Int} {F : Facts} {n : Nat} {pre : List Nat} {s : St} (hF : F.length ≤ 1000) (hFn : F ≠ []) (hk : ∀ p ∈ F, okKind p.2) (hL : 121 ≤ L.length) (hn : Nn L) (hpre : pre.length < 2) (hfuel : 5 ≤ n) (h : mkS2 L F pre s) :
    ∃ s3, bindT (.nm 3) (.int (pre.length : Int)) s = some s3 ∧ Ret (execs ⟨callN P gl T n, fun j => gl[j]?, T⟩ (mkB2 ix) s3) fun f s' => f = .nx ∧ ∀ x, mkS2 L F (pre ++ [x]) s' := by
  obtain ⟨M, x3, x4, x5, x6, x7, rfl, hM, hMl⟩ := h
  have mul60 : sMul [.int 60, .int (pre.length : Int)] = some (.int (60 * (pre.length : Int))) := mulN (a := 60) (by omega)
  have hsl : sSlLH [intE L, .int (1 + 60 * (pre.length : Int)), .int (61 + 60 * (pre.length : Int))] = some (intE (sub L (1 + 60 * pre.length) (61 + 60 * pre.length))) := by
    rw [← slLH_I]; congr 3
  have hsub : (sub L (1 + 60 * pre.length) (61 + 60 * pre.length)).length = 60 := by rw [sub_len]; omega
  have hsn : Nn (sub L (1 + 60 * pre.length) (61 + 60 * pre.length)) := sub_nn hn _ _
  generalize sub L (1 + 60 * pre.length) (61 + 60 * pre.length) = S at hsl hsub hsn
  have i0 : sIx [intE S, .int 0] = some (.int (g S 0)) := ixI' (by omega) rfl
  have i1 : sIx [intE S, .int 1] = some (.int (g S 1)) := ixI' (by omega) rfl
  have m3 : ∀ z : Int, sMod [.int z, .int 3] = some (.int (z % 3)) := fun z => smod_pos (by decide)
  obtain ⟨q, hq, eq⟩ := md_nat (g S 0) 3 (by decide)
  have eq' : g S 0 % 3 = (q : Int) := eq
  have hb : bnd (1 + (q : Int)) = true := by rw [show (1 + (q : Int)) = ((1 + q : Nat) : Int) by omega]; exact bndN (by omega)
  obtain ⟨v, hv, ev⟩ := mem3 (g S 1)
  have hMr : ∀ m ∈ M, m.rows.length ≤ 1000 := by
    intro m hm
    obtain ⟨i, hi, rfl⟩ := List.mem_iff_getElem.mp hm
    have := (hM.2 i hi).len.2
    omega
  have hp : poolNe (poolOf F M) := poolNe_of hFn hk
  have hnm : sIx [.str [97, 98], .int (pre.length : Int)] = some (.str [97 + pre.length]) := by
    have : pre.length = 0 ∨ pre.length = 1 := by omega
    rcases this with e | e <;> rw [e] <;> rfl
  refine ⟨_, rfl, ?_⟩
  refine Ret_seq (fun s => s = ⟨[some (.val (intE L)), some (.val (fe F)), some (.val (me M)), some (.val (.int (pre.length : Int))), some (.own (intE S)), x5, x6, x7], []⟩) (by simp [calms, calm, sem, mul60, hsl, evalF, mark, freshE, freshB, fresh]) ?_
  rintro s rfl
  refine Ret_seq (fun s => s = ⟨[some (.val (intE L)), some (.val (fe F)), some (.val (me M)), some (.val (.int (pre.length : Int))), some (.own (intE S)), some (.own (.lst [])), x6, x7], []⟩) (by simp [evalF, mark, freshE]) ?_
  rintro s rfl
  refine Ret_seq (fun s => mkS1 L S F M pre.length (List.range (1 + q)) s) (forr_Ret (e := fun k : Nat => PV.int (k : Int)) (xs := List.range (1 + q)) (vs := [.int (1 + (q : Int))]) (s1 := ⟨[some (.val (intE L)), some (.val (fe F)), some (.val (me M)), some (.val (.int (pre.length : Int))), some (.own (intE S)), some (.own (.lst [])), x6, x7], []⟩) (by simp [calms, calm, sem, i0, m3, eq']) (by simp only [items, hb, if_true]; rw [show (1 + (q : Int)) = ((1 + q : Nat) : Int) by omega, rngL_nat]) (mkS1 L S F M pre.length) ⟨[], _, _, rfl, (fun r hr => by cases hr), rfl⟩ ?_) ?_
  · rintro pre' x post s hx hS
    obtain ⟨rfl, hlt⟩ := range_split hx
    obtain ⟨s3, e3, h3⟩ := mk_turn1 (P := P) (gl := gl) (T := T) (ix := ix) hF hM.1 hMr hp hsub hsn (by omega) hfuel hS
    exact ⟨s3, e3, Ret_mono h3 fun f s' ⟨a, b⟩ => ⟨a, b _⟩⟩
  · rintro s ⟨rs, y6, y7, rfl, r1, r2⟩
    rw [List.length_range] at r2
    have hstr : sAdd [.str [109], .str [97 + pre.length]] = some (.str (mkName pre.length)) := by rfl
    have hadd : sAdd [me M, .tup [.tup [.str (mkName pre.length), .tup (rs.map row1), .str v]]] = some (me (M ++ [⟨mkName pre.length, rs, v⟩])) := by
      unfold me
      rw [sAdd_T (by rw [List.length_map, hMl]; show _ + 1 ≤ _; omega), List.map_append]; rfl
    simp [calms, calm, sem, sTupleOf, i1, m3, ev, hnm, hstr, hadd, evalF, mark, freshE, freshB, fresh, St.freeze]
    have hib : isBox (me (M ++ [⟨mkName pre.length, rs, v⟩])) = false := rfl
    simp [hib]
    intro x
    refine ⟨_, _, _, _, _, _, rfl, hM.snoc (by omega) ⟨r1, hv, ⟨by show 1 ≤ rs.length; omega, by show rs.length ≤ 3; omega⟩, by show mkName pre.length = mkName M.length; rw [hMl]⟩, by simp [hMl]⟩
theorem marks_ok {L : List Int} {F : Facts} {n : Nat} (hF : F.length ≤ 1000) (hFn : F ≠ []) (hk : ∀ p ∈ F, okKind p.2) (hL : 121 ≤ L.length) (hn : Nn L) (hfuel : 5 ≤ n) : ∃ M : List Mk, callN P gl T (n + 1) (ix .law_marks) [intE L, fe F] = some (.val (me M)) ∧ MksOk F M := by
  have i0 : sIx [intE L, .int 0] = some (.int (g L 0)) := ixI' (by omega) rfl
  have m4 : ∀ z : Int, sMod [.int z, .int 4] = some (.int (z % 4)) := fun z => smod_pos (by decide)
  obtain ⟨q, hq, hix⟩ : ∃ q : Nat, q ≤ 2 ∧ sIx [.lst [.int 0, .int 0, .int 1, .int 2], .int (g L 0 % 4)] = some (.int (q : Int)) := by
    obtain ⟨j, hj, ej⟩ := md_nat (g L 0) 4 (by decide)
    have ej' : g L 0 % 4 = (j : Int) := ej
    rw [ej']
    have : j = 0 ∨ j = 1 ∨ j = 2 ∨ j = 3 := by omega
    rcases this with rfl | rfl | rfl | rfl
    · exact ⟨0, by omega, rfl⟩
    · exact ⟨0, by omega, rfl⟩
    · exact ⟨1, by omega, rfl⟩
    · exact ⟨2, by omega, rfl⟩
  rw [run_of]
  obtain ⟨r, e, M, rfl, h⟩ : ∃ r, runF ⟨callN P gl T n, fun j => gl[j]?, T⟩ (cd ix .law_marks) [intE L, fe F] = some r ∧ ∃ M : List Mk, r = .val (me M) ∧ MksOk F M := by
    refine run_RetP rfl ?_
    refine Ret_seq (fun s => s = ⟨[some (.val (intE L)), some (.val (fe F)), some (.val (me [])), none, none, none, none, none], []⟩) (by simp [cd, c_law_marks, evalF, mark, freshE, me]) ?_
    rintro s rfl
    refine Ret_seq (fun s => mkS2 L F (List.range q) s) (forr_Ret (e := fun k : Nat => PV.int (k : Int)) (xs := List.range q) (vs := [.int (q : Int)]) (s1 := ⟨[some (.val (intE L)), some (.val (fe F)), some (.val (me [])), none, none, none, none, none], []⟩) (by simp [calms, calm, sem, i0, m4, hix]) (by simp only [items, bndN (show q < 1000000 by omega), if_true]; rw [rngL_nat]) (mkS2 L F) ⟨[], _, _, _, _, _, rfl, ⟨by simp, fun i h => by simp at h⟩, rfl⟩ ?_) ?_
    · rintro pre x post s hx hS
      obtain ⟨rfl, hlt⟩ := range_split hx
      obtain ⟨s3, e3, h3⟩ := mk_turn2 (P := P) (gl := gl) (T := T) (ix := ix) hF hFn hk hL hn (by omega) hfuel hS
      exact ⟨s3, e3, Ret_mono h3 fun f s' ⟨a, b⟩ => ⟨a, b _⟩⟩
    · rintro s ⟨M, x3, x4, x5, x6, x7, rfl, h1, h2⟩
      simp
      exact ⟨M, rfl, h1⟩
  exact ⟨M, e, h⟩
end
end R
end
section
set_option Elab.async false
set_option linter.all false
set_option autoImplicit false
set_option maxRecDepth 100000
set_option maxHeartbeats 1000000
namespace Ev
theorem All2.len {α β : Type} {Q : α → β → Prop} {xs : List α} {ys : List β} (h : All2 Q xs ys) : xs.length = ys.length := by
  induction h with
  | nil => rfl
  | cons _ _ ih => simp [ih]
theorem All2.snoc {α β : Type} {Q : α → β → Prop} {xs : List α} {ys : List β} {x : α} {y : β} (h : All2 Q xs ys) (q : Q x y) : All2 Q (xs ++ [x]) (ys ++ [y]) := by
  induction h with
  | nil => exact .cons q .nil
  | cons h _ ih => exact .cons h ih
end Ev
namespace R
open Ev
def treeOk (pool : Facts) (A : List Txt) : Tree → Prop
  | .nil => True
  | .node c o a b => (condOk pool c ∧ c.dp < 3 ∧ c.lv ≤ 2) ∧ o ∈ A ∧ treeOk pool A a ∧ treeOk pool A b
theorem Tree.dp_sz : ∀ t : Tree, t.dp ≤ t.sz
  | .nil => Nat.le_refl _
  | .node c o a b => by have := dp_sz a; have := dp_sz b; simp only [Tree.dp, Tree.sz]; omega
variable {P : List Fn} {gl : List PV} {T : Nat} {ix : Nm → Nat}
section
variable [Has P ix .law_leaf] [Has P ix .law_condition] [Has P ix .law_tree]
theorem tree_ok {pool : Facts} (hp : poolNe pool) {A : List Txt} (hA : A ≠ []) (hA2 : A.length ≤ 100) : ∀ (many : Nat) (L : List Int) (n : Nat), many ≤ 1000 → 20 * many ≤ L.length → Nn L → many + 6 ≤ n → ∃ t : Tree, callN P gl T n (ix .law_tree) [intE L, .lst (pool.map fact1), strE A, .int many] = some (.val t.e) ∧ treeOk pool A t ∧ t.sz = many := by
  intro many
  induction many using Nat.strongRecOn with
  | _ many ih =>
    intro L n hmx hl hn hm
    obtain ⟨m, rfl⟩ : ∃ m, n = m + 1 := ⟨n - 1, by omega⟩
    by_cases h0 : many = 0
    · subst h0
      refine ⟨.nil, ?_, trivial, rfl⟩
      rw [run_of]
      refine run_Ret rfl ?_
      simp [cd, c_law_tree, calms, calm, sem, evalR, evalF, mark, freshE, Tree.e]
    · have i17 : sIx [intE L, .int 17] = some (.int (g L 17)) := ixI' (by omega) rfl
      have i18 : sIx [intE L, .int 18] = some (.int (g L 18)) := ixI' (by omega) rfl
      have i19 : sIx [intE L, .int 19] = some (.int (g L 19)) := ixI' (by omega) rfl
      have mm : ∀ z : Int, sMod [.int z, .int many] = some (.int (z % many)) := fun z => smod_pos (by omega)
      have m3 : ∀ z : Int, sMod [.int z, .int 3] = some (.int (z % 3)) := fun z => smod_pos (by decide)
      obtain ⟨q, hq, eq⟩ := md_nat (g L 19) many (by omega)
      obtain ⟨c3, hc3, ec3⟩ := md_nat (g L 18) 3 (by decide)
      have ec3' : g L 18 % 3 = (c3 : Int) := ec3
      have hal : 0 < A.length := List.length_pos_iff.mpr hA
      have ma : ∀ z : Int, sMod [.int z, .int A.length] = some (.int (z % A.length)) := fun z => smod_pos (by omega)
      obtain ⟨j, hj, ej⟩ := md_nat (g L 17) A.length hal
      have hsA : sLen [strE A] = some (.int A.length) := by simp [sLen, strE]
      have iA : sIx [strE A, .int (j : Int)] = some (.str A[j]) := by
        unfold strE; rw [ixT (by rw [List.length_map]; exact hj)]; simp
      have mul20 : sMul [.int 20, .int (q : Int)] = some (.int (20 * (q : Int))) := mulN (a := 20) (by omega)
      have hl1 : sSlLH [intE L, .int 20, .int (20 + 20 * (q : Int))] = some (intE (sub L 20 (20 + 20 * q))) := by
        rw [← slLH_I L 20 (20 + 20 * q)]; congr 3
      have hl2 : sSlL [intE L, .int (20 + 20 * (q : Int))] = some (intE (L.drop (20 + 20 * q))) := by
        rw [← slL_I L (20 + 20 * q)]; congr 3
      obtain ⟨a, ea, ka, sa⟩ := ih q hq (sub L 20 (20 + 20 * q)) m (by omega) (by rw [sub_len]; omega) (sub_nn hn _ _) (by omega)
      obtain ⟨b, eb, kb, sb⟩ := ih (many - 1 - q) (by omega) (L.drop (20 + 20 * q)) m (by omega) (by rw [List.length_drop]; omega) (drop_nn hn _) (by omega)
      have cb : (many : Int) - 1 - (q : Int) = ((many - 1 - q : Nat) : Int) := by omega
      have eb' : callN P gl T m (ix .law_tree) [intE (L.drop (20 + 20 * q)), .lst (pool.map fact1), strE A, .int ((many : Int) - 1 - (q : Int))] = some (.val b.e) := by rw [cb]; exact eb
      obtain ⟨c, ec, k1, k2, k3⟩ := cond_ok (P := P) (gl := gl) (T := T) (ix := ix) hp (1 + c3) L m (by omega) (by omega) hn (by omega)
      have ec' : callN P gl T m (ix .law_condition) [intE L, .lst (pool.map fact1), .int (1 + (c3 : Int))] = some (.val c.e) := by rw [show (1 + (c3 : Int)) = ((1 + c3 : Nat) : Int) by omega]; exact ec
      refine ⟨.node c A[j] a b, ?_, ⟨⟨k1, by omega, by omega⟩, List.getElem_mem hj, ka, kb⟩, by simp only [Tree.sz]; omega⟩
      have h0' : ((many : Int) == 0) = false := by rw [beq_eq_false_iff_ne]; omega
      have h0n : ¬ (many : Int) = 0 := by omega
      rw [run_of]
      refine run_Ret rfl ?_
      simp [cd, c_law_tree, calms, calm, sem, h0, h0', h0n, i17, i18, i19, mm, m3, ma, eq, ec3', ej, hsA, iA, mul20, hl1, hl2, ea, eb', ec', evalR, evalF, mark, freshE, freshB, fresh, isBox, St.freeze, Tree.e]
end
def advNames : List Txt := [[103, 111], [115, 116, 97, 121], [119, 97, 105, 116], [122, 122]]
structure Gen (b : Book) (limit : Nat) : Prop where
  F : WFacts b.F limit
  M : MksOk b.F b.M
  A : ∃ q : Nat, q < 4 ∧ b.A = advNames.take (1 + q)
  first : b.first ∈ b.A
  t : treeOk (poolOf b.F b.M) b.A b.t
  sz : b.t.sz ≤ 30 ∧ b.t.dp ≤ 12
section
variable [Has P ix .law_leaf] [Has P ix .law_condition] [Has P ix .law_pool] [Has P ix .law_marks] [Has P ix .law_kind] [Has P ix .law_facts] [Has P ix .law_tree] [Has P ix .law_book]
theorem book_ok {L : List Int} {limit : Nat} (h0 : 0 < limit) (hl : limit ≤ 8) (hL : 288 ≤ L.length) (hn : Nn L) (n : Nat) (hfuel : 20 ≤ n) : ∃ b : Book, callN P gl T (n + 1) (ix .law_book) [intE L, .int limit] = some (.val b.e) ∧ Gen b limit := by
  obtain ⟨m, rfl⟩ : ∃ m, n = m + 2 := ⟨n - 2, by omega⟩
  obtain ⟨F, eF, kF⟩ := facts_ok (P := P) (gl := gl) (T := T) (ix := ix) h0 hl (L := L) (by omega) m
  have hFl : F.length ≤ 1000 := by have := kF.len; omega
  obtain ⟨M, eM, kM⟩ := marks_ok (P := P) (gl := gl) (T := T) (ix := ix) (L := L.drop 40) (F := F) (n := m + 1) hFl kF.ne kF.kd (by rw [List.length_drop]; omega) (drop_nn hn _) (by omega)
  have hMr : ∀ m ∈ M, m.rows.length ≤ 1000 := by
    intro m hm
    obtain ⟨i, hi, rfl⟩ := List.mem_iff_getElem.mp hm
    have := (kM.2 i hi).len.2
    omega
  have hML : M.length ≤ 2 := kM.1
  have ePool := pool_ok (P := P) (gl := gl) (T := T) (ix := ix) F M (m + 1) hFl (by omega) hMr
  have hp : poolNe (poolOf F M) := poolNe_of kF.ne kF.kd
  have i165 : sIx [intE L, .int 165] = some (.int (g L 165)) := ixI' (by omega) rfl
  have i166 : sIx [intE L, .int 166] = some (.int (g L 166)) := ixI' (by omega) rfl
  have i167 : sIx [intE L, .int 167] = some (.int (g L 167)) := ixI' (by omega) rfl
  have m4 : ∀ z : Int, sMod [.int z, .int 4] = some (.int (z % 4)) := fun z => smod_pos (by decide)
  have m7 : ∀ z : Int, sMod [.int z, .int 7] = some (.int (z % 7)) := fun z => smod_pos (by decide)
  obtain ⟨q, hq, eq⟩ := md_nat (g L 165) 4 (by decide)
  have eq' : g L 165 % 4 = (q : Int) := eq
  obtain ⟨t7, ht7, et7⟩ := md_nat (g L 166) 7 (by decide)
  have et7' : g L 166 % 7 = (t7 : Int) := et7
  have hslA : sSlH [.lst [.str [103, 111], .str [115, 116, 97, 121], .str [119, 97, 105, 116], .str [122, 122]], .int (1 + (q : Int))] = some (.lst ((advNames.take (1 + q)).map .str)) := by
    have : q = 0 ∨ q = 1 ∨ q = 2 ∨ q = 3 := by omega
    rcases this with rfl | rfl | rfl | rfl <;> rfl
  have hAl : (advNames.take (1 + q)).length = 1 + q := by rw [List.length_take]; show min (1 + q) 4 = _; omega
  have htA : sTupleOf [.lst ((advNames.take (1 + q)).map .str)] = some (strE (advNames.take (1 + q))) := rfl
  generalize hA : advNames.take (1 + q) = A at hslA hAl htA
  have hsA : sLen [strE A] = some (.int A.length) := by simp [sLen, strE]
  obtain ⟨j, hj, ej⟩ := md_nat (g L 167) A.length (by omega)
  have ma : ∀ z : Int, sMod [.int z, .int A.length] = some (.int (z % A.length)) := fun z => smod_pos (by omega)
  have iA : sIx [strE A, .int (j : Int)] = some (.str A[j]) := by
    unfold strE; rw [ixT (by rw [List.length_map]; exact hj)]; simp
  have hs40 : sSlL [intE L, .int 40] = some (intE (L.drop 40)) := slL_I L 40
  have hs168 : sSlL [intE L, .int 168] = some (intE (L.drop 168)) := slL_I L 168
  obtain ⟨t, eT, kT, sT⟩ := tree_ok (P := P) (gl := gl) (T := T) (ix := ix) hp (A := A) (by intro e; rw [e] at hAl; simp at hAl; omega) (by omega) t7 (L.drop 168) (m + 2) (by omega) (by rw [List.length_drop]; omega) (drop_nn hn _) (by omega)
  refine ⟨⟨F, M, A, A[j], t⟩, ?_, kF, kM, ⟨q, hq, hA.symm⟩, List.getElem_mem hj, kT, by have := Tree.dp_sz t; exact ⟨by show t.sz ≤ 30; omega, by show t.dp ≤ 12; omega⟩⟩
  rw [run_of]
  refine run_Ret rfl ?_
  simp [cd, c_law_book, calms, calm, sem, i165, i166, i167, m4, m7, eq', et7', hslA, htA, hsA, ma, ej, iA, hs40, hs168, eF, eM, ePool, eT, evalR, evalF, mark, freshE, freshB, fresh, isBox, St.freeze, Book.e]
end
/-- a fact, and the same going far -/
def far1 (p q : Txt × Kind) : Prop := q.1 = p.1 ∧ match p.2, q.2 with
  | .ch vs, .ch ws => ws = vs
  | .nu a b, .nu c d => (c = a ∨ c = -1000000000) ∧ (d = b ∨ d = 1000000000)
  | _, _ => False
def faF (F : Facts) (L : List Int) (pre : List (Nat × (Txt × Kind))) (s : St) : Prop := ∃ (G : Facts) (x3 x4 x5 : Option SV), s = ⟨[some (.val (fe F)), some (.val (intE L)), some (.own (.lst (G.map fact1))), x3, x4, x5], []⟩ ∧ All2 far1 (pre.map (·.2)) G
theorem enum_facts (F : Facts) : items .enum [fe F] = some (((List.range F.length).zip F).map fun p => PV.tup [.int (p.1 : Int), fact1 p.2]) := by
  simp only [items, fe, enumL, List.length_map]
  rw [zip_map2, List.map_map]; rfl
section
variable [Has P ix .law_far_facts]
def faB : List CS := [(.ife (.and (.bi .eq [(.bi .ix [(.var 5), (.lit (.int (0)))]), (.lit (.str [110, 117, 109, 98, 101, 114]))]) (.bi .gt [(.bi .mod [(.bi .ix [(.var 1), (.var 3)]), (.lit (.int (3)))]), (.lit (.int (0)))])) [(.asgO 5 (.tup [(.lit (.str [110, 117, 109, 98, 101, 114])), (.bi .ix [(.lst [(.bi .ix [(.var 5), (.lit (.int (1)))]), (.bi .neg [(.bi .pow [(.lit (.int (10))), (.lit (.int (9)))])])]), (.bi .mod [(.bi .fdiv [(.bi .ix [(.var 1), (.var 3)]), (.lit (.int (3)))]), (.lit (.int (2)))])]), (.bi .ix [(.lst [(.bi .ix [(.var 5), (.lit (.int (2)))]), (.bi .pow [(.lit (.int (10))), (.lit (.int (9)))])]), (.bi .mod [(.bi .fdiv [(.bi .ix [(.var 1), (.var 3)]), (.lit (.int (6)))]), (.lit (.int (2)))])])]))] []), (.ex (.mut .append 2 [(.tup [(.var 4), (.var 5)])]))]
theorem ix2b (a b : PV) (z : Int) : ∃ v, (v = a ∨ v = b) ∧ sIx [.lst [a, b], .int (z % 2)] = some v := by
  obtain ⟨j, hj, ej⟩ := md_nat z 2 (by decide)
  have ej' : z % 2 = (j : Int) := ej
  rw [ej']
  have : j = 0 ∨ j = 1 := by omega
  rcases this with rfl | rfl
  · exact ⟨a, .inl rfl, rfl⟩
  · exact ⟨b, .inr rfl, rfl⟩
theorem fa_turn {Γ : Cx} {F : Facts} {L : List Int} {pre : List (Nat × (Txt × Kind))} {k : Nat} {p : Txt × Kind} {s : St} (hk : k < L.length) (hpre : pre.length ≤ 1000) (h : faF F L pre s) :
    ∃ s3, bindT (.tp [.nm 3, .tp [.nm 4, .nm 5]]) (.tup [.int (k : Int), fact1 p]) s = some s3 ∧ Ret (execs Γ faB s3) fun f s' => f = .nx ∧ faF F L (pre ++ [(k, p)]) s' := by
  obtain ⟨G, x3, x4, x5, rfl, hG⟩ := h
  obtain ⟨nm, kd⟩ := p
  have hGl := hG.len
  rw [List.length_map] at hGl
  have ik : sIx [intE L, .int (k : Int)] = some (.int (g L k)) := ixI hk
  have m3 : ∀ z : Int, sMod [.int z, .int 3] = some (.int (z % 3)) := fun z => smod_pos (by decide)
  have m2 : ∀ z : Int, sMod [.int z, .int 2] = some (.int (z % 2)) := fun z => smod_pos (by decide)
  have d3 : ∀ z : Int, sFdiv [.int z, .int 3] = some (.int (z / 3)) := fun z => sfdiv_pos (by decide) (wide_of (by decide))
  have d6 : ∀ z : Int, sFdiv [.int z, .int 6] = some (.int (z / 6)) := fun z => sfdiv_pos (by decide) (wide_of (by decide))
  have hpow : sPow [.int 10, .int 9] = some (.int 1000000000) := by simp [sPow, big]
  have hneg : sNeg [.int 1000000000] = some (.int (-1000000000)) := rfl
  have hkm : kindM .append (.lst (G.map fact1)) = true := rfl
  have hap : ∀ v, semMut .append (.lst (G.map fact1)) [v] = some (.non, .lst (G.map fact1 ++ [v])) := fun v => app_ok (by rw [List.length_map]; omega)
  refine ⟨_, rfl, ?_⟩
  cases kd with
  | ch vs =>
    simp [faB, Kind.e, calms, calm, sem, hkm, hap, St.freeze]
    refine ⟨G ++ [(nm, .ch vs)], _, _, _, by rw [List.map_append]; rfl, ?_⟩
    rw [List.map_append]
    exact hG.snoc ⟨rfl, rfl⟩
  | nu a b =>
    by_cases h3 : 0 < g L k % 3
    · obtain ⟨v, hv, ev⟩ := ix2b (.int a) (.int (-1000000000)) (g L k / 3)
      obtain ⟨w, hw, ew⟩ := ix2b (.int b) (.int 1000000000) (g L k / 6)
      obtain ⟨c, rfl, hc⟩ : ∃ c, v = .int c ∧ (c = a ∨ c = -1000000000) := by
        rcases hv with rfl | rfl
        · exact ⟨_, rfl, .inl rfl⟩
        · exact ⟨_, rfl, .inr rfl⟩
      obtain ⟨d, rfl, hd⟩ : ∃ c, w = .int c ∧ (c = b ∨ c = 1000000000) := by
        rcases hw with rfl | rfl
        · exact ⟨_, rfl, .inl rfl⟩
        · exact ⟨_, rfl, .inr rfl⟩
      simp [faB, Kind.e, calms, calm, sem, ik, m3, m2, d3, d6, hpow, hneg, h3, ev, ew, evalF, mark, freshE, hkm, hap, St.freeze]
      refine ⟨G ++ [(nm, .nu c d)], _, _, _, by rw [List.map_append]; rfl, ?_⟩
      rw [List.map_append]
      exact hG.snoc ⟨rfl, hc, hd⟩
    · simp [faB, Kind.e, calms, calm, sem, ik, m3, h3, hkm, hap, St.freeze]
      refine ⟨G ++ [(nm, .nu a b)], _, _, _, by rw [List.map_append]; rfl, ?_⟩
      rw [List.map_append]
      exact hG.snoc ⟨rfl, .inl rfl, .inl rfl⟩
theorem zip_range_map {α : Type} (F : List α) : ((List.range F.length).zip F).map (·.2) = F := by
  apply List.map_snd_zip
  rw [List.length_range]; exact Nat.le_refl _
theorem far_ok {F : Facts} {L : List Int} (hL : F.length ≤ L.length) (hF : F.length ≤ 1000) (n : Nat) : ∃ G : Facts, callN P gl T (n + 1) (ix .law_far_facts) [fe F, intE L] = some (.val (fe G)) ∧ All2 far1 F G := by
  rw [run_of]
  obtain ⟨r, e, G, rfl, h⟩ : ∃ r, runF ⟨callN P gl T n, fun j => gl[j]?, T⟩ (cd ix .law_far_facts) [fe F, intE L] = some r ∧ ∃ G : Facts, r = .val (fe G) ∧ All2 far1 F G := by
    refine run_RetP rfl ?_
    refine Ret_seq (fun s => s = ⟨[some (.val (fe F)), some (.val (intE L)), some (.own (.lst [])), none, none, none], []⟩) (by simp [cd, c_law_far_facts, evalF, mark, freshE]) ?_
    rintro s rfl
    refine Ret_seq (fun s => faF F L ((List.range F.length).zip F) s) (forr_Ret (e := fun p : Nat × (Txt × Kind) => PV.tup [.int (p.1 : Int), fact1 p.2]) (xs := (List.range F.length).zip F) (vs := [fe F]) (s1 := ⟨[some (.val (fe F)), some (.val (intE L)), some (.own (.lst [])), none, none, none], []⟩) rfl (enum_facts F) (faF F L) ⟨[], _, _, _, rfl, .nil⟩ ?_) ?_
    · rintro pre ⟨k, p⟩ post s hx hS
      have hz : ((List.range F.length).zip F).length = pre.length + (post.length + 1) := by rw [hx]; simp
      rw [List.length_zip, List.length_range] at hz
      have hm : (k, p) ∈ (List.range F.length).zip F := by rw [hx]; simp
      have hk := List.mem_range.mp (List.of_mem_zip hm).1
      exact fa_turn (by omega) (by omega) hS
    · rintro s ⟨G, x3, x4, x5, rfl, hG⟩
      rw [zip_range_map] at hG
      simp [calms, calm, sem, sTupleOf, evalR, evalF, mark, freshE, freshB, fresh]
      exact ⟨G, rfl, hG⟩
  exact ⟨G, e, h⟩
end
end R
end
section
set_option Elab.async false
set_option linter.all false
set_option autoImplicit false
set_option maxRecDepth 100000
set_option maxHeartbeats 1000000
/-! picks: the product, its order -/
namespace R
open Ev
def ltV1 : Val → Val → Bool
  | .i a, .i b => ltI a b
  | .s a, .s b => ltT a b
  | .i _, .s _ => true
  | .s _, .i _ => false
theorem stoV1 : Sto ltV1 where
  irr := fun a => by cases a <;> simp [ltV1, stoT.irr, stoI.irr]
  trans := fun a b c h k => by
    cases a <;> cases b <;> cases c <;> simp [ltV1] at h k ⊢
    · exact stoT.trans _ _ _ h k
    · exact stoI.trans _ _ _ h k
  tri := fun a b => by
    cases a <;> cases b <;> simp [ltV1]
    · exact stoT.tri _ _
    · exact stoI.tri _ _
/-- lists, by the first place -/
def ltL {α : Type} [DecidableEq α] (lt : α → α → Bool) : List α → List α → Bool
  | [], [] => false
  | [], _ :: _ => true
  | _ :: _, [] => false
  | a :: s, b :: t => if a = b then ltL lt s t else lt a b
section
variable {α : Type} [DecidableEq α] {lt : α → α → Bool}
theorem ltL_irr : ∀ a : List α, ltL lt a a = false
  | [] => rfl
  | a :: s => by rw [ltL, if_pos rfl, ltL_irr s]
theorem ltL_trans (o : Sto lt) : ∀ a b c : List α, ltL lt a b = true → ltL lt b c = true → ltL lt a c = true
  | [], [], _, h, _ => by simp [ltL] at h
  | [], _ :: _, [], _, h => by simp [ltL] at h
  | [], _ :: _, _ :: _, _, _ => rfl
  | _ :: _, [], _, h, _ => by simp [ltL] at h
  | _ :: _, _ :: _, [], _, h => by simp [ltL] at h
  | a :: s, b :: t, c :: u, h, k => by
    rw [ltL] at h k ⊢
    by_cases h1 : a = b
    · subst h1
      rw [if_pos rfl] at h
      by_cases h2 : a = c
      · subst h2
        rw [if_pos rfl] at k ⊢
        exact ltL_trans o s t u h k
      · rw [if_neg h2] at k ⊢; exact k
    · rw [if_neg h1] at h
      by_cases h2 : b = c
      · subst h2
        rw [if_neg h1]; exact h
      · rw [if_neg h2] at k
        have h3 := o.trans _ _ _ h k
        have : a ≠ c := fun e => by subst e; rw [o.irr] at h3; exact absurd h3 Bool.false_ne_true
        rw [if_neg this]; exact h3
theorem ltL_tri (o : Sto lt) : ∀ a b : List α, ltL lt a b = true ∨ a = b ∨ ltL lt b a = true
  | [], [] => .inr (.inl rfl)
  | [], _ :: _ => .inl rfl
  | _ :: _, [] => .inr (.inr rfl)
  | a :: s, b :: t => by
    rw [ltL, ltL]
    by_cases h1 : a = b
    · subst h1
      rw [if_pos rfl, if_pos rfl]
      rcases ltL_tri o s t with h | h | h
      · exact .inl h
      · exact .inr (.inl (by rw [h]))
      · exact .inr (.inr h)
    · rw [if_neg h1, if_neg (Ne.symm h1)]
      rcases o.tri a b with h | h | h
      · exact .inl h
      · exact absurd h h1
      · exact .inr (.inr h)
theorem stoL (o : Sto lt) : Sto (ltL lt) := ⟨ltL_irr, ltL_trans o, ltL_tri o⟩
end
def ltC : List Val → List Val → Bool := ltL ltV1
theorem stoC : Sto ltC := stoL stoV1
/-! ### the product -/
def pr : List (List Cell) → List Pick
  | [] => [[]]
  | r :: R => r.flatMap fun c => (pr R).map (c :: ·)
theorem pr_cons (r : List Cell) (R : List (List Cell)) : pr (r :: R) = r.flatMap fun c => (pr R).map (c :: ·) := rfl
theorem step_app (R : List (List Cell)) : ∀ ps : List Pick, R.foldl step ps = ps.flatMap fun p => (pr R).map (p ++ ·) := by
  induction R with
  | nil => intro ps; simp [pr]
  | cons r R ih =>
    intro ps
    rw [List.foldl_cons, ih]
    unfold step
    rw [pr_cons]
    rw [List.flatMap_assoc]
    congr 1
    funext p
    rw [List.map_flatMap, List.flatMap_map]
    congr 1
    funext c
    rw [List.map_map]
    congr 1
    funext q
    simp
theorem picks_pr (R : List (List Cell)) : picks R = pr R := by
  unfold picks
  rw [step_app]
  simp
theorem mem_pr (R : List (List Cell)) : ∀ p : Pick, p ∈ pr R ↔ All2 (fun c r => c ∈ r) p R := by
  induction R with
  | nil =>
    intro p
    simp only [pr, List.mem_singleton]
    constructor
    · rintro rfl; exact .nil
    · intro h; cases h; rfl
  | cons r R ih =>
    intro p
    simp only [pr, List.mem_flatMap, List.mem_map]
    constructor
    · rintro ⟨c, hc, q, hq, rfl⟩
      exact .cons hc ((ih q).mp hq)
    · intro h
      cases h with
      | cons hc ht => exact ⟨_, hc, _, (ih _).mpr ht, rfl⟩
/-- the rows rise by their first values -/
def rowAsc (r : List Cell) : Prop := r.Pairwise fun c d => ltV1 (firstOf c) (firstOf d) = true
theorem pr_asc : ∀ (R : List (List Cell)), (∀ r ∈ R, rowAsc r) → (pr R).Pairwise fun p q => ltC (caseOf p) (caseOf q) = true
  | [], _ => by simp [pr]
  | r :: R, h => by
    have ih := pr_asc R fun x hx => h x (List.mem_cons_of_mem _ hx)
    have hr := h r List.mem_cons_self
    rw [pr_cons]
    clear h
    unfold rowAsc at hr
    induction r with
    | nil => simp
    | cons c r ihr =>
      rw [List.pairwise_cons] at hr
      rw [List.flatMap_cons, List.pairwise_append]
      refine ⟨?_, ihr hr.2, ?_⟩
      · rw [List.pairwise_map]
        refine ih.imp fun {p q} hpq => ?_
        show ltL ltV1 (firstOf c :: caseOf p) (firstOf c :: caseOf q) = true
        rw [ltL, if_pos rfl]; exact hpq
      · intro p hp q hq
        obtain ⟨p', hp', rfl⟩ := List.mem_map.mp hp
        obtain ⟨d, hd, hq⟩ := List.mem_flatMap.mp hq
        obtain ⟨q', hq', rfl⟩ := List.mem_map.mp hq
        have h1 := hr.1 d hd
        show ltL ltV1 (firstOf c :: caseOf p') (firstOf d :: caseOf q') = true
        have hne : firstOf c ≠ firstOf d := fun e => by rw [e, stoV1.irr] at h1; exact absurd h1 Bool.false_ne_true
        rw [ltL, if_neg hne]; exact h1
/-- the first that is so is the least -/
theorem find_least {R : List (List Cell)} (h : ∀ r ∈ R, rowAsc r) {f : Pick → Bool} {p : Pick} (hf : (pr R).find? f = some p) : ∀ q ∈ pr R, f q = true → ltC (caseOf q) (caseOf p) = false := by
  have ha := pr_asc R h
  revert hf ha
  generalize pr R = l
  intro hf ha
  induction l with
  | nil => simp at hf
  | cons x l ih =>
    rw [List.pairwise_cons] at ha
    intro q hq hfq
    rw [List.find?_cons] at hf
    cases hx : f x with
    | true =>
      rw [hx] at hf
      cases hf
      rcases List.mem_cons.mp hq with rfl | hq
      · exact stoC.irr _
      · exact stoC.asym (ha.1 q hq)
    | false =>
      rw [hx] at hf
      rcases List.mem_cons.mp hq with rfl | hq
      · rw [hx] at hfq; exact absurd hfq Bool.false_ne_true
      · exact ih hf ha.2 q hq hfq
/-- one row taken apart -/
def pt : Val → Cell
  | .s t => .s t
  | .i z => .r z z
theorem first_pt (v : Val) : firstOf (pt v) = v := by cases v <;> rfl
theorem size_pt (v : Val) : sizeOf (pt v) = 1 := by
  cases v with
  | s t => rfl
  | i z => simp only [pt, sizeOf]; omega
/-! sums over the product -/
def sumP (f : Pick → Int) (R : List (List Cell)) : Int := ((pr R).map f).sum
theorem sum_flatMap {α : Type} (f : α → List Int) (l : List α) : (l.flatMap f).sum = (l.map fun a => (f a).sum).sum := by
  induction l with
  | nil => rfl
  | cons a l ih => rw [List.flatMap_cons, List.sum_append, List.map_cons, List.sum_cons, ih]
theorem sum_filter {α : Type} (l : List α) (f : α → Bool) (g : α → Int) : ((l.filter f).map g).sum = (l.map fun a => if f a = true then g a else 0).sum := by
  induction l with
  | nil => rfl
  | cons a l ih =>
    rw [List.filter_cons, List.map_cons, List.sum_cons]
    cases h : f a
    · simp [ih]
    · simp [ih]
theorem sumP_cons (f : Pick → Int) (r : List Cell) (R : List (List Cell)) : sumP f (r :: R) = (r.map fun c => sumP (fun p => f (c :: p)) R).sum := by
  unfold sumP
  rw [pr_cons]
  rw [List.map_flatMap, sum_flatMap]
  congr 1
  apply List.map_congr_left
  intro c _
  rw [List.map_map]; rfl
theorem sum_map_mul (l : List Pick) (k : Int) (f : Pick → Int) : (l.map fun p => k * f p).sum = k * (l.map f).sum := by
  induction l with
  | nil => simp
  | cons a l ih => rw [List.map_cons, List.sum_cons, ih, List.map_cons, List.sum_cons, Int.mul_add]
theorem sum_map_mul' {α : Type} (l : List α) (k : Int) (f : α → Int) : (l.map fun p => k * f p).sum = k * (l.map f).sum := by
  induction l with
  | nil => simp
  | cons a l ih => rw [List.map_cons, List.sum_cons, ih, List.map_cons, List.sum_cons, Int.mul_add]
theorem sum_add {α : Type} (l : List α) (f g : α → Int) : (l.map fun a => f a + g a).sum = (l.map f).sum + (l.map g).sum := by
  induction l with
  | nil => rfl
  | cons a l ih => simp only [List.map_cons, List.sum_cons, ih]; omega
theorem sum_zero {α : Type} (l : List α) : (l.map fun _ => (0 : Int)).sum = 0 := by
  induction l with
  | nil => rfl
  | cons a l ih => simp only [List.map_cons, List.sum_cons, ih]; rfl
theorem sum_swap {α β : Type} (l : List α) (m : List β) (f : α → β → Int) : (l.map fun a => (m.map fun b => f a b).sum).sum = (m.map fun b => (l.map fun a => f a b).sum).sum := by
  induction l with
  | nil => simp [sum_zero]
  | cons a l ih => simp only [List.map_cons, List.sum_cons, ih, ← sum_add]
theorem sumP_split (f : Pick → Int) (r : List Cell) (B : List (List Cell)) : ∀ A : List (List Cell), sumP f (A ++ r :: B) = (r.map fun c => sumP f (A ++ [c] :: B)).sum := by
  intro A
  induction A generalizing f with
  | nil =>
    rw [List.nil_append, sumP_cons]
    congr 1
    apply List.map_congr_left
    intro c _
    rw [List.nil_append, sumP_cons]; simp
  | cons a A ih =>
    rw [List.cons_append, sumP_cons]
    have : (a.map fun c => sumP (fun p => f (c :: p)) (A ++ r :: B)) = a.map fun c => (r.map fun d => sumP (fun p => f (c :: p)) (A ++ [d] :: B)).sum := by
      apply List.map_congr_left; intro c _; exact ih _
    rw [this, sum_swap]
    congr 1
    apply List.map_congr_left
    intro d _
    rw [List.cons_append, sumP_cons]
/-- a cell by its first value -/
theorem sumP_pt {f : Pick → Int} {c : Cell} (h : ∀ x y : Pick, f (x ++ c :: y) = sizeOf c * f (x ++ pt (firstOf c) :: y)) (B : List (List Cell)) : ∀ (A : List (List Cell)), sumP f (A ++ [c] :: B) = sizeOf c * sumP f (A ++ [pt (firstOf c)] :: B) := by
  intro A
  induction A generalizing f with
  | nil =>
    rw [List.nil_append, List.nil_append, sumP_cons, sumP_cons]
    simp only [List.map_cons, List.map_nil, List.sum_cons, List.sum_nil, Int.add_zero]
    unfold sumP
    rw [← sum_map_mul]
    congr 1
    apply List.map_congr_left
    intro p _
    exact h [] p
  | cons a A ih =>
    rw [List.cons_append, List.cons_append, sumP_cons, sumP_cons]
    rw [← sum_map_mul']
    congr 1
    apply List.map_congr_left
    intro d _
    exact ih fun x y => h (d :: x) y
theorem manyIn_eq (p : Pick) : ∀ a : Int, p.foldl (fun a c => a * sizeOf c) a = a * manyIn p := by
  induction p with
  | nil => intro a; simp [manyIn]
  | cons c p ih =>
    intro a
    unfold manyIn
    rw [List.foldl_cons, List.foldl_cons, ih, ih (1 * sizeOf c), Int.one_mul, Int.mul_assoc]
theorem manyIn_cons (c : Cell) (p : Pick) : manyIn (c :: p) = sizeOf c * manyIn p := by
  unfold manyIn
  rw [List.foldl_cons, manyIn_eq, Int.one_mul]; rfl
theorem manyIn_mid (x y : Pick) (c : Cell) : manyIn (x ++ c :: y) = sizeOf c * manyIn (x ++ pt (firstOf c) :: y) := by
  induction x with
  | nil => rw [List.nil_append, List.nil_append, manyIn_cons, manyIn_cons, size_pt, Int.one_mul]
  | cons d x ih => rw [List.cons_append, List.cons_append, manyIn_cons, manyIn_cons, ih, ← Int.mul_assoc, ← Int.mul_assoc, Int.mul_comm (sizeOf d)]
theorem caseOf_mid (x y : Pick) (c : Cell) : caseOf (x ++ c :: y) = caseOf (x ++ pt (firstOf c) :: y) := by
  unfold caseOf; simp [first_pt]
/-- what is said by a pick's case: counted by cells of one row -/
theorem count_split (P : List Val → Bool) (A B : List (List Cell)) (r : List Cell) : sumP (fun p => if P (caseOf p) then manyIn p else 0) (A ++ r :: B) = (r.map fun c => sumP (fun p => if P (caseOf p) then manyIn p else 0) (A ++ [pt (firstOf c)] :: B) * sizeOf c).sum := by
  rw [sumP_split]
  congr 1
  apply List.map_congr_left
  intro c _
  rw [sumP_pt (c := c) (fun x y => by rw [caseOf_mid, manyIn_mid]; split <;> simp), Int.mul_comm]
/-- cases of the product -/
theorem cases_split (A B : List (List Cell)) (r : List Cell) (v : List Val) : (∃ p ∈ pr (A ++ r :: B), caseOf p = v) ↔ ∃ c ∈ r, ∃ p ∈ pr (A ++ [pt (firstOf c)] :: B), caseOf p = v := by
  induction A generalizing v with
  | nil =>
    simp only [List.nil_append, pr, List.mem_flatMap, List.mem_map]
    constructor
    · rintro ⟨p, ⟨c, hc, q, hq, rfl⟩, rfl⟩
      exact ⟨c, hc, _, ⟨pt (firstOf c), List.mem_singleton.mpr rfl, q, hq, rfl⟩, by simp [caseOf, first_pt]⟩
    · rintro ⟨c, hc, p, ⟨d, hd, q, hq, rfl⟩, rfl⟩
      rw [List.mem_singleton] at hd
      subst hd
      exact ⟨_, ⟨c, hc, q, hq, rfl⟩, by simp [caseOf, first_pt]⟩
  | cons a A ih =>
    simp only [List.cons_append, pr, List.mem_flatMap, List.mem_map]
    constructor
    · rintro ⟨p, ⟨d, hd, q, hq, rfl⟩, rfl⟩
      obtain ⟨c, hc, q', hq', e⟩ := (ih (caseOf q)).mp ⟨q, hq, rfl⟩
      exact ⟨c, hc, _, ⟨d, hd, q', hq', rfl⟩, by simp only [caseOf, List.map_cons] at e ⊢; rw [e]⟩
    · rintro ⟨c, hc, p, ⟨d, hd, q, hq, rfl⟩, rfl⟩
      obtain ⟨q', hq', e⟩ := (ih (caseOf q)).mpr ⟨c, hc, q, hq, rfl⟩
      exact ⟨_, ⟨d, hd, q', hq', rfl⟩, by simp only [caseOf, List.map_cons] at e ⊢; rw [e]⟩
end R
end
section
set_option Elab.async false
set_option linter.all false
set_option autoImplicit false
set_option maxRecDepth 100000
set_option maxHeartbeats 1000000
/-! books of the generator are sound -/
namespace Ev
theorem All2.get {α β : Type} {Q : α → β → Prop} {xs : List α} {ys : List β} (h : All2 Q xs ys) : ∀ {x : α}, x ∈ xs → ∃ y ∈ ys, Q x y := by
  induction h with
  | nil => intro x hx; cases hx
  | cons q _ ih =>
    intro x hx
    rcases List.mem_cons.mp hx with rfl | hx
    · exact ⟨_, List.mem_cons_self, q⟩
    · obtain ⟨y, hy, e⟩ := ih hx; exact ⟨y, List.mem_cons_of_mem _ hy, e⟩
theorem All2.get' {α β : Type} {Q : α → β → Prop} {xs : List α} {ys : List β} (h : All2 Q xs ys) : ∀ {y : β}, y ∈ ys → ∃ x ∈ xs, Q x y := by
  induction h with
  | nil => intro x hx; cases hx
  | cons q _ ih =>
    intro x hx
    rcases List.mem_cons.mp hx with rfl | hx
    · exact ⟨_, List.mem_cons_self, q⟩
    · obtain ⟨y, hy, e⟩ := ih hx; exact ⟨y, List.mem_cons_of_mem _ hy, e⟩
theorem All2.imp {α β : Type} {Q Q' : α → β → Prop} {xs : List α} {ys : List β} (h : All2 Q xs ys) (k : ∀ x y, x ∈ xs → y ∈ ys → Q x y → Q' x y) : All2 Q' xs ys := by
  induction h with
  | nil => exact .nil
  | cons q _ ih => exact .cons (k _ _ List.mem_cons_self List.mem_cons_self q) (ih fun x y hx hy => k x y (List.mem_cons_of_mem _ hx) (List.mem_cons_of_mem _ hy))
/-- rising whole numbers within a stretch are few -/
theorem asc_few : ∀ {l : List Int} {x : Int} {k : Nat}, Asc ltI l → (∀ z ∈ l, x ≤ z ∧ z < x + k) → l.length ≤ k
  | [], _, _, _, _ => Nat.zero_le _
  | a :: l, x, k, h, hb => by
    unfold Asc at h
    rw [List.pairwise_cons] at h
    have ha := hb a List.mem_cons_self
    obtain ⟨m, rfl⟩ : ∃ m, k = m + 1 := ⟨k - 1, by omega⟩
    have := asc_few (l := l) (x := x + 1) (k := m) h.2 fun z hz => by
      have h1 : a < z := of_decide_eq_true (h.1 z hz)
      have h2 := hb z (List.mem_cons_of_mem _ hz)
      omega
    rw [List.length_cons]; omega
end Ev
namespace R
open Ev
def tyV (p : Txt × Kind) (v : Val) : Prop := match p.2, v with
  | .ch _, .s _ => True
  | .nu _ _, .i _ => True
  | _, _ => False
abbrev TyC (F : Facts) (c : List Val) : Prop := All2 tyV F c
def TyW (pool : Facts) (w : World) : Prop := ∀ p ∈ pool, match p.2 with
  | .ch _ => ∃ t, look w p.1 = some (.s t)
  | .nu _ _ => ∃ z, look w p.1 = some (.i z)
theorem look_has (w : World) (n : Txt) : has w n = (look w n).isSome := by
  induction w with
  | nil => rfl
  | cons p w ih =>
    show (p.1 == n || has w n) = _
    rw [look, ih]
    cases p.1 == n <;> rfl
theorem look_map (n m : Txt) (v : Val) : ∀ w : World, has w n = true → look (w.map fun p => if p.1 == n then (p.1, v) else p) m = if n = m then some v else look w m := by
  intro w
  induction w with
  | nil => intro h; simp [has] at h
  | cons p w ih =>
    intro h
    rw [List.map_cons, look, look]
    by_cases hp : p.1 = n
    · subst hp
      have e1 : (p.1 == p.1) = true := by simp
      rw [if_pos e1]
      show (if (p.1 == m) = true then some v else _) = _
      by_cases hm : p.1 = m
      · rw [if_pos (by simpa using hm), if_pos hm]
      · have hm' : ¬ (p.1 == m) = true := by simpa using hm
        rw [if_neg hm', if_neg hm, if_neg hm']
        by_cases hw : has w p.1 = true
        · rw [ih hw, if_neg hm]
        · have : (w.map fun q => if q.1 == p.1 then (q.1, v) else q) = w := by
            have hz : ∀ q ∈ w, (q.1 == p.1) = false := fun q hq => by
              cases e : q.1 == p.1 with
              | false => rfl
              | true => exact absurd (List.any_eq_true.mpr ⟨q, hq, e⟩) hw
            have : (w.map fun q => if q.1 == p.1 then (q.1, v) else q) = w.map id := by
              apply List.map_congr_left
              intro q hq
              rw [hz q hq]; rfl
            rw [this, List.map_id]
          rw [this]
    · have hp' : ¬ (p.1 == n) = true := by simpa using hp
      have hw : has w n = true := by
        have : (p.1 == n || has w n) = true := h
        rw [Bool.or_eq_true] at this
        exact this.resolve_left hp'
      rw [if_neg hp']
      by_cases hm : (p.1 == m) = true
      · rw [if_pos hm, if_pos hm]
        have : n ≠ m := fun e => by subst e; exact hp' hm
        rw [if_neg this]
      · rw [if_neg hm, if_neg hm]; exact ih hw
theorem look_put (w : World) (n m : Txt) (v : Val) : look (putW w n v) m = if n = m then some v else look w m := by
  unfold putW
  by_cases h : has w n = true
  · rw [if_pos h]; exact look_map n m v w h
  · rw [if_neg h]
    have hn : look w n = none := by
      have := look_has w n
      cases e : look w n with
      | none => rfl
      | some x => rw [e] at this; exact absurd this h
    clear h
    induction w with
    | nil =>
      show (if (n == m) = true then some v else none) = _
      by_cases hm : n = m
      · rw [if_pos (by simpa using hm), if_pos hm]
      · rw [if_neg (by simpa using hm), if_neg hm]; rfl
    | cons p w ih =>
      rw [look] at hn
      by_cases hp : (p.1 == n) = true
      · rw [if_pos hp] at hn; cases hn
      · rw [if_neg hp] at hn
        rw [List.cons_append, look, look]
        by_cases hm : (p.1 == m) = true
        · rw [if_pos hm, if_pos hm]
          have : n ≠ m := fun e => by subst e; exact hp hm
          rw [if_neg this]
        · rw [if_neg hm, if_neg hm]; exact ih hn
/-- a world of facts and a case -/
theorem worldF_ty {F : Facts} {c : List Val} (h : TyC F c) (nd : (F.map (·.1)).Nodup) : TyW F (worldF F c) := by
  have key : ∀ {F : Facts} {c : List Val}, TyC F c → (F.map (·.1)).Nodup → ∀ w : World, (∀ p ∈ F, match p.2 with
      | .ch _ => ∃ t, look ((F.zip c).foldl (fun w p => putW w p.1.1 p.2) w) p.1 = some (.s t)
      | .nu _ _ => ∃ z, look ((F.zip c).foldl (fun w p => putW w p.1.1 p.2) w) p.1 = some (.i z)) ∧ ∀ n, n ∉ F.map (·.1) → look ((F.zip c).foldl (fun w p => putW w p.1.1 p.2) w) n = look w n := by
    intro F c h
    induction h with
    | nil => intro _ w; exact ⟨(fun p hp => nomatch hp), fun n _ => rfl⟩
    | @cons p v F c q _ ih =>
      intro nd w
      rw [List.map_cons, List.nodup_cons] at nd
      obtain ⟨i1, i2⟩ := ih nd.2 (putW w p.1 v)
      simp only [List.zip_cons_cons, List.foldl_cons]
      refine ⟨fun r hr => ?_, fun n hn => ?_⟩
      · rcases List.mem_cons.mp hr with rfl | hr
        · have e := i2 r.1 nd.1
          rw [look_put, if_pos rfl] at e
          obtain ⟨rn, rk⟩ := r
          cases rk <;> cases v <;> first | exact absurd q id | exact ⟨_, e⟩
        · exact i1 r hr
      · rw [List.map_cons, List.mem_cons, not_or] at hn
        rw [i2 n hn.2, look_put, if_neg (Ne.symm hn.1)]
  exact (key h nd []).1
theorem condOk_ok {pool : Facts} {w : World} (h : TyW pool w) : ∀ c : Cond, condOk pool c → okC w c
  | .yes, _ => trivial
  | .is n v, ⟨vs, hm, _⟩ => by
    obtain ⟨t, e⟩ := h _ hm
    exact ⟨_, e⟩
  | .frm n lo hi, ⟨a, b, hm, _⟩ => by
    obtain ⟨z, e⟩ := h _ hm
    exact ⟨z, e⟩
  | .nt c, k => condOk_ok h c k
  | .an a b, k => ⟨condOk_ok h a k.1, condOk_ok h b k.2⟩
  | .or a b, k => ⟨condOk_ok h a k.1, condOk_ok h b k.2⟩
theorem TyW.put {pool : Facts} {w : World} (h : TyW pool w) {n t : Txt} {vs : List Txt} (hn : n ∉ pool.map (·.1)) : TyW (pool ++ [(n, .ch vs)]) (putW w n (.s t)) := by
  intro p hp
  rcases List.mem_append.mp hp with hp | hp
  · have hne : ¬ n = p.1 := fun e => hn (by rw [e]; exact List.mem_map.mpr ⟨p, hp, rfl⟩)
    rw [look_put, if_neg hne]
    exact h p hp
  · rw [List.mem_singleton.mp hp]
    exact ⟨t, by rw [look_put, if_pos rfl]⟩
theorem poolOf_snoc (F : Facts) (M : List Mk) (m : Mk) : poolOf F (M ++ [m]) = poolOf F M ++ [(m.n, .ch (m.rows.map (·.2) ++ [m.rest]))] := by
  unfold poolOf; simp
theorem mkName_new {F : Facts} (hF : ∀ p ∈ F, p.1 ∈ facNames) {M : List Mk} (hM : ∀ (i : Nat) (h : i < M.length), M[i].n = mkName i) {k : Nat} (hk : M.length = k) (hk2 : k < 2) : mkName k ∉ (poolOf F M).map (·.1) := by
  unfold poolOf
  rw [List.map_append, List.mem_append, not_or]
  constructor
  · intro h
    obtain ⟨p, hp, e⟩ := List.mem_map.mp h
    have := hF p hp
    rw [e] at this
    have : k = 0 ∨ k = 1 := by omega
    rcases this with rfl | rfl <;> simp [mkName, facNames] at *
  · intro h
    rw [List.map_map] at h
    obtain ⟨m, hm, e⟩ := List.mem_map.mp h
    obtain ⟨i, hi, rfl⟩ := List.mem_iff_getElem.mp hm
    have := hM i hi
    simp only [Function.comp] at e
    rw [this] at e
    simp [mkName] at e
    omega
/-- the book, and its facts before they went far -/
structure WB (b : Book) (F0 : Facts) (limit : Nat) : Prop where
  far : All2 far1 F0 b.F
  gen : Gen { b with F := F0 } limit
theorem All2.names {F0 F : Facts} (h : All2 far1 F0 F) : F.map (·.1) = F0.map (·.1) := by
  induction h with
  | nil => rfl
  | cons q _ ih => rw [List.map_cons, List.map_cons, ih, q.1]
theorem far_ty {F0 F : Facts} (h : All2 far1 F0 F) {c : List Val} (k : TyC F c) : TyC F0 c := by
  induction h generalizing c with
  | nil => cases k; exact .nil
  | @cons p q F0 F e _ ih =>
    cases k with
    | cons q' t =>
      refine .cons ?_ (ih t)
      obtain ⟨pn, pk⟩ := p
      obtain ⟨qn, qk⟩ := q
      rename_i v _
      cases pk <;> cases qk <;> first | exact absurd e.2 id | skip
      · cases v <;> first | exact absurd q' id | trivial
      · cases v <;> first | exact absurd q' id | trivial
theorem TyW.near {F0 F : Facts} (h : All2 far1 F0 F) {w : World} (k : TyW F w) : TyW F0 w := by
  intro p hp
  obtain ⟨q, hq, e1, e2⟩ := h.get hp
  have := k q hq
  obtain ⟨pn, pk⟩ := p
  obtain ⟨qn, qk⟩ := q
  simp only at e1
  subst e1
  cases pk <;> cases qk <;> first | exact absurd e2 id | exact this
theorem marks_walk {F0 : Facts} {M : List Mk} (hF : ∀ p ∈ F0, p.1 ∈ facNames) (hM : MksOk F0 M) : ∀ (post pre : List Mk) (w : World), M = pre ++ post → TyW (poolOf F0 pre) w → okM w post ∧ TyW (poolOf F0 M) (worldM w post) := by
  intro post
  induction post with
  | nil => intro pre w e h; rw [List.append_nil] at e; subst e; exact ⟨trivial, h⟩
  | cons m post ih =>
    intro pre w e h
    have hlt : pre.length < M.length := by rw [e]; simp
    have hm := hM.2 pre.length hlt
    have e1 : M.take pre.length = pre := by rw [e, List.take_left]
    have e2 : M[pre.length] = m := by simp [e]
    rw [e1, e2] at hm
    have hpre : ∀ (i : Nat) (h : i < pre.length), pre[i].n = mkName i := by
      intro i hi
      have h1 := (hM.2 i (by omega)).nm
      have e3 : M[i]'(by omega) = pre[i] := by simp only [e]; rw [List.getElem_append_left hi]
      rw [e3, List.length_take] at h1
      rw [h1]; congr 1; omega
    have hnew := mkName_new hF hpre rfl (by have := hM.1; omega)
    have hT := TyW.put h (t := markVal w m) (vs := m.rows.map (·.2) ++ [m.rest]) hnew
    rw [← hm.nm, ← poolOf_snoc] at hT
    obtain ⟨i1, i2⟩ := ih (pre ++ [m]) _ (by rw [e, List.append_assoc]; rfl) hT
    exact ⟨⟨fun r hr => condOk_ok h _ (hm.rows r hr).1, i1⟩, i2⟩
theorem treeOk_ok {pool : Facts} {A : List Txt} {w : World} (h : TyW pool w) : ∀ t : Tree, treeOk pool A t → t.ok w ∧ t.cdp 3
  | .nil, _ => ⟨trivial, trivial⟩
  | .node c o a b, k => by
    obtain ⟨a1, a2⟩ := treeOk_ok h a k.2.2.1
    obtain ⟨b1, b2⟩ := treeOk_ok h b k.2.2.2
    exact ⟨⟨condOk_ok h c k.1.1, a1, b1⟩, ⟨k.1.2.1, a2, b2⟩⟩
theorem cdp_mono {d e : Nat} (h : d ≤ e) : ∀ t : Tree, t.cdp d → t.cdp e
  | .nil, _ => trivial
  | .node c o a b, k => ⟨Nat.lt_of_lt_of_le k.1 h, cdp_mono h a k.2.1, cdp_mono h b k.2.2⟩
theorem MksOk.rows_len {F : Facts} {M : List Mk} (h : MksOk F M) : ∀ m ∈ M, 1 ≤ m.rows.length ∧ m.rows.length ≤ 3 := by
  intro m hm
  obtain ⟨i, hi, rfl⟩ := List.mem_iff_getElem.mp hm
  exact (h.2 i hi).len
theorem MksOk.row {F : Facts} {M : List Mk} (h : MksOk F M) : ∀ m ∈ M, ∀ r ∈ m.rows, (∃ pre, condOk (poolOf F pre) r.1) ∧ r.1.dp < 3 ∧ r.1.lv ≤ 2 := by
  intro m hm r hr
  obtain ⟨i, hi, rfl⟩ := List.mem_iff_getElem.mp hm
  obtain ⟨a, b, c, _⟩ := (h.2 i hi).rows r hr
  exact ⟨⟨_, a⟩, b, c⟩
theorem WB.okB {b : Book} {F0 : Facts} {limit : Nat} (h : WB b F0 limit) (hl : limit ≤ 8) {c : List Val} (hc : TyC b.F c) : OkB b c 3 := by
  have nd : (b.F.map (·.1)).Nodup := by rw [All2.names h.far]; exact h.gen.F.asc.nodup stoT
  have hT : TyW F0 (worldF b.F c) := (worldF_ty hc nd).near h.far
  have e0 : poolOf F0 [] = F0 := by unfold poolOf; simp
  obtain ⟨m1, m2⟩ := marks_walk h.gen.F.nm h.gen.M b.M [] (worldF b.F c) rfl (by rw [e0]; exact hT)
  obtain ⟨t1, t2⟩ := treeOk_ok m2 b.t h.gen.t
  have hlF := h.far.len
  have hlen := h.gen.F.len
  have hML := h.gen.M.1
  simp only at hlen hML
  refine ⟨by omega, by omega, fun m hm => ⟨by have := (h.gen.M.rows_len m hm).2; omega, fun r hr => (h.gen.M.row m hm r hr).2.1⟩, m1, t1, t2, ?_⟩
  have := h.gen.sz.2
  simp only at this
  omega
end R
end
section
set_option Elab.async false
set_option linter.all false
set_option autoImplicit false
set_option maxRecDepth 100000
set_option maxHeartbeats 1000000
namespace R
open Ev
/-- the cells between starts -/
def mkc (hi : Int) : List Int → List Cell
  | [] => []
  | [s] => [.r s hi]
  | s :: t :: r => .r s (t - 1) :: mkc hi (t :: r)
theorem stretch_mkc (hi : Int) : ∀ (s : Int) (st : List Int), (((s :: st).zip (endsOf hi (s :: st))).map fun p => Cell.r p.1 p.2) = mkc hi (s :: st)
  | s, [] => rfl
  | s, t :: r => by
    have ih := stretch_mkc hi t r
    unfold endsOf at ih ⊢
    simp only [List.tail_cons, List.map_cons, List.cons_append, List.zip_cons_cons, mkc] at ih ⊢
    rw [← ih]
theorem stretch_eq (lo hi : Int) (cuts : List Int) : stretch lo hi cuts = mkc hi (startsOf lo hi cuts) := stretch_mkc hi lo _
theorem mkc_len (hi : Int) : ∀ st : List Int, (mkc hi st).length = st.length
  | [] => rfl
  | [s] => rfl
  | s :: t :: r => by rw [mkc, List.length_cons, mkc_len hi (t :: r)]; rfl
theorem mkc_mem {hi : Int} : ∀ {st : List Int}, Asc ltI st → (∀ s ∈ st, s ≤ hi) → ∀ c ∈ mkc hi st, ∃ s e, c = .r s e ∧ s ∈ st ∧ s ≤ e ∧ e ≤ hi
  | [], _, _, c, hc => by cases hc
  | [s], _, hb, c, hc => by
    rw [mkc, List.mem_singleton] at hc
    exact ⟨s, hi, hc, List.mem_cons_self, hb s List.mem_cons_self, Int.le_refl _⟩
  | s :: t :: r, ha, hb, c, hc => by
    unfold Asc at ha
    rw [List.pairwise_cons] at ha
    rw [mkc, List.mem_cons] at hc
    rcases hc with rfl | hc
    · have h1 : s < t := of_decide_eq_true (ha.1 t List.mem_cons_self)
      have h2 := hb t (by simp)
      exact ⟨s, t - 1, rfl, List.mem_cons_self, by omega, by omega⟩
    · obtain ⟨s', e, h1, h2, h3, h4⟩ := mkc_mem ha.2 (fun x hx => hb x (List.mem_cons_of_mem _ hx)) c hc
      exact ⟨s', e, h1, List.mem_cons_of_mem _ h2, h3, h4⟩
theorem mkc_first (hi : Int) : ∀ st : List Int, (mkc hi st).map firstOf = st.map .i
  | [] => rfl
  | [s] => rfl
  | s :: t :: r => by rw [mkc, List.map_cons, mkc_first hi (t :: r)]; rfl
theorem starts_asc (lo hi : Int) (cuts : List Int) : Asc ltI (startsOf lo hi cuts) ∧ (∀ s ∈ startsOf lo hi cuts, s = lo ∨ (s ∈ cuts ∧ lo < s ∧ s ≤ hi)) := by
  obtain ⟨h1, h2⟩ := sortedI (cuts.filter (inb lo hi))
  have h3 : ∀ z ∈ dedupI (sortI (cuts.filter (inb lo hi))), z ∈ cuts ∧ lo < z ∧ z ≤ hi := fun z hz => by
    have := (h2 z).mp hz
    rw [List.mem_filter] at this
    unfold inb at this
    simp at this
    exact ⟨this.1, this.2.1, this.2.2⟩
  refine ⟨?_, fun s hs => ?_⟩
  · unfold startsOf Asc
    rw [List.pairwise_cons]
    exact ⟨fun z hz => decide_eq_true (h3 z hz).2.1, h1⟩
  · unfold startsOf at hs
    rcases List.mem_cons.mp hs with rfl | hs
    · exact .inl rfl
    · exact .inr (h3 s hs)
theorem stretch_asc (lo hi : Int) (cuts : List Int) : rowAsc (stretch lo hi cuts) := by
  rw [stretch_eq]
  have h := (starts_asc lo hi cuts).1
  unfold rowAsc
  rw [← List.pairwise_map (f := firstOf) (R := fun a b => ltV1 a b = true), mkc_first, List.pairwise_map]
  exact h
theorem stretch_mem {lo hi : Int} (hle : lo ≤ hi) (cuts : List Int) : ∀ c ∈ stretch lo hi cuts, ∃ s e, c = .r s e ∧ lo ≤ s ∧ s ≤ e ∧ e ≤ hi := by
  rw [stretch_eq]
  obtain ⟨h1, h2⟩ := starts_asc lo hi cuts
  intro c hc
  obtain ⟨s, e, rfl, h3, h4, h5⟩ := mkc_mem h1 (fun s hs => by rcases h2 s hs with rfl | h; exact hle; exact h.2.2) c hc
  refine ⟨s, e, rfl, ?_, h4, h5⟩
  rcases h2 s h3 with h | h
  · omega
  · omega
theorem stretch_len {lo hi x : Int} {k : Nat} {cuts : List Int} (h : ∀ z ∈ cuts, x ≤ z ∧ z < x + k) : (stretch lo hi cuts).length ≤ k + 1 ∧ stretch lo hi cuts ≠ [] := by
  rw [stretch_eq]
  constructor
  · rw [mkc_len]
    obtain ⟨h1, h2⟩ := sortedI (cuts.filter (inb lo hi))
    have := asc_few (x := x) (k := k) h1 fun z hz => h z (List.mem_filter.mp ((h2 z).mp hz)).1
    unfold startsOf
    rw [List.length_cons]; omega
  · intro e
    have := congrArg List.length e
    rw [mkc_len] at this
    simp [startsOf] at this
/-- the cuts of a fact lie near its first low -/
theorem cuts_win {pool : Facts} {nm : Txt} {a : Int} (hu : ∀ a' b', (nm, Kind.nu a' b') ∈ pool → a' = a) : ∀ c : Cond, condOk pool c → ∀ x ∈ cutsIn nm c, a - 2 ≤ x ∧ x < a - 2 + 12
  | .yes, _, x, hx => by simp [cutsIn] at hx
  | .is _ _, _, x, hx => by simp [cutsIn] at hx
  | .frm n lo hi, h, x, hx => by
    obtain ⟨a', b', hm, h1, h2, h3, h4⟩ := h
    simp only [cutsIn] at hx
    split at hx
    · rename_i e
      have e : n = nm := by simpa using e
      subst e
      have := hu a' b' hm
      subst this
      simp at hx
      rcases hx with rfl | rfl <;> omega
    · cases hx
  | .nt c, h, x, hx => cuts_win hu c h x hx
  | .an c d, h, x, hx => by
    rcases List.mem_append.mp hx with hx | hx
    · exact cuts_win hu c h.1 x hx
    · exact cuts_win hu d h.2 x hx
  | .or c d, h, x, hx => by
    rcases List.mem_append.mp hx with hx | hx
    · exact cuts_win hu c h.1 x hx
    · exact cuts_win hu d h.2 x hx
theorem tree_conds {pool : Facts} {A : List Txt} : ∀ t : Tree, treeOk pool A t → ∀ p ∈ rulesOf t, condOk pool p.2.1 ∧ p.2.1.dp < 3 ∧ p.2.1.lv ≤ 2
  | .nil, _, p, hp => by cases hp
  | .node c o a b, h, p, hp => by
    simp only [rulesOf, List.mem_cons, List.mem_append, List.mem_map] at hp
    rcases hp with rfl | ⟨q, hq, rfl⟩ | ⟨q, hq, rfl⟩
    · exact h.1
    · exact tree_conds a h.2.2.1 q hq
    · exact tree_conds b h.2.2.2 q hq
theorem flat_len {α β : Type} (f : α → List β) (k : Nat) : ∀ l : List α, (∀ x ∈ l, (f x).length ≤ k) → (l.flatMap f).length ≤ k * l.length
  | [], _ => by simp
  | x :: l, h => by
    have h1 := h x List.mem_cons_self
    have h2 := flat_len f k l fun y hy => h y (List.mem_cons_of_mem _ hy)
    rw [List.flatMap_cons, List.length_append, List.length_cons, Nat.mul_add, Nat.mul_one]; omega
theorem WB.conds {b : Book} {F0 : Facts} {limit : Nat} (h : WB b F0 limit) : (condsOf b).length ≤ 36 ∧ ∀ c ∈ condsOf b, (∃ pre, condOk (poolOf F0 pre) c) ∧ c.dp < 3 ∧ c.lv ≤ 2 := by
  constructor
  · unfold condsOf
    rw [List.length_append, List.length_map, rules_len]
    have h1 := flat_len (fun m : Mk => m.rows.map (·.1)) 3 b.M fun m hm => by rw [List.length_map]; exact (h.gen.M.rows_len m hm).2
    have h2 := h.gen.M.1
    have h3 := h.gen.sz.1
    simp only at h2 h3
    omega
  · intro c hc
    unfold condsOf at hc
    rcases List.mem_append.mp hc with hc | hc
    · obtain ⟨m, hm, hc⟩ := List.mem_flatMap.mp hc
      obtain ⟨r, hr, rfl⟩ := List.mem_map.mp hc
      exact h.gen.M.row m hm r hr
    · obtain ⟨p, hp, rfl⟩ := List.mem_map.mp hc
      obtain ⟨k1, k2, k3⟩ := tree_conds b.t h.gen.t p hp
      exact ⟨⟨_, k1⟩, k2, k3⟩
theorem nu_unique {F : Facts} (nd : (F.map (·.1)).Nodup) {nm : Txt} {k k' : Kind} (h : (nm, k) ∈ F) (h' : (nm, k') ∈ F) : k = k' := by
  induction F with
  | nil => cases h
  | cons p F ih =>
    rw [List.map_cons, List.nodup_cons] at nd
    rcases List.mem_cons.mp h with e | h
    · rcases List.mem_cons.mp h' with e' | h'
      · have := e.trans e'.symm; exact (Prod.mk.inj this).2
      · exact absurd (List.mem_map.mpr ⟨_, h', by rw [← e]⟩) nd.1
    · rcases List.mem_cons.mp h' with e' | h'
      · exact absurd (List.mem_map.mpr ⟨_, h, by rw [← e']⟩) nd.1
      · exact ih nd.2 h h'
theorem WB.win {b : Book} {F0 : Facts} {limit : Nat} (h : WB b F0 limit) {nm : Txt} {lo hi : Int} (hp : (nm, Kind.nu lo hi) ∈ b.F) : ∃ a : Int, ∀ x ∈ (condsOf b).flatMap (cutsIn nm), a ≤ x ∧ x < a + 12 := by
  obtain ⟨p, hp0, e1, e2⟩ := h.far.get' hp
  obtain ⟨pn, pk⟩ := p
  simp only at e1
  subst e1
  cases pk with
  | ch vs => exact absurd e2 id
  | nu a b0 =>
    refine ⟨a - 2, fun x hx => ?_⟩
    obtain ⟨c, hc, hx⟩ := List.mem_flatMap.mp hx
    obtain ⟨pre, hc⟩ := (h.conds.2 c hc).1
    refine cuts_win ?_ c hc x hx
    intro a' b' hm
    unfold poolOf at hm
    rcases List.mem_append.mp hm with hm | hm
    · have := nu_unique (h.gen.F.asc.nodup stoT) hm hp0
      cases this; rfl
    · obtain ⟨m, _, e⟩ := List.mem_map.mp hm
      cases e
theorem WB.kinds {b : Book} {F0 : Facts} {limit : Nat} (h : WB b F0 limit) : ∀ p ∈ b.F, match p.2 with
    | .ch vs => ∃ s m : Nat, s < 3 ∧ m < 3 ∧ vs = (chs.drop s).take (2 + m)
    | .nu lo hi => -1000000000 ≤ lo ∧ lo ≤ hi ∧ hi ≤ 1000000000 := by
  intro p hp
  obtain ⟨q, hq, e1, e2⟩ := h.far.get' hp
  obtain ⟨pn, pk⟩ := p
  obtain ⟨qn, qk⟩ := q
  have hk := h.gen.F.kd _ hq
  cases pk <;> cases qk <;> first | exact absurd e2 id | skip
  · have e2 : _ = _ := e2
    obtain ⟨s, m, hs, hm, e⟩ := hk
    exact ⟨s, m, hs, hm, e2.trans e⟩
  · obtain ⟨k1, k2, k3, k4⟩ := hk
    obtain ⟨h1, h2⟩ := e2
    show _ ∧ _ ∧ _
    refine ⟨?_, ?_, ?_⟩
    · rcases h1 with rfl | rfl <;> omega
    · rcases h1 with rfl | rfl <;> rcases h2 with rfl | rfl <;> omega
    · rcases h2 with rfl | rfl <;> omega
theorem few_cuts {lo hi a : Int} {cuts : List Int} (h : ∀ z ∈ cuts, a ≤ z ∧ z < a + 12) : (dedupI (sortI (cuts.filter (inb lo hi)))).length ≤ 12 := by
  obtain ⟨h1, h2⟩ := sortedI (cuts.filter (inb lo hi))
  exact asc_few (x := a) (k := 12) h1 fun z hz => h z (List.mem_filter.mp ((h2 z).mp hz)).1
theorem WB.okC {b : Book} {F0 : Facts} {limit : Nat} (h : WB b F0 limit) {d : Nat} (hd : 3 ≤ d) : OkC b.F (condsOf b ++ []) d := by
  rw [List.append_nil]
  obtain ⟨h1, h2⟩ := h.conds
  have h3 : ∀ nm, ((condsOf b).flatMap (cutsIn nm)).length ≤ 144 := fun nm => by
    have := flat_len (cutsIn nm) 4 (condsOf b) fun c hc => by have := cuts_len nm c; have := (h2 c hc).2.2; omega
    omega
  refine ⟨by omega, fun p hp lo hi e => ?_, fun nm => by have := h3 nm; omega, fun c hc => ⟨by have := (h2 c hc).2.1; omega, by have := (h2 c hc).2.2; omega⟩⟩
  obtain ⟨nm, k⟩ := p
  simp only at e
  subst e
  obtain ⟨a, ha⟩ := h.win hp
  have := few_cuts (lo := lo) (hi := hi) ha
  show (dedupI (sortI (List.filter (inb lo hi) (List.flatMap (cutsIn nm) (condsOf b))))).length < 64
  omega
/-- a row: not empty, few cells, rising, cells of its kind and size -/
structure RowOk (p : Txt × Kind) (r : List Cell) : Prop where
  ne : r ≠ []
  len : r.length ≤ 13
  asc : rowAsc r
  ty : ∀ c ∈ r, tyV p (firstOf c) ∧ 1 ≤ sizeOf c ∧ sizeOf c ≤ 3000000000
theorem chs_asc (s m : Nat) (hs : s < 3) (hm : m < 3) : Asc ltT ((chs.drop s).take (2 + m)) ∧ ((chs.drop s).take (2 + m)).length ≤ 13 ∧ (chs.drop s).take (2 + m) ≠ [] := by
  have : s = 0 ∨ s = 1 ∨ s = 2 := by omega
  have : m = 0 ∨ m = 1 ∨ m = 2 := by omega
  rcases ‹s = 0 ∨ s = 1 ∨ s = 2› with rfl | rfl | rfl <;> rcases ‹m = 0 ∨ m = 1 ∨ m = 2› with rfl | rfl | rfl <;> (refine ⟨?_, ?_, ?_⟩ <;> simp [chs, Asc, ltT])
theorem WB.row {b : Book} {F0 : Facts} {limit : Nat} (h : WB b F0 limit) {p : Txt × Kind} (hp : p ∈ b.F) {k : Option Val} (hk : okK p k) : RowOk p (rowOf (condsOf b) p k) := by
  have hkind := h.kinds p hp
  obtain ⟨nm, kd⟩ := p
  cases kd with
  | ch vs =>
    obtain ⟨s, m, hs, hm, rfl⟩ := hkind
    obtain ⟨c1, c2, c3⟩ := chs_asc s m hs hm
    cases k with
    | none =>
      refine ⟨?_, ?_, ?_, ?_⟩
      · show List.map _ _ ≠ []; simpa using c3
      · show (List.map _ _).length ≤ 13; rw [List.length_map]; exact c2
      · show rowAsc (List.map _ _)
        unfold rowAsc
        rw [List.pairwise_map]; exact c1
      · intro c hc
        obtain ⟨t, _, rfl⟩ := List.mem_map.mp (show c ∈ List.map Cell.s _ from hc)
        exact ⟨trivial, by show (1 : Int) ≤ 1; omega, by show (1 : Int) ≤ _; omega⟩
    | some v =>
      cases v with
      | i z => exact absurd hk id
      | s t =>
        refine ⟨by simp [rowOf], by simp [rowOf], by simp [rowOf, rowAsc], ?_⟩
        intro c hc
        rw [List.mem_singleton.mp (show c ∈ [Cell.s t] from hc)]
        exact ⟨trivial, by show (1 : Int) ≤ 1; omega, by show (1 : Int) ≤ _; omega⟩
  | nu lo hi =>
    obtain ⟨k1, k2, k3⟩ := hkind
    cases k with
    | none =>
      obtain ⟨a, ha⟩ := h.win hp
      obtain ⟨l1, l2⟩ := stretch_len (lo := lo) (hi := hi) ha
      refine ⟨l2, l1, stretch_asc _ _ _, ?_⟩
      intro c hc
      obtain ⟨s, e, rfl, h1, h2, h3⟩ := stretch_mem k2 _ c hc
      exact ⟨trivial, by show 1 ≤ e - s + 1; omega, by show e - s + 1 ≤ _; omega⟩
    | some v =>
      cases v with
      | s t => exact absurd hk id
      | i z =>
        refine ⟨by simp [rowOf], by simp [rowOf], by simp [rowOf, rowAsc], ?_⟩
        intro c hc
        rw [List.mem_singleton.mp (show c ∈ [Cell.r z z] from hc)]
        exact ⟨trivial, by show 1 ≤ z - z + 1; omega, by show z - z + 1 ≤ _; omega⟩
/-- sketches of a book -/
def OkSk (F : Facts) (k : Sketch) : Prop := All2 okK F k
theorem OkSk.zip {F : Facts} {k : Sketch} (h : OkSk F k) : ∀ p ∈ F.zip k, okK p.1 p.2 := by
  unfold OkSk at h
  induction h with
  | nil => intro p hp; simp at hp
  | cons q _ ih =>
    intro p hp
    rw [List.zip_cons_cons, List.mem_cons] at hp
    rcases hp with rfl | hp
    · exact q
    · exact ih p hp
theorem WB.rows {b : Book} {F0 : Facts} {limit : Nat} (h : WB b F0 limit) {k : Sketch} (hk : OkSk b.F k) : All2 RowOk b.F (cellsOf b k []) := by
  unfold cellsOf cellsBy
  rw [List.append_nil]
  have key : ∀ (F : Facts) (k : Sketch), (∀ p ∈ F, p ∈ b.F) → All2 okK F k → All2 RowOk F ((F.zip k).map fun p => rowOf (condsOf b) p.1 p.2) := by
    intro F k hs ha
    induction ha with
    | nil => exact .nil
    | cons q _ ih => exact .cons (h.row (hs _ List.mem_cons_self) q) (ih fun p hp => hs p (List.mem_cons_of_mem _ hp))
  exact key b.F k (fun p hp => hp) hk
theorem ways_le {R : List (List Cell)} (h : ∀ r ∈ R, r.length ≤ 13) (hl : R.length ≤ 3) : ways R ≤ 4000 := by
  have key : ∀ (R : List (List Cell)) (a : Nat), (∀ r ∈ R, r.length ≤ 13) → R.foldl (fun a r => a * r.length) a ≤ a * 13 ^ R.length := by
    intro R
    induction R with
    | nil => intro a _; simp
    | cons r R ih =>
      intro a h
      rw [List.foldl_cons]
      refine Nat.le_trans (ih _ fun x hx => h x (List.mem_cons_of_mem _ hx)) ?_
      rw [List.length_cons, Nat.pow_succ, Nat.mul_comm (13 ^ R.length) 13, ← Nat.mul_assoc]
      exact Nat.mul_le_mul_right _ (Nat.mul_le_mul_left _ (h r List.mem_cons_self))
  have h1 := key R 1 h
  have h2 : 13 ^ R.length ≤ 13 ^ 3 := Nat.pow_le_pow_right (by decide) hl
  unfold ways
  omega
theorem pick_ty {F : Facts} {R : List (List Cell)} (h : All2 RowOk F R) : ∀ {p : Pick}, All2 (fun c r => c ∈ r) p R → TyC F (caseOf p) := by
  induction h with
  | nil => intro p hp; cases hp; exact .nil
  | cons q _ ih =>
    intro p hp
    cases hp with
    | cons hc ht => exact .cons (q.ty _ hc).1 (ih ht)
theorem pick_sz {F : Facts} {R : List (List Cell)} (h : All2 RowOk F R) : ∀ {p : Pick}, All2 (fun c r => c ∈ r) p R → ∀ c ∈ p, okSz c := by
  induction h with
  | nil => intro p hp; cases hp; intro c hc; cases hc
  | cons q _ ih =>
    intro p hp
    cases hp with
    | cons hc ht =>
      intro c' hc'
      rcases List.mem_cons.mp hc' with rfl | hc'
      · obtain ⟨_, h1, h2⟩ := q.ty _ hc
        unfold okSz; omega
      · exact ih ht c' hc'
theorem WB.okA {b : Book} {F0 : Facts} {limit : Nat} (h : WB b F0 limit) (hl : limit ≤ 3) {k : Sketch} (hk : OkSk b.F k) : OkA b k [] 13 := by
  have hR := h.rows hk
  have hlF := h.far.len
  have hlen := h.gen.F.len
  have hML := h.gen.M.1
  have hsz := h.gen.sz
  obtain ⟨hsz, hdp⟩ := hsz
  simp only at hlen hML hsz hdp
  refine ⟨⟨h.okC (by omega), by omega, by omega, ?_, by omega, by omega, hk.zip⟩, ?_, ?_, ?_⟩
  · have := flat_len (fun m : Mk => m.rows) 3 b.M fun m hm => (h.gen.M.rows_len m hm).2
    omega
  · intro r hr
    obtain ⟨p, _, q⟩ := hR.get' hr
    exact q.ne
  · refine ways_le (fun r hr => ?_) ?_
    · obtain ⟨p, _, q⟩ := hR.get' hr
      exact q.len
    · have := cells_len b k []; omega
  · intro p hp
    rw [picks_pr, mem_pr] at hp
    have := h.okB (by omega) (pick_ty hR hp)
    exact ⟨this.hF, this.hM, fun m hm => ⟨(this.hr m hm).1, fun r hr => Nat.lt_of_lt_of_le ((this.hr m hm).2 r hr) (by decide)⟩, this.m, this.t, cdp_mono (by decide) _ this.cd, this.td⟩
theorem WB.okSz {b : Book} {F0 : Facts} {limit : Nat} (h : WB b F0 limit) {k : Sketch} (hk : OkSk b.F k) : ∀ p ∈ picks (cellsOf b k []), ∀ c ∈ p, okSz c := by
  intro p hp
  rw [picks_pr, mem_pr] at hp
  exact pick_sz (h.rows hk) hp
end R
end
section
set_option Elab.async false
set_option linter.all false
set_option autoImplicit false
set_option maxRecDepth 100000
set_option maxHeartbeats 1000000
namespace R
open Ev
theorem plain_val (v : Val) : plain v.e = true := by cases v <;> rfl
theorem plain_case (c : List Val) : plain (cse c) = true := by
  show plains (c.map Val.e) = true
  exact plains_of fun x hx => by obtain ⟨v, _, rfl⟩ := List.mem_map.mp hx; exact plain_val v
theorem depth_val (v : Val) : depth v.e = 0 := by cases v <;> rfl
theorem depths_0 {xs : List PV} (h : ∀ x ∈ xs, depth x = 0) : depths xs = 0 := by
  induction xs with
  | nil => rfl
  | cons x xs ih => rw [depths, h x List.mem_cons_self, ih fun y hy => h y (List.mem_cons_of_mem _ hy)]; rfl
theorem depth_case (c : List Val) : depth (cse c) = 1 := by
  show depths (c.map Val.e) + 1 = 1
  rw [depths_0 fun x hx => by obtain ⟨v, _, rfl⟩ := List.mem_map.mp hx; exact depth_val v]
theorem depths_le {xs : List PV} {k : Nat} (h : ∀ x ∈ xs, depth x ≤ k) : depths xs ≤ k := by
  induction xs with
  | nil => exact Nat.zero_le _
  | cons x xs ih =>
    rw [depths]
    have h1 := h x List.mem_cons_self
    have h2 := ih fun y hy => h y (List.mem_cons_of_mem _ hy)
    omega
theorem sNe_same {x : PV} (h : plain x = true) (hd : depth x ≤ 64) (he : eqv x x = true) : sNe [x, x] = some (.bl false) := by
  have : eqOk x x = true := by simp [eqOk, h]; omega
  simp only [sNe, this, if_true, he]; rfl
mutual
theorem eqv_refl : ∀ x : PV, plain x = true → eqv x x = true
  | .non, _ => rfl
  | .bl b, _ => by simp [eqv]
  | .int i, _ => by simp [eqv]
  | .str s, _ => by simp [eqv]
  | .tup xs, h => by rw [eqv]; exact eqvs_refl xs h
  | .lst xs, h => by rw [eqv]; exact eqvs_refl xs h
  | .dic _ _, h => by simp [plain] at h
  | .obj _, h => by simp [plain] at h
  | .fn _, h => by simp [plain] at h
theorem eqvs_refl : ∀ xs : List PV, plains xs = true → eqvs xs xs = true
  | [], _ => rfl
  | x :: xs, h => by
    rw [plains, Bool.and_eq_true] at h
    rw [eqvs, eqv_refl x h.1, eqvs_refl xs h.2]; rfl
end
theorem plain_strs (A : List Txt) : plains (A.map PV.str) = true := plains_of fun x hx => by obtain ⟨y, _, rfl⟩ := List.mem_map.mp hx; rfl
theorem depth_strs (A : List Txt) : depths (A.map PV.str) = 0 := depths_0 fun x hx => by obtain ⟨y, _, rfl⟩ := List.mem_map.mp hx; rfl
theorem sneI (a b : Int) : sNe [.int a, .int b] = some (.bl !(a == b)) := by simp [sNe, eqOk, plain, depth, eqv]
theorem OkSk.free (F : Facts) : OkSk F (List.replicate F.length none) := by
  unfold OkSk
  induction F with
  | nil => exact .nil
  | cons p F ih => exact .cons (by obtain ⟨n, k⟩ := p; cases k <;> trivial) ih
theorem treeA {pool : Facts} {A : List Txt} {w : World} : ∀ (t : Tree) (f : Txt) (p : List Int) (q : List (List Int × Bool)), treeOk pool A t → f ∈ A → (go w t f p q).1 ∈ A
  | .nil, f, p, q, _, hf => hf
  | .node c o a b, f, p, q, h, hf => by
    rw [go]
    split
    · exact treeA a _ _ _ h.2.2.1 h.2.1
    · exact treeA b _ _ _ h.2.2.2 hf
theorem All2.at {α β : Type} {Q : α → β → Prop} {xs : List α} {ys : List β} (h : All2 Q xs ys) : ∀ {i : Nat} (hi : i < xs.length) (hj : i < ys.length), Q xs[i] ys[i] := by
  induction h with
  | nil => intro i hi; simp at hi
  | cons q t ih =>
    intro i hi hj
    cases i with
    | zero => exact q
    | succ i => exact ih (by simpa using hi) (by simpa using hj)
end R
end
section
set_option Elab.async false
set_option linter.all false
set_option autoImplicit false
set_option maxRecDepth 100000
set_option maxHeartbeats 1000000
/-! cells and cases: what is told of a cell's first case is told of all its cases -/
namespace R
open Ev
def rangeI (a b : Int) : List Val := (List.range (b - a + 1).toNat).map fun k : Nat => .i (a + (k : Int))
def valsIn : Cell → List Val
  | .s t => [.s t]
  | .r a b => rangeI a b
def valsOf : Kind → List Val
  | .ch vs => vs.map .s
  | .nu lo hi => rangeI lo hi
def prodV : List (List Val) → List (List Val)
  | [] => [[]]
  | v :: V => v.flatMap fun x => (prodV V).map (x :: ·)
def allCases (F : Facts) : List (List Val) := prodV (F.map fun p => valsOf p.2)
theorem mem_rangeI {a b : Int} {v : Val} : v ∈ rangeI a b ↔ ∃ z, v = .i z ∧ a ≤ z ∧ z ≤ b := by
  unfold rangeI
  rw [List.mem_map]
  constructor
  · rintro ⟨k, hk, rfl⟩
    rw [List.mem_range] at hk
    exact ⟨_, rfl, by omega, by omega⟩
  · rintro ⟨z, rfl, h1, h2⟩
    refine ⟨(z - a).toNat, List.mem_range.mpr (by omega), ?_⟩
    congr 1; omega
theorem rangeI_split {a b t : Int} (h1 : a ≤ t) (h2 : t ≤ b + 1) : rangeI a b = rangeI a (t - 1) ++ rangeI t b := by
  unfold rangeI
  have e1 : (b - a + 1).toNat = (t - 1 - a + 1).toNat + (b - t + 1).toNat := by omega
  rw [e1, List.range_add, List.map_append, List.map_map]
  congr 1
  apply List.map_congr_left
  intro k _
  show Val.i (a + ((((t - 1 - a + 1).toNat + k : Nat)) : Int)) = Val.i (t + (k : Int))
  congr 1; omega
/-- a row's cells are its values, cut -/
structure Part (r : List Cell) (vs : List Val) : Prop where
  eq : vs = r.flatMap valsIn
  sz : ∀ c ∈ r, sizeOf c = ((valsIn c).length : Int) ∧ firstOf c ∈ valsIn c
theorem mkc_vals (hi : Int) : ∀ (s : Int) (st : List Int), Asc ltI (s :: st) → (∀ t ∈ s :: st, t ≤ hi) → rangeI s hi = (mkc hi (s :: st)).flatMap valsIn
  | s, [], _, _ => by simp [mkc, valsIn]
  | s, t :: r, ha, hb => by
    unfold Asc at ha
    rw [List.pairwise_cons] at ha
    have h1 : s < t := of_decide_eq_true (ha.1 t List.mem_cons_self)
    have h2 := hb t (by simp)
    rw [mkc, List.flatMap_cons, ← mkc_vals hi t r ha.2 fun x hx => hb x (List.mem_cons_of_mem _ hx)]
    exact rangeI_split (by omega) (by omega)
theorem range_len {a b : Int} (h : a ≤ b) : ((rangeI a b).length : Int) = b - a + 1 := by
  unfold rangeI; rw [List.length_map, List.length_range]; omega
theorem stretch_part {lo hi : Int} (h : lo ≤ hi) (cuts : List Int) : Part (stretch lo hi cuts) (rangeI lo hi) := by
  obtain ⟨h1, h2⟩ := starts_asc lo hi cuts
  refine ⟨?_, fun c hc => ?_⟩
  · rw [stretch_eq]
    exact mkc_vals hi lo _ h1 fun t ht => by
      rcases h2 t ht with rfl | h'
      · exact h
      · exact h'.2.2
  · obtain ⟨s, e, rfl, k1, k2, k3⟩ := stretch_mem h cuts c hc
    refine ⟨?_, ?_⟩
    · show e - s + 1 = _; rw [valsIn, range_len k2]
    · show Val.i s ∈ rangeI s e; exact mem_rangeI.mpr ⟨s, rfl, Int.le_refl _, k2⟩
/-- cases in the same cells -/
inductive Same : List (List Cell) → List Val → List Val → Prop where
  | nil : Same [] [] []
  | cons {r : List Cell} {R : List (List Cell)} {c : Cell} {v w : Val} {x y : List Val} (hc : c ∈ r) (hv : v ∈ valsIn c) (hw : w ∈ valsIn c) (t : Same R x y) : Same (r :: R) (v :: x) (w :: y)
theorem same_refl {R : List (List Cell)} {V : List (List Val)} (h : All2 Part R V) : ∀ {x : List Val}, x ∈ prodV V → Same R x x := by
  induction h with
  | nil => intro x hx; rw [prodV, List.mem_singleton] at hx; subst hx; exact .nil
  | cons p _ ih =>
    intro x hx
    rw [prodV, List.mem_flatMap] at hx
    obtain ⟨v, hv, hx⟩ := hx
    obtain ⟨y, hy, rfl⟩ := List.mem_map.mp hx
    rw [p.eq, List.mem_flatMap] at hv
    obtain ⟨c, hc, hv⟩ := hv
    exact .cons hc hv hv (ih hy)
theorem sum_const {α : Type} (l : List α) (k : Int) : (l.map fun _ => k).sum = (l.length : Int) * k := by
  induction l with
  | nil => simp
  | cons a l ih => rw [List.map_cons, List.sum_cons, ih, List.length_cons, Int.natCast_add, Int.add_mul]; omega
theorem sum_map_flat {α β : Type} (l : List α) (g : α → List β) (f : β → Int) : ((l.flatMap g).map f).sum = (l.map fun a => ((g a).map f).sum).sum := by
  rw [List.map_flatMap, sum_flatMap]
/-- a sum over picks is one over cases -/
theorem count_cases {R : List (List Cell)} {V : List (List Val)} (h : All2 Part R V) : ∀ {f : List Val → Int}, (∀ x y, Same R x y → f x = f y) → sumP (fun p => manyIn p * f (caseOf p)) R = ((prodV V).map f).sum := by
  induction h with
  | nil => intro f _; simp [sumP, pr, prodV, manyIn, caseOf]
  | @cons r vs R V p t ih =>
    intro f hf
    rw [sumP_cons, prodV, sum_map_flat, p.eq, sum_map_flat]
    congr 1
    apply List.map_congr_left
    intro c hc
    obtain ⟨k1, k2⟩ := p.sz c hc
    have e1 : sumP (fun q => manyIn (c :: q) * f (caseOf (c :: q))) R = sizeOf c * sumP (fun q => manyIn q * f (firstOf c :: caseOf q)) R := by
      unfold sumP
      rw [← sum_map_mul]
      congr 1
      apply List.map_congr_left
      intro q _
      rw [manyIn_cons, Int.mul_assoc]; rfl
    rw [e1, ih (f := fun x => f (firstOf c :: x)) fun x y hxy => hf _ _ (.cons hc k2 k2 hxy)]
    have e2 : ((valsIn c).map fun v => (((prodV V).map (v :: ·)).map f).sum) = (valsIn c).map fun _ => ((prodV V).map fun x => f (firstOf c :: x)).sum := by
      apply List.map_congr_left
      intro v hv
      rw [List.map_map]
      congr 1
      apply List.map_congr_left
      intro x hx
      exact hf _ _ (.cons hc hv k2 (same_refl t hx))
    rw [e2, sum_const, k1]
theorem prodV_nodup : ∀ {V : List (List Val)}, (∀ v ∈ V, v.Nodup) → (prodV V).Nodup
  | [], _ => by simp [prodV]
  | v :: V, h => by
    have ih := prodV_nodup fun w hw => h w (List.mem_cons_of_mem _ hw)
    have hv := h v List.mem_cons_self
    rw [prodV]
    clear h
    induction v with
    | nil => simp
    | cons a v ihv =>
      rw [List.nodup_cons] at hv
      rw [List.flatMap_cons, List.nodup_append]
      refine ⟨?_, ihv hv.2, ?_⟩
      · exact List.Pairwise.map _ (fun x y hxy e => hxy (List.cons.inj e).2) ih
      · intro x hx y hy e
        obtain ⟨x', _, rfl⟩ := List.mem_map.mp hx
        obtain ⟨b, hb, hy⟩ := List.mem_flatMap.mp hy
        obtain ⟨y', _, rfl⟩ := List.mem_map.mp hy
        have := (List.cons.inj e).1
        subst this
        exact hv.1 hb
theorem rangeI_nodup (a b : Int) : (rangeI a b).Nodup := by
  unfold rangeI
  refine List.Pairwise.map _ (fun x y hxy e => hxy ?_) List.nodup_range
  have : a + (x : Int) = a + (y : Int) := by simpa using e
  omega
/-! ### the same truth -/
def AgV (C : List Cond) (n : Txt) (v w : Val) : Prop := match v, w with
  | .s a, .s b => a = b
  | .i x, .i y => ∀ z ∈ C.flatMap (cutsIn n), (z ≤ x ↔ z ≤ y)
  | _, _ => False
def Ag (C : List Cond) (w1 w2 : World) : Prop := ∀ n, match look w1 n, look w2 n with
  | none, none => True
  | some v, some w => AgV C n v w
  | _, _ => False
theorem Ag.put {C : List Cond} {w1 w2 : World} (h : Ag C w1 w2) {n : Txt} {v w : Val} (hv : AgV C n v w) : Ag C (putW w1 n v) (putW w2 n w) := by
  intro m
  rw [look_put, look_put]
  by_cases e : n = m
  · subst e; rw [if_pos rfl, if_pos rfl]; exact hv
  · rw [if_neg e, if_neg e]; exact h m
theorem sat_ag {C : List Cond} {w1 w2 : World} (h : Ag C w1 w2) : ∀ c : Cond, (∀ n, ∀ z ∈ cutsIn n c, z ∈ C.flatMap (cutsIn n)) → sat w1 c = sat w2 c
  | .yes, _ => rfl
  | .is n v, _ => by
    have := h n
    rw [sat, sat]
    cases e1 : look w1 n with
    | none =>
      cases e2 : look w2 n with
      | none => rfl
      | some b => rw [e1, e2] at this; exact absurd this id
    | some a =>
      cases e2 : look w2 n with
      | none => rw [e1, e2] at this; exact absurd this id
      | some b =>
        rw [e1, e2] at this
        cases a <;> cases b <;> first | exact absurd this id | rfl | skip
        have : _ = _ := this
        subst this; rfl
  | .frm n lo hi, hc => by
    have := h n
    rw [sat, sat]
    cases e1 : look w1 n with
    | none =>
      cases e2 : look w2 n with
      | none => rfl
      | some b => rw [e1, e2] at this; exact absurd this id
    | some a =>
      cases e2 : look w2 n with
      | none => rw [e1, e2] at this; exact absurd this id
      | some b =>
        rw [e1, e2] at this
        cases a <;> cases b <;> first | exact absurd this id | rfl | skip
        rename_i x y
        have k1 := this lo (hc n lo (by simp [cutsIn]))
        have k2 := this (hi + 1) (hc n (hi + 1) (by simp [cutsIn]))
        rw [Bool.eq_iff_iff]
        simp only [Bool.and_eq_true, decide_eq_true_eq]
        omega
  | .nt c, hc => by rw [sat, sat, sat_ag h c hc]
  | .an a b, hc => by rw [sat, sat, sat_ag h a fun n z hz => hc n z (List.mem_append_left _ hz), sat_ag h b fun n z hz => hc n z (List.mem_append_right _ hz)]
  | .or a b, hc => by rw [sat, sat, sat_ag h a fun n z hz => hc n z (List.mem_append_left _ hz), sat_ag h b fun n z hz => hc n z (List.mem_append_right _ hz)]
theorem sat_in {C : List Cond} {w1 w2 : World} (h : Ag C w1 w2) {c : Cond} (hc : c ∈ C) : sat w1 c = sat w2 c :=
  sat_ag h c fun n z hz => List.mem_flatMap.mpr ⟨c, hc, hz⟩
theorem worldM_ag {C : List Cond} : ∀ (M : List Mk) {w1 w2 : World}, Ag C w1 w2 → (∀ m ∈ M, ∀ r ∈ m.rows, r.1 ∈ C) → Ag C (worldM w1 M) (worldM w2 M)
  | [], _, _, h, _ => h
  | m :: M, w1, w2, h, hM => by
    rw [worldM, worldM]
    refine worldM_ag M (h.put ?_) fun m' hm' => hM m' (List.mem_cons_of_mem _ hm')
    show markVal w1 m = markVal w2 m
    unfold markVal
    have : (m.rows.filter fun r => sat w1 r.1) = m.rows.filter fun r => sat w2 r.1 := by
      apply List.filter_congr
      intro r hr
      exact sat_in h (hM m List.mem_cons_self r hr)
    rw [this]
theorem go_ag {C : List Cond} {w1 w2 : World} (h : Ag C w1 w2) : ∀ (t : Tree) (f : Txt) (p : List Int) (r : List (List Int × Bool)), (∀ q ∈ rulesOf t, q.2.1 ∈ C) → go w1 t f p r = go w2 t f p r
  | .nil, f, p, r, _ => rfl
  | .node c o a b, f, p, r, hC => by
    have h0 := sat_in h (hC ([], (c, o, a, b)) (by simp [rulesOf]))
    simp only at h0
    rw [go, go, h0, go_ag h a _ _ _ fun q hq => hC (0 :: q.1, q.2) (by simp only [rulesOf, List.mem_cons, List.mem_append, List.mem_map]; exact .inr (.inl ⟨q, hq, rfl⟩)), go_ag h b _ _ _ fun q hq => hC (1 :: q.1, q.2) (by simp only [rulesOf, List.mem_cons, List.mem_append, List.mem_map]; exact .inr (.inr ⟨q, hq, rfl⟩))]
theorem gone_ag {C : List Cond} {b : Book} {c d : List Val} (h : Ag C (worldF b.F c) (worldF b.F d)) (hC : ∀ x ∈ condsOf b, x ∈ C) : goneR b c = goneR b d := by
  unfold goneR world
  refine go_ag (worldM_ag b.M h fun m hm r hr => hC _ ?_) _ _ _ _ fun q hq => hC _ ?_
  · unfold condsOf
    exact List.mem_append_left _ (List.mem_flatMap.mpr ⟨m, hm, List.mem_map.mpr ⟨r, hr, rfl⟩⟩)
  · unfold condsOf
    exact List.mem_append_right _ (List.mem_map.mpr ⟨q, hq, rfl⟩)
/-- between two starts there is none -/
theorem mkc_gap {hi : Int} : ∀ {st : List Int}, Asc ltI st → (∀ s ∈ st, s ≤ hi) → ∀ {s e : Int}, Cell.r s e ∈ mkc hi st → ∀ t ∈ st, ¬ (s < t ∧ t ≤ e)
  | [], _, _, s, e, hc, _, _ => by cases hc
  | [a], _, hb, s, e, hc, t, ht => by
    rw [mkc, List.mem_singleton] at hc
    cases hc
    rw [List.mem_singleton] at ht
    omega
  | a :: b :: r, ha, hb, s, e, hc, t, ht => by
    unfold Asc at ha
    rw [List.pairwise_cons] at ha
    have hab : a < b := of_decide_eq_true (ha.1 b List.mem_cons_self)
    rw [mkc, List.mem_cons] at hc
    have hbr : ∀ x ∈ b :: r, b ≤ x := by
      intro x hx
      have h2 := ha.2
      rw [List.pairwise_cons] at h2
      rcases List.mem_cons.mp hx with rfl | hx
      · exact Int.le_refl _
      · have : b < x := of_decide_eq_true (h2.1 x hx)
        omega
    rcases hc with hc | hc
    · cases hc
      rcases List.mem_cons.mp ht with rfl | ht
      · omega
      · have := hbr t ht
        omega
    · obtain ⟨s', e', h1, h2, _⟩ := mkc_mem ha.2 (fun x hx => hb x (List.mem_cons_of_mem _ hx)) _ hc
      cases h1
      have h3 := hbr s h2
      rcases List.mem_cons.mp ht with rfl | ht
      · omega
      · exact mkc_gap ha.2 (fun x hx => hb x (List.mem_cons_of_mem _ hx)) hc t ht
theorem stretch_ag {lo hi : Int} (hle : lo ≤ hi) {C : List Cond} {n : Txt} {c : Cell} (hc : c ∈ stretch lo hi (C.flatMap (cutsIn n))) {v w : Val} (hv : v ∈ valsIn c) (hw : w ∈ valsIn c) : AgV C n v w := by
  obtain ⟨s, e, rfl, h1, h2, h3⟩ := stretch_mem hle _ c hc
  obtain ⟨x, rfl, x1, x2⟩ := mem_rangeI.mp hv
  obtain ⟨y, rfl, y1, y2⟩ := mem_rangeI.mp hw
  obtain ⟨k1, k2⟩ := starts_asc lo hi (C.flatMap (cutsIn n))
  have hb : ∀ t ∈ startsOf lo hi (C.flatMap (cutsIn n)), t ≤ hi := fun t ht => by rcases k2 t ht with rfl | h; exact hle; exact h.2.2
  rw [stretch_eq] at hc
  have gap := mkc_gap k1 hb hc
  have key : ∀ z ∈ C.flatMap (cutsIn n), ¬ (s < z ∧ z ≤ e) := fun z hz hse => by
    have : z ∈ startsOf lo hi (C.flatMap (cutsIn n)) := by
      unfold startsOf
      refine List.mem_cons_of_mem _ (((sortedI _).2 z).mpr (List.mem_filter.mpr ⟨hz, ?_⟩))
      unfold inb
      rw [Bool.and_eq_true, decide_eq_true_eq, decide_eq_true_eq]; omega
    exact gap z this hse
  show ∀ z ∈ C.flatMap (cutsIn n), (z ≤ x ↔ z ≤ y)
  intro z hz
  have := key z hz
  omega
/-- facts as the generator makes them, far or near -/
def KOk (p : Txt × Kind) : Prop := match p.2 with
  | .ch vs => vs.Nodup
  | .nu lo hi => lo ≤ hi
theorem free_part {F : Facts} (h : ∀ p ∈ F, KOk p) (C : List Cond) : All2 Part (cellsBy F C (List.replicate F.length none)) (F.map fun p => valsOf p.2) := by
  unfold cellsBy
  induction F with
  | nil => exact .nil
  | cons p F ih =>
    rw [List.length_cons, List.replicate_succ, List.zip_cons_cons, List.map_cons, List.map_cons]
    refine .cons ?_ (ih fun q hq => h q (List.mem_cons_of_mem _ hq))
    have hp := h p List.mem_cons_self
    obtain ⟨n, k⟩ := p
    cases k with
    | ch vs =>
      refine ⟨?_, fun c hc => ?_⟩
      · show vs.map Val.s = (vs.map Cell.s).flatMap valsIn
        rw [List.flatMap_map]
        clear ih hp h
        induction vs with
        | nil => rfl
        | cons a vs ihv => rw [List.map_cons, List.flatMap_cons, ihv]; rfl
      · obtain ⟨t, _, rfl⟩ := List.mem_map.mp (show c ∈ vs.map Cell.s from hc)
        exact ⟨rfl, List.mem_singleton.mpr rfl⟩
    | nu lo hi => exact stretch_part hp _
theorem same_ag {F : Facts} (h : ∀ p ∈ F, KOk p) {C : List Cond} {x y : List Val} (hs : Same (cellsBy F C (List.replicate F.length none)) x y) : Ag C (worldF F x) (worldF F y) := by
  unfold worldF
  have key : ∀ (F : Facts), (∀ p ∈ F, KOk p) → ∀ (x y : List Val), Same (cellsBy F C (List.replicate F.length none)) x y → ∀ w1 w2 : World, Ag C w1 w2 → Ag C ((F.zip x).foldl (fun w p => putW w p.1.1 p.2) w1) ((F.zip y).foldl (fun w p => putW w p.1.1 p.2) w2) := by
    intro F
    induction F with
    | nil => intro _ x y _ w1 w2 hw; exact hw
    | cons p F ih =>
      intro h x y hs w1 w2 hw
      unfold cellsBy at hs
      rw [List.length_cons, List.replicate_succ, List.zip_cons_cons, List.map_cons] at hs
      cases hs with
      | @cons _ _ c v w x y hc hv hw' t =>
        rw [List.zip_cons_cons, List.zip_cons_cons, List.foldl_cons, List.foldl_cons]
        refine ih (fun q hq => h q (List.mem_cons_of_mem _ hq)) x y t _ _ (hw.put ?_)
        have hp := h p List.mem_cons_self
        obtain ⟨n, k⟩ := p
        cases k with
        | ch vs =>
          obtain ⟨t, _, rfl⟩ := List.mem_map.mp (show c ∈ vs.map Cell.s from hc)
          rw [List.mem_singleton.mp (show v ∈ [Val.s t] from hv), List.mem_singleton.mp (show w ∈ [Val.s t] from hw')]
          exact (rfl : t = t)
        | nu lo hi => exact stretch_ag hp hc hv hw'
  exact key F h x y hs [] [] fun n => trivial
theorem allCases_nodup {F : Facts} (h : ∀ p ∈ F, KOk p) : (allCases F).Nodup := by
  unfold allCases
  refine prodV_nodup fun v hv => ?_
  obtain ⟨p, hp, rfl⟩ := List.mem_map.mp hv
  have := h p hp
  obtain ⟨n, k⟩ := p
  cases k with
  | ch vs => exact List.Pairwise.map _ (fun x y hxy e => hxy (by simpa using e)) (this : vs.Nodup)
  | nu lo hi => exact rangeI_nodup lo hi
/-- cases: a value of each fact -/
def CaseOf (F : Facts) (c : List Val) : Prop := All2 (fun p v => v ∈ valsOf p.2) F c
theorem mem_all {F : Facts} : ∀ {c : List Val}, c ∈ allCases F ↔ CaseOf F c := by
  unfold allCases CaseOf
  induction F with
  | nil =>
    intro c
    rw [List.map_nil, prodV, List.mem_singleton]
    constructor
    · rintro rfl; exact .nil
    · intro h; cases h; rfl
  | cons p F ih =>
    intro c
    rw [List.map_cons, prodV, List.mem_flatMap]
    constructor
    · rintro ⟨v, hv, hc⟩
      obtain ⟨y, hy, rfl⟩ := List.mem_map.mp hc
      exact .cons hv (ih.mp hy)
    · intro h
      cases h with
      | cons hv t => exact ⟨_, hv, List.mem_map.mpr ⟨_, ih.mpr t, rfl⟩⟩
theorem CaseOf.ty {F : Facts} {c : List Val} (h : CaseOf F c) : TyC F c := h.imp fun p v _ _ hv => by
  obtain ⟨n, k⟩ := p
  cases k with
  | ch vs => obtain ⟨t, _, rfl⟩ := List.mem_map.mp (show v ∈ vs.map Val.s from hv); trivial
  | nu lo hi => obtain ⟨z, rfl, _⟩ := mem_rangeI.mp (show v ∈ rangeI lo hi from hv); trivial
theorem pick_case {F : Facts} (h : ∀ p ∈ F, KOk p) {C : List Cond} {p : Pick} (hp : p ∈ pr (cellsBy F C (List.replicate F.length none))) : CaseOf F (caseOf p) := by
  rw [mem_pr] at hp
  have hP := free_part h C
  unfold CaseOf
  have key : ∀ {R : List (List Cell)} {F : Facts} {p : Pick}, All2 Part R (F.map fun p => valsOf p.2) → All2 (fun c r => c ∈ r) p R → All2 (fun p v => v ∈ valsOf p.2) F (caseOf p) := by
    intro R
    induction R with
    | nil =>
      intro F p h1 h2
      cases h2
      cases F with
      | nil => exact .nil
      | cons _ _ => cases h1
    | cons r R ih =>
      intro F p h1 h2
      cases F with
      | nil => cases h1
      | cons q F =>
        rw [List.map_cons] at h1
        cases h1 with
        | cons a t =>
          cases h2 with
          | cons hc t2 =>
            refine .cons ?_ (ih t t2)
            rw [a.eq]
            exact List.mem_flatMap.mpr ⟨_, hc, (a.sz _ hc).2⟩
  exact key hP hp
end R
end
section
set_option Elab.async false
set_option linter.all false
set_option autoImplicit false
set_option maxRecDepth 100000
set_option maxHeartbeats 1000000
/-! two books held against one another; a book corrected -/
namespace R
open Ev
theorem WB.kok {b : Book} {F0 : Facts} {limit : Nat} (h : WB b F0 limit) : ∀ p ∈ b.F, KOk p := by
  intro p hp
  have := h.kinds p hp
  obtain ⟨n, k⟩ := p
  cases k with
  | ch vs =>
    obtain ⟨s, m, hs, hm, rfl⟩ := this
    exact (chs_asc s m hs hm).1.nodup stoT
  | nu lo hi => exact this.2.1
theorem far_refl (F : Facts) : All2 far1 F F := by
  induction F with
  | nil => exact .nil
  | cons p F ih => exact .cons (by obtain ⟨n, k⟩ := p; cases k; exact ⟨rfl, rfl⟩; exact ⟨rfl, .inl rfl, .inl rfl⟩) ih
theorem Gen.wb {b : Book} {limit : Nat} (h : Gen b limit) : WB b b.F limit := ⟨far_refl _, h⟩
/-! ### two books of the same facts -/
def jointR (a b : Book) : List (List Cell) := cellsBy a.F (condsOf a ++ condsOf b) (List.replicate a.F.length none)
def unlike (a b : Book) : List Pick := (pr (jointR a b)).filter fun p => adv a (caseOf p) != adv b (caseOf p)
def apartM (a b : Book) : Int := ((unlike a b).map manyIn).sum
def apartC (a b : Book) : Option (List Val) := (unlike a b).head?.map caseOf
/-- how many cases come to another advice -/
def dist (a b : Book) : Int := ((allCases a.F).map fun c => if (adv a c != adv b c) = true then (1 : Int) else 0).sum
theorem adv_same {a b : Book} {F0 : Facts} {limit : Nat} (h : WB a F0 limit) {C : List Cond} (hC : ∀ c ∈ condsOf b, c ∈ C) (hF : b.F = a.F) {x y : List Val} (hs : Same (cellsBy a.F C (List.replicate a.F.length none)) x y) : adv b x = adv b y := by
  unfold adv
  rw [gone_ag (C := C) (by rw [hF]; exact same_ag h.kok hs) hC]
theorem apartM_dist {a b : Book} {F0 : Facts} {limit : Nat} (h : WB a F0 limit) (hF : b.F = a.F) : apartM a b = dist a b := by
  unfold apartM dist unlike
  rw [sum_filter]
  have e : ((pr (jointR a b)).map fun p => if (adv a (caseOf p) != adv b (caseOf p)) = true then manyIn p else 0) = (pr (jointR a b)).map fun p => manyIn p * (if (adv a (caseOf p) != adv b (caseOf p)) = true then (1 : Int) else 0) := by
    apply List.map_congr_left
    intro p _
    split <;> simp
  rw [e]
  refine count_cases (f := fun c => if (adv a c != adv b c) = true then (1 : Int) else 0) (free_part h.kok (condsOf a ++ condsOf b)) fun x y hxy => ?_
  show (if (adv a x != adv b x) = true then (1 : Int) else 0) = if (adv a y != adv b y) = true then (1 : Int) else 0
  rw [adv_same h (fun c hc => List.mem_append_left _ hc) rfl hxy, adv_same (b := b) h (fun c hc => List.mem_append_right _ hc) hF hxy]
theorem many_pos {F : Facts} (h : ∀ p ∈ F, KOk p) {C : List Cond} {p : Pick} (hp : p ∈ pr (cellsBy F C (List.replicate F.length none))) : 1 ≤ manyIn p := by
  rw [mem_pr] at hp
  have hP := free_part h C
  have key : ∀ {R : List (List Cell)} {V : List (List Val)} {p : Pick}, All2 Part R V → All2 (fun c r => c ∈ r) p R → 1 ≤ manyIn p := by
    intro R
    induction R with
    | nil => intro V p h1 h2; cases h2; decide
    | cons r R ih =>
      intro V p h1 h2
      cases h1 with
      | cons a t =>
        cases h2 with
        | @cons c _ p _ hc t2 =>
          have i := ih t t2
          obtain ⟨k1, k2⟩ := a.sz _ hc
          have : 1 ≤ sizeOf c := by
            have := List.length_pos_of_mem k2
            omega
          rw [manyIn_cons]
          have := Int.mul_le_mul this i (by omega) (by omega)
          omega
  exact key hP hp
theorem sum_nonneg' : ∀ {l : List Int}, (∀ x ∈ l, 0 ≤ x) → 0 ≤ l.sum
  | [], _ => by simp
  | a :: l, h => by
    rw [List.sum_cons]
    have := h a List.mem_cons_self
    have := sum_nonneg' fun x hx => h x (List.mem_cons_of_mem _ hx)
    omega
theorem apartC_none {a b : Book} {F0 : Facts} {limit : Nat} (h : WB a F0 limit) : apartC a b = none ↔ apartM a b = 0 := by
  unfold apartC apartM
  have hpos : ∀ p ∈ unlike a b, 1 ≤ manyIn p := fun p hp => many_pos h.kok (List.mem_filter.mp hp).1
  cases e : unlike a b with
  | nil => simp
  | cons p l =>
    rw [e] at hpos
    have h1 := hpos p List.mem_cons_self
    have h2 := sum_nonneg' (l := l.map manyIn) fun x hx => by
      obtain ⟨q, hq, rfl⟩ := List.mem_map.mp hx
      have := hpos q (List.mem_cons_of_mem _ hq)
      omega
    rw [List.map_cons, List.sum_cons]
    constructor
    · intro h; simp at h
    · intro h; omega
theorem apartC_some {a b : Book} {F0 : Facts} {limit : Nat} (h : WB a F0 limit) {c : List Val} (e : apartC a b = some c) : CaseOf a.F c ∧ adv a c ≠ adv b c := by
  unfold apartC at e
  rw [Option.map_eq_some_iff] at e
  obtain ⟨p, hp, rfl⟩ := e
  have hm := List.mem_filter.mp (List.mem_of_mem_head? hp)
  exact ⟨pick_case h.kok hm.1, by simpa using hm.2⟩
/-- one case comes to another advice, and so -/
theorem dist_one {a a' : Book} {F0 : Facts} {limit : Nat} (h : WB a F0 limit) {c : List Val} {told : Txt} (hc : CaseOf a.F c) (hne : adv a c ≠ told) (ha : ∀ x, CaseOf a.F x → adv a' x = if x = c then told else adv a x) : dist a a' = 1 := by
  unfold dist
  have nd := allCases_nodup h.kok
  have hm := mem_all.mpr hc
  have e : ((allCases a.F).map fun x => if (adv a x != adv a' x) = true then (1 : Int) else 0) = (allCases a.F).map fun x => if x = c then (1 : Int) else 0 := by
    apply List.map_congr_left
    intro x hx
    rw [ha x (mem_all.mp hx)]
    by_cases e : x = c
    · subst e; simp [hne]
    · simp [e]
  rw [e]
  clear e ha
  generalize allCases a.F = l at nd hm
  induction l with
  | nil => cases hm
  | cons y l ih =>
    rw [List.nodup_cons] at nd
    rw [List.map_cons, List.sum_cons]
    rcases List.mem_cons.mp hm with rfl | hm
    · have : (l.map fun x => if x = c then (1 : Int) else 0) = l.map fun _ => 0 := by
        apply List.map_congr_left
        intro x hx
        rw [if_neg (fun e => nd.1 (by rw [← e]; exact hx))]
      rw [if_pos rfl, this, sum_zero]; rfl
    · rw [if_neg (fun e => nd.1 (by rw [e]; exact hm)), ih nd.2 hm]; rfl
theorem dist_less {a a' g : Book} {F0 : Facts} {limit : Nat} (h : WB a F0 limit) (hF : a'.F = a.F) {c : List Val} {told : Txt} (hc : CaseOf a.F c) (hne : adv a c ≠ told) (hg : adv g c = told) (ha : ∀ x, CaseOf a.F x → adv a' x = if x = c then told else adv a x) : dist a' g = dist a g - 1 := by
  have h1 := dist_one h hc hne ha
  have e : dist a g = dist a' g + dist a a' := by
    unfold dist
    rw [hF, ← sum_add]
    congr 1
    apply List.map_congr_left
    intro x hx
    rw [ha x (mem_all.mp hx)]
    by_cases e : x = c
    · subst e; simp [hne, hg]
    · simp [e]
  omega
/-! ### a tree grown -/
def pathOf (w : World) : Tree → List Int
  | .nil => []
  | .node c _ a b => if sat w c then 0 :: pathOf w a else 1 :: pathOf w b
def advT (w : World) : Tree → Txt → Txt
  | .nil, f => f
  | .node c o a b, f => if sat w c then advT w a o else advT w b f
theorem go_parts (w : World) : ∀ (t : Tree) (f : Txt) (p : List Int) (r : List (List Int × Bool)), (go w t f p r).1 = advT w t f ∧ (go w t f p r).2.1 = p ++ pathOf w t
  | .nil, f, p, r => by simp [go, advT, pathOf]
  | .node c o a b, f, p, r => by
    rw [go, advT, pathOf]
    cases h : sat w c
    · obtain ⟨h1, h2⟩ := go_parts w b f (p ++ [1]) (r ++ [(p, false)])
      simp [h1, h2]
    · obtain ⟨h1, h2⟩ := go_parts w a o (p ++ [0]) (r ++ [(p, true)])
      simp [h1, h2]
def grow : Tree → List Int → Tree → Tree
  | _, [], r => r
  | .nil, _ :: _, _ => .nil
  | .node c o a b, d :: ps, r => if d = 0 then .node c o (grow a ps r) b else .node c o a (grow b ps r)
theorem advT_grow (w w0 : World) (rc : Cond) (ro : Txt) : ∀ (t : Tree) (f : Txt), advT w (grow t (pathOf w0 t) (.node rc ro .nil .nil)) f = if pathOf w t = pathOf w0 t then (if sat w rc then ro else advT w t f) else advT w t f
  | .nil, f => by simp [pathOf, grow, advT]
  | .node c o a b, f => by
    rw [pathOf, pathOf]
    cases h0 : sat w0 c
    · simp only [Bool.false_eq_true, if_false, grow, show ((1 : Int) = 0) = False from by simp]
      rw [advT, advT]
      cases h : sat w c
      · simp only [Bool.false_eq_true, if_false]
        rw [advT_grow w w0 rc ro b f]
        simp
      · simp
    · simp only [if_true, grow]
      rw [advT, advT]
      cases h : sat w c
      · simp
      · simp only [if_true]
        rw [advT_grow w w0 rc ro a o]
        simp
theorem path_len (w : World) : ∀ t : Tree, (pathOf w t).length ≤ t.dp
  | .nil => Nat.le_refl _
  | .node c o a b => by
    have := path_len w a
    have := path_len w b
    rw [pathOf, Tree.dp]
    split <;> simp <;> omega
theorem grow_sz (w : World) (r : Tree) : ∀ t : Tree, (grow t (pathOf w t) r).sz = t.sz + r.sz
  | .nil => by simp [pathOf, grow, Tree.sz]
  | .node c o a b => by
    rw [pathOf]
    cases h : sat w c
    · simp only [Bool.false_eq_true, if_false, grow, show ((1 : Int) = 0) = False from by simp, Tree.sz, grow_sz w r b]; omega
    · simp only [if_true, grow, Tree.sz, grow_sz w r a]; omega
theorem grow_dp (w : World) (r : Tree) : ∀ t : Tree, (grow t (pathOf w t) r).dp ≤ max t.dp ((pathOf w t).length + r.dp)
  | .nil => by simp [pathOf, grow, Tree.dp]
  | .node c o a b => by
    rw [pathOf]
    cases h : sat w c
    · have := grow_dp w r b
      simp only [Bool.false_eq_true, if_false, grow, show ((1 : Int) = 0) = False from by simp, Tree.dp, List.length_cons]; omega
    · have := grow_dp w r a
      simp only [if_true, grow, Tree.dp, List.length_cons]; omega
theorem grow_ok {pool : Facts} {A : List Txt} (w : World) {r : Tree} (hr : treeOk pool A r) : ∀ t : Tree, treeOk pool A t → treeOk pool A (grow t (pathOf w t) r)
  | .nil, _ => by simp only [pathOf, grow]; exact hr
  | .node c o a b, h => by
    rw [pathOf]
    cases hs : sat w c
    · simp only [Bool.false_eq_true, if_false, grow, show ((1 : Int) = 0) = False from by simp]
      exact ⟨h.1, h.2.1, h.2.2.1, grow_ok w hr b h.2.2.2⟩
    · simp only [if_true, grow]
      exact ⟨h.1, h.2.1, grow_ok w hr a h.2.2.1, h.2.2.2⟩
def corr (b : Book) (c : List Val) (told : Txt) (cond : Cond) : Book := { b with t := grow b.t (pathOf (world b.F b.M c) b.t) (.node cond told .nil .nil) }
theorem adv_T (b : Book) (c : List Val) : adv b c = advT (world b.F b.M c) b.t b.first := (go_parts _ _ _ _ _).1
theorem end_path (b : Book) (c : List Val) : (goneR b c).2.1 = pathOf (world b.F b.M c) b.t := by
  unfold goneR; rw [(go_parts _ _ _ _ _).2]; rfl
theorem adv_corr (b : Book) (c : List Val) (told : Txt) (cond : Cond) (x : List Val) : adv (corr b c told cond) x = if pathOf (world b.F b.M x) b.t = pathOf (world b.F b.M c) b.t then (if sat (world b.F b.M x) cond then told else adv b x) else adv b x := by
  rw [adv_T, adv_T]
  exact advT_grow _ _ cond told b.t b.first
theorem corr_gen {b : Book} {limit : Nat} (h : Gen b limit) {c : List Val} {told : Txt} {cond : Cond} (hc : condOk (poolOf b.F b.M) cond ∧ cond.dp < 3 ∧ cond.lv ≤ 2) (ht : told ∈ b.A) (hs : b.t.sz < 30) (hl : (pathOf (world b.F b.M c) b.t).length < 12) : Gen (corr b c told cond) limit := by
  refine ⟨h.F, h.M, h.A, h.first, grow_ok _ (show treeOk (poolOf b.F b.M) b.A (.node cond told .nil .nil) from ⟨hc, ht, trivial, trivial⟩) b.t h.t, ?_, ?_⟩
  · show (grow _ _ _).sz ≤ 30
    rw [grow_sz]; show b.t.sz + (0 + 0 + 1) ≤ 30; omega
  · show (grow _ _ _).dp ≤ 12
    refine Nat.le_trans (grow_dp _ _ _) ?_
    have := h.sz.2
    show max b.t.dp (_ + (max 0 0 + 1)) ≤ 12
    omega
/-! ### a case's own condition -/
def leafOf (p : (Txt × Kind) × Val) : Cond := match p.1.2, p.2 with
  | .nu _ _, .i z => .frm p.1.1 z z
  | _, .s t => .is p.1.1 t
  | _, .i _ => .yes
def addC (c one : Cond) : Cond := match c with
  | .yes => one
  | c => .an c one
def pin (F : Facts) (c : List Val) : Cond := ((F.zip c).map leafOf).foldl addC .yes
theorem sat_add (w : World) (c one : Cond) : sat w (addC c one) = (sat w c && sat w one) := by
  cases c <;> simp [addC, sat]
theorem sat_pin (w : World) (l : List Cond) : ∀ c : Cond, sat w (l.foldl addC c) = (sat w c && l.all (sat w)) := by
  induction l with
  | nil => intro c; simp
  | cons a l ih => intro c; rw [List.foldl_cons, ih, sat_add, List.all_cons, Bool.and_assoc]
theorem look_worldF {F : Facts} {c : List Val} (h : TyC F c) (nd : (F.map (·.1)).Nodup) : ∀ p ∈ F.zip c, look (worldF F c) p.1.1 = some p.2 := by
  have key : ∀ {F : Facts} {c : List Val}, TyC F c → (F.map (·.1)).Nodup → ∀ w : World, (∀ p ∈ F.zip c, look ((F.zip c).foldl (fun w p => putW w p.1.1 p.2) w) p.1.1 = some p.2) ∧ ∀ n, n ∉ F.map (·.1) → look ((F.zip c).foldl (fun w p => putW w p.1.1 p.2) w) n = look w n := by
    intro F c h
    induction h with
    | nil => intro _ w; exact ⟨(fun p hp => by simp at hp), fun n _ => rfl⟩
    | @cons p v F c q _ ih =>
      intro nd w
      rw [List.map_cons, List.nodup_cons] at nd
      obtain ⟨i1, i2⟩ := ih nd.2 (putW w p.1 v)
      simp only [List.zip_cons_cons, List.foldl_cons]
      refine ⟨fun r hr => ?_, fun n hn => ?_⟩
      · rcases List.mem_cons.mp hr with rfl | hr
        · rw [i2 _ nd.1, look_put, if_pos rfl]
        · exact i1 r hr
      · rw [List.map_cons, List.mem_cons, not_or] at hn
        rw [i2 n hn.2, look_put, if_neg (Ne.symm hn.1)]
  exact (key h nd []).1
theorem look_worldM {n : Txt} : ∀ (M : List Mk) (w : World), (∀ m ∈ M, m.n ≠ n) → look (worldM w M) n = look w n
  | [], w, _ => rfl
  | m :: M, w, h => by
    rw [worldM, look_worldM M _ fun m' hm' => h m' (List.mem_cons_of_mem _ hm'), look_put, if_neg (h m List.mem_cons_self)]
theorem mark_names {F : Facts} (hF : ∀ p ∈ F, p.1 ∈ facNames) {M : List Mk} (hM : MksOk F M) : ∀ m ∈ M, ∀ p ∈ F, m.n ≠ p.1 := by
  intro m hm p hp e
  obtain ⟨i, hi, rfl⟩ := List.mem_iff_getElem.mp hm
  have h1 := (hM.2 i hi).nm
  have h2 := hF p hp
  rw [← e, h1] at h2
  have : i = 0 ∨ i = 1 := by have := hM.1; omega
  rw [List.length_take, Nat.min_eq_left (by omega)] at h2
  rcases this with rfl | rfl <;> simp [mkName, facNames] at h2
theorem sat_pin_iff {b : Book} {limit : Nat} (h : Gen b limit) {c x : List Val} (hc : TyC b.F c) (hx : TyC b.F x) : sat (world b.F b.M x) (pin b.F c) = true ↔ x = c := by
  have nd := h.F.asc.nodup stoT
  unfold pin
  rw [sat_pin]
  simp only [sat, Bool.true_and]
  rw [List.all_eq_true]
  have hl : ∀ p ∈ b.F.zip x, look (world b.F b.M x) p.1.1 = some p.2 := fun p hp => by
    unfold world
    rw [look_worldM _ _ fun m hm => mark_names h.F.nm h.M m hm p.1 (List.of_mem_zip hp).1]
    exact look_worldF hx nd p hp
  generalize world b.F b.M x = w at hl
  clear nd h
  generalize b.F = F at hc hx hl
  induction hc generalizing x with
  | nil => cases hx; simp
  | @cons p v F c q _ ih =>
    cases hx with
    | @cons _ u _ x q' t =>
      rw [List.zip_cons_cons] at hl
      have h0 := hl _ List.mem_cons_self
      simp only at h0
      have hi := ih t fun p hp => hl p (List.mem_cons_of_mem _ hp)
      rw [List.zip_cons_cons, List.map_cons]
      have hsat : sat w (leafOf (p, v)) = true ↔ u = v := by
        obtain ⟨n, k⟩ := p
        cases k <;> cases v <;> cases u <;> first | exact absurd q id | exact absurd q' id | skip
        · simp only at h0
          simp [leafOf, sat, h0]
        · simp only at h0
          simp [leafOf, sat, h0]
          omega
      constructor
      · intro ha
        have h1 := hsat.mp (ha _ List.mem_cons_self)
        have h2 := hi.mp fun y hy => ha y (List.mem_cons_of_mem _ hy)
        rw [h1, h2]
      · intro e y hy
        obtain ⟨e1, e2⟩ := List.cons.inj e
        rcases List.mem_cons.mp hy with rfl | hy
        · exact hsat.mpr e1
        · exact hi.mpr e2 y hy
/-- corrected by a case's own condition: just that case -/
theorem adv_pin {b : Book} {limit : Nat} (h : Gen b limit) {c : List Val} (hc : TyC b.F c) (told : Txt) {x : List Val} (hx : TyC b.F x) : adv (corr b c told (pin b.F c)) x = if x = c then told else adv b x := by
  rw [adv_corr]
  have hs := sat_pin_iff h hc hx
  by_cases e : x = c
  · subst e
    rw [if_pos rfl, if_pos (hs.mpr rfl), if_pos rfl]
  · have : sat (world b.F b.M x) (pin b.F c) = false := by
      cases e2 : sat (world b.F b.M x) (pin b.F c) with
      | false => rfl
      | true => exact absurd (hs.mp e2) e
    rw [this, if_neg e]
    simp
end R
end
section
set_option Elab.async false
set_option linter.all false
set_option autoImplicit false
set_option maxRecDepth 100000
set_option maxHeartbeats 1000000
namespace R
open Ev
variable {P : List Fn} {gl : List PV} {T : Nat} {ix : Nm → Nat}
/-- the cuts of a fact, window: one for all conditions of such a pool -/
theorem WB.win1 {b : Book} {F0 : Facts} {limit : Nat} (h : WB b F0 limit) {nm : Txt} {lo hi : Int} (hp : (nm, Kind.nu lo hi) ∈ b.F) : ∃ a : Int, ∀ c : Cond, (∃ pre, condOk (poolOf F0 pre) c) → ∀ x ∈ cutsIn nm c, a ≤ x ∧ x < a + 12 := by
  obtain ⟨p, hp0, e1, e2⟩ := h.far.get' hp
  obtain ⟨pn, pk⟩ := p
  simp only at e1
  subst e1
  cases pk with
  | ch vs => exact absurd e2 id
  | nu a b0 =>
    refine ⟨a - 2, fun c ⟨pre, hc⟩ x hx => ?_⟩
    refine cuts_win ?_ c hc x hx
    intro a' b' hm
    unfold poolOf at hm
    rcases List.mem_append.mp hm with hm | hm
    · have := nu_unique (h.gen.F.asc.nodup stoT) hm hp0
      cases this; rfl
    · obtain ⟨m, _, e⟩ := List.mem_map.mp hm
      cases e
/-- two sound books of the same facts -/
structure Two (a b : Book) (F0 : Facts) (limit : Nat) : Prop where
  wa : WB a F0 limit
  wb : WB b F0 limit
  eF : b.F = a.F
  l : limit ≤ 3
section
variable {a b : Book} {F0 : Facts} {limit : Nat}
theorem Two.conds (h : Two a b F0 limit) : (condsOf a ++ condsOf b).length ≤ 72 ∧ ∀ c ∈ condsOf a ++ condsOf b, (∃ pre, condOk (poolOf F0 pre) c) ∧ c.dp < 3 ∧ c.lv ≤ 2 := by
  obtain ⟨h1, h2⟩ := h.wa.conds
  obtain ⟨h3, h4⟩ := h.wb.conds
  refine ⟨by rw [List.length_append]; omega, fun c hc => ?_⟩
  rcases List.mem_append.mp hc with hc | hc
  · exact h2 c hc
  · exact h4 c hc
theorem Two.win (h : Two a b F0 limit) {nm : Txt} {lo hi : Int} (hp : (nm, Kind.nu lo hi) ∈ a.F) : ∃ x : Int, ∀ z ∈ (condsOf a ++ condsOf b).flatMap (cutsIn nm), x ≤ z ∧ z < x + 12 := by
  obtain ⟨x, hx⟩ := h.wa.win1 hp
  refine ⟨x, fun z hz => ?_⟩
  obtain ⟨c, hc, hz⟩ := List.mem_flatMap.mp hz
  exact hx c (h.conds.2 c hc).1 z hz
theorem Two.okC (h : Two a b F0 limit) : OkC a.F (condsOf a ++ condsOf b) 3 := by
  obtain ⟨h1, h2⟩ := h.conds
  have h3 : ∀ nm, ((condsOf a ++ condsOf b).flatMap (cutsIn nm)).length ≤ 288 := fun nm => by
    have := flat_len (cutsIn nm) 4 (condsOf a ++ condsOf b) fun c hc => by have := cuts_len nm c; have := (h2 c hc).2.2; omega
    omega
  refine ⟨by omega, fun p hp lo hi e => ?_, fun nm => by have := h3 nm; omega, fun c hc => ⟨(h2 c hc).2.1, by have := (h2 c hc).2.2; omega⟩⟩
  obtain ⟨nm, k⟩ := p
  simp only at e
  subst e
  obtain ⟨x, hx⟩ := h.win hp
  have := few_cuts (lo := lo) (hi := hi) hx
  show (dedupI (sortI (List.filter (inb lo hi) (List.flatMap (cutsIn nm) (condsOf a ++ condsOf b))))).length < 64
  omega
theorem Two.row (h : Two a b F0 limit) {p : Txt × Kind} (hp : p ∈ a.F) : RowOk p (rowOf (condsOf a ++ condsOf b) p none) := by
  have hkind := h.wa.kinds p hp
  obtain ⟨nm, kd⟩ := p
  cases kd with
  | ch vs =>
    obtain ⟨s, m, hs, hm, rfl⟩ := hkind
    obtain ⟨c1, c2, c3⟩ := chs_asc s m hs hm
    refine ⟨?_, ?_, ?_, ?_⟩
    · show List.map _ _ ≠ []; simpa using c3
    · show (List.map _ _).length ≤ 13; rw [List.length_map]; exact c2
    · show rowAsc (List.map _ _)
      unfold rowAsc
      rw [List.pairwise_map]; exact c1
    · intro c hc
      obtain ⟨t, _, rfl⟩ := List.mem_map.mp (show c ∈ List.map Cell.s _ from hc)
      exact ⟨trivial, by show (1 : Int) ≤ 1; omega, by show (1 : Int) ≤ _; omega⟩
  | nu lo hi =>
    obtain ⟨k1, k2, k3⟩ := hkind
    obtain ⟨x, hx⟩ := h.win hp
    obtain ⟨l1, l2⟩ := stretch_len (lo := lo) (hi := hi) hx
    refine ⟨l2, l1, stretch_asc _ _ _, ?_⟩
    intro c hc
    obtain ⟨s, e, rfl, h1, h2, h3⟩ := stretch_mem k2 _ c hc
    exact ⟨trivial, by show 1 ≤ e - s + 1; omega, by show e - s + 1 ≤ _; omega⟩
theorem Two.rows (h : Two a b F0 limit) : All2 RowOk a.F (jointR a b) := by
  unfold jointR cellsBy
  have key : ∀ (F : Facts), (∀ p ∈ F, p ∈ a.F) → All2 RowOk F ((F.zip (List.replicate F.length none)).map fun p => rowOf (condsOf a ++ condsOf b) p.1 p.2) := by
    intro F hs
    induction F with
    | nil => exact .nil
    | cons p F ih =>
      rw [List.length_cons, List.replicate_succ, List.zip_cons_cons, List.map_cons]
      exact .cons (h.row (hs _ List.mem_cons_self)) (ih fun p hp => hs p (List.mem_cons_of_mem _ hp))
  exact key a.F fun p hp => hp
theorem WB.small (h : WB a F0 limit) (hl : limit ≤ 3) : a.F.length ≤ 3 ∧ a.M.length ≤ 2 ∧ (a.M.flatMap fun m => m.rows).length ≤ 6 ∧ a.t.sz ≤ 30 ∧ a.t.dp ≤ 12 ∧ 0 < a.F.length := by
  have h1 := h.far.len
  have h2 := h.gen.F.len
  have h3 := h.gen.M.1
  have h4 := flat_len (fun m : Mk => m.rows) 3 a.M fun m hm => (h.gen.M.rows_len m hm).2
  have h5 := h.gen.sz
  have h6 := List.length_pos_iff.mpr h.gen.F.ne
  simp only at h2 h3 h5 h6
  exact ⟨by omega, h3, by omega, h5.1, h5.2, by omega⟩
theorem Two.len (h : Two a b F0 limit) : (jointR a b).length ≤ 3 := by
  have := h.rows.len
  have := (h.wa.small h.l).1
  omega
theorem Two.ways (h : Two a b F0 limit) : ways (jointR a b) ≤ 4000 := by
  refine ways_le (fun r hr => ?_) h.len
  obtain ⟨p, _, q⟩ := h.rows.get' hr
  exact q.len
theorem Two.pickTy (h : Two a b F0 limit) {p : Pick} (hp : p ∈ picks (jointR a b)) : TyC a.F (caseOf p) := by
  rw [picks_pr, mem_pr] at hp
  exact pick_ty h.rows hp
theorem plain_fe (F : Facts) : plain (fe F) = true ∧ depth (fe F) ≤ 64 := by
  constructor
  · refine plains_of fun x hx => ?_
    obtain ⟨p, _, rfl⟩ := List.mem_map.mp hx
    obtain ⟨n, k⟩ := p
    cases k with
    | ch vs => simp [fact1, Kind.e, plain, plains, plains_of (xs := vs.map PV.str) fun x hx => by obtain ⟨y, _, rfl⟩ := List.mem_map.mp hx; rfl]
    | nu lo hi => rfl
  · show depths (F.map fact1) + 1 ≤ 64
    have : depths (F.map fact1) ≤ 3 := depths_le fun x hx => by
      obtain ⟨p, _, rfl⟩ := List.mem_map.mp hx
      obtain ⟨n, k⟩ := p
      cases k with
      | ch vs =>
        have h0 : depths (vs.map PV.str) = 0 := depths_0 fun x hx => by obtain ⟨y, _, rfl⟩ := List.mem_map.mp hx; rfl
        simp [fact1, Kind.e, depth, depths, h0]
      | nu lo hi => simp [fact1, Kind.e, depth, depths]
    omega
theorem adv_inA (h : WB a F0 limit) (c : List Val) : adv a c ∈ a.A := treeA a.t a.first [] [] h.gen.t h.gen.first
end
theorem flat_non' (n : Nat) : (List.replicate n [PV.non]).flatten = (List.replicate n (none : Option Val)).map opE := by
  induction n with
  | zero => rfl
  | succ n ih => rw [List.replicate_succ, List.flatten_cons, ih, List.replicate_succ]; rfl
section
variable [Has P ix .empty_sketch]
theorem empty_ok (F : Facts) (h : 0 < F.length) (h2 : F.length ≤ 1000) (n : Nat) : callN P gl T (n + 1) (ix .empty_sketch) [fe F] = some (.val (skE (List.replicate F.length none))) := by
  have hl : sLen [fe F] = some (.int F.length) := by simp [sLen, fe]
  have hm : sMul [.tup [.non], .int (F.length : Int)] = some (skE (List.replicate F.length none)) := by
    by_cases h1 : F.length = 1
    · rw [h1]; rfl
    · have e : ((F.length : Int)).toNat = F.length := Int.toNat_natCast _
      have hne : ¬ ((F.length : Int) = 1) := by omega
      show (if (F.length : Int) = 1 then some (PV.tup [.non]) else if (decide (2 ≤ (F.length : Int)) && decide ((F.length : Int) ≤ 1000) && decide ([PV.non].length ≤ 1000) && !([PV.non].isEmpty)) = true then some (PV.tup (List.replicate ((F.length : Int)).toNat [PV.non]).flatten) else none) = _
      rw [if_neg hne, decide_eq_true (show 2 ≤ (F.length : Int) by omega), decide_eq_true (show (F.length : Int) ≤ 1000 by omega), e, flat_non']
      rfl
  rw [run_of]
  refine run_Ret rfl ?_
  simp [cd, c_empty_sketch, evalR, evalF, calms, calm, sem, hl, hm, mark, freshE, freshB, fresh]
  rfl
end
end R
end
section
set_option Elab.async false
set_option linter.all false
set_option autoImplicit false
set_option maxRecDepth 100000
set_option maxHeartbeats 1000000
namespace R
open Ev
variable {P : List Fn} {gl : List PV} {T : Nat} {ix : Nm → Nat}
section
variable [Has P ix .rules_of] [Has P ix .conditions_of] [Has P ix .parts_within] [Has P ix .cuts_in] [Has P ix .stretches] [Has P ix .cells_by]
  [Has P ix .first_of] [Has P ix .case_of] [Has P ix .ways_in] [Has P ix .picks_of] [Has P ix .is_so] [Has P ix .world_of] [Has P ix .gone] [Has P ix .advice] [Has P ix .empty_sketch] [Has P ix .unlike_picks]
variable {a b : Book} {F0 : Facts} {limit : Nat}
theorem unlike_ok (h : Two a b F0 limit) (n : Nat) (hn : 16 ≤ n) (hT : 100 < T) : callN P gl T n (ix .unlike_picks) [a.e, b.e] = some (.own (.lst ((unlike a b).map pickE))) := by
  obtain ⟨m, rfl⟩ : ∃ m, n = m + 3 := ⟨n - 3, by omega⟩
  obtain ⟨s1, s2, s3, s4, s5, s6⟩ := h.wa.small h.l
  obtain ⟨t1, t2, t3, t4, t5, t6⟩ := h.wb.small h.l
  obtain ⟨r1, e1, v1⟩ := conds_ok (P := P) (gl := gl) (T := T) (ix := ix) a (m + 1) (by omega) (by omega) (by omega) (by omega)
  obtain ⟨r2, e2, v2⟩ := conds_ok (P := P) (gl := gl) (T := T) (ix := ix) b (m + 1) (by omega) (by omega) (by omega) (by omega)
  have eE := empty_ok (P := P) (gl := gl) (T := T) (ix := ix) a.F s6 (by omega) (m + 1)
  have eC := cells_by_ok (P := P) (gl := gl) (T := T) (ix := ix) a.F (condsOf a ++ condsOf b) (List.replicate a.F.length none) (m + 1) 3 (by omega) h.okC (OkSk.free a.F).zip (by omega)
  obtain ⟨r3, e3, v3⟩ := picks_ok (P := P) (gl := gl) (T := T) (ix := ix) (jointR a b) m 4000 (fun r hr => by obtain ⟨p, _, q⟩ := h.rows.get' hr; exact q.ne) (by have := h.ways; omega) (by decide) (by have := h.len; omega)
  have hadd : sAdd [.lst ((condsOf a).map Cond.e), .lst ((condsOf b).map Cond.e)] = some (.lst ((condsOf a ++ condsOf b).map Cond.e)) := by
    have := h.conds.1
    rw [List.length_append] at this
    rw [sAdd_L (by rw [List.length_map, List.length_map]; omega), List.map_append]
  have hne : sNe [fe a.F, fe a.F] = some (.bl false) := sNe_same (plain_fe a.F).1 (plain_fe a.F).2 (eqv_refl _ (plain_fe a.F).1)
  have ha0 : sIx [a.e, .int 0] = some (fe a.F) := ix1 _ _
  have hb0 : sIx [b.e, .int 0] = some (fe a.F) := by rw [← h.eF]; exact ix1 _ _
  have hlen : (picks (jointR a b)).length ≤ sizeTop := by rw [picks_len]; have := h.ways; unfold sizeTop; omega
  rw [run_of]
  refine run_Ret rfl ?_
  refine Ret_seq (fun s => s = ⟨[some (.val a.e), some (.val b.e), none, none, none], []⟩) (by simp [cd, c_unlike_picks, calms, calm, sem, ha0, hb0, hne]) ?_
  rintro s rfl
  refine Ret_seq (fun s => s = ⟨[some (.val a.e), some (.val b.e), some (.own (rowsE (jointR a b))), none, none], []⟩) (by
    simp [calms, calm, sem, ha0, St.freeze, e1, e2, v1, v2, -List.map_append]
    rw [hadd]
    simp [ha0, eE, eC, jointR, St.freeze, -List.map_append]) ?_
  rintro s rfl
  refine Ret_seq (fun s => ∃ x2, s = ⟨[some (.val a.e), some (.val b.e), x2, some r3, none], []⟩) (by
    simp [St.freeze, e3]) ?_
  rintro s ⟨x2, rfl⟩
  have main : ∀ x3 : SV, x3.v = r3.v → Ret (execs ⟨callN P gl T (m + 2), fun j => gl[j]?, T⟩ [(.ret (.comp [4] (.var 4) (.nm 4) .seq [(.var 3)] [(.bi .ne [(.call (ix .advice) [(.var 0), (.call (ix .case_of) [(.var 4)])]), (.call (ix .advice) [(.var 1), (.call (ix .case_of) [(.var 4)])])])]))] ⟨[some (.val a.e), some (.val b.e), x2, some x3, none], []⟩) fun f _ => f = .ret (.own (.lst ((unlike a b).map pickE))) := by
    intro x3 hx
    have hx' : items .seq [x3.v] = some ((picks (jointR a b)).map pickE) := by rw [hx, v3]; rfl
    simp [evalR, evalF, calms, calm, q_comp, hx', hlen]
    rw [loopL_mapT (g := fun p : Pick => if (adv a (caseOf p) != adv b (caseOf p)) = true then some (pickE p) else none)]
    · rw [filterMap_if, picks_pr]
      simp [mark, freshE, unlike]
    · intro p hp
      have hpl := picks_plen _ p hp
      have hj := h.len
      have hc := case_ok (P := P) (gl := gl) (T := T) (ix := ix) p m (by omega)
      have hty := h.pickTy hp
      have h1 := advice_ok (P := P) (gl := gl) (T := T) (ix := ix) (n := m + 1) (h.wa.okB (by have := h.l; omega) hty) (by omega) hT
      have h2 := advice_ok (P := P) (gl := gl) (T := T) (ix := ix) (n := m + 1) (h.wb.okB (by have := h.l; omega) (by rw [h.eF]; exact hty)) (by omega) hT
      cases x3 <;> cases e : (adv a (caseOf p) == adv b (caseOf p)) <;> simp [St.freeze, calms, calm, sem, hc, h1, h2, bne, e]
  exact main r3 rfl
variable [Has P ix .apart]
theorem apart_ok (h : Two a b F0 limit) (n : Nat) (hn : 17 ≤ n) (hT : 100 < T) : callN P gl T n (ix .apart) [a.e, b.e] = some (.val (caseO (apartC a b))) := by
  obtain ⟨m, rfl⟩ : ∃ m, n = m + 3 := ⟨n - 3, by omega⟩
  have eU := unlike_ok (P := P) (gl := gl) (T := T) (ix := ix) h (m + 2) (by omega) hT
  rw [run_of]
  refine run_Ret rfl ?_
  simp [cd, c_apart, q_for, St.freeze, eU, items]
  have hj := h.len
  have hlen : ∀ p ∈ unlike a b, p.length ≤ 1000 := fun p hp => by
    have hp' := (List.mem_filter.mp hp).1
    rw [← picks_pr] at hp'
    have := picks_plen _ p hp'
    omega
  unfold apartC
  cases e : unlike a b with
  | nil => simp [evalR, evalF, mark, freshE, caseO]
  | cons p l =>
    rw [e] at hlen
    have hc := case_ok (P := P) (gl := gl) (T := T) (ix := ix) p m (hlen p List.mem_cons_self)
    simp [q_fs, St.freeze, hc, evalR, evalF, mark, freshE, caseO]
variable [Has P ix .apart_many] [Has P ix .many_in] [Has P ix .size_of]
theorem apart_many_ok (h : Two a b F0 limit) (n : Nat) (hn : 17 ≤ n) (hT : 100 < T) : callN P gl T n (ix .apart_many) [a.e, b.e] = some (.val (.int (apartM a b))) := by
  obtain ⟨m, rfl⟩ : ∃ m, n = m + 3 := ⟨n - 3, by omega⟩
  have eU := unlike_ok (P := P) (gl := gl) (T := T) (ix := ix) h (m + 2) (by omega) hT
  have hlen : (unlike a b).length ≤ sizeTop := by
    unfold unlike
    refine Nat.le_trans (List.length_filter_le _ _) ?_
    rw [← picks_pr, picks_len]; have := h.ways; unfold sizeTop; omega
  rw [run_of]
  refine run_Ret rfl ?_
  simp [cd, c_apart_many, evalR, evalF, q_comp, calms, calm, St.freeze, eU, items, hlen]
  rw [loopL_all (g := fun p : Pick => PV.int (manyIn p))]
  · have e : (unlike a b).map (fun p => PV.int (manyIn p)) = ((unlike a b).map manyIn).map PV.int := by rw [List.map_map]; rfl
    rw [e]
    have hs : sSum [.lst (((unlike a b).map manyIn).map PV.int)] = some (.int (apartM a b)) := by simp only [sSum, allInts_map]; rfl
    simp only [Out.bind_ok, sem, q_back]
    simp [hs, mark, freshE, freshB, fresh, -List.map_map]
  · intro p hp
    have hp' := (List.mem_filter.mp hp).1
    have := many_ok (P := P) (gl := gl) (T := T) (ix := ix) p m (pick_sz h.rows ((mem_pr _ _).mp hp'))
    simp [St.freeze, this]
end
section
variable [Has P ix .is_so] [Has P ix .world_of] [Has P ix .is_true]
theorem is_true_ok {b : Book} {c : List Val} {d : Nat} (h : OkB b c d) {cond : Cond} (hc : okC (world b.F b.M c) cond) (hd : cond.dp < d) (n : Nat) (hn : d + 2 ≤ n) : callN P gl T n (ix .is_true) [fe b.F, me b.M, cond.e, cse c] = some (.val (.bl (sat (world b.F b.M c) cond))) := by
  obtain ⟨m, rfl⟩ : ∃ m, n = m + 2 := ⟨n - 2, by omega⟩
  have hw := world_of_ok (P := P) (gl := gl) (T := T) (ix := ix) b.F b.M c m d h.hF h.hM h.hr h.m (by omega)
  have hi := is_so_ok (P := P) (gl := gl) (T := T) (ix := ix) (world b.F b.M c) cond (m + 1) hc (by omega)
  rw [run_of]
  refine run_Ret rfl ?_
  simp [cd, c_is_true, evalR, evalF, St.freeze, hw, hi]
variable [Has P ix .gone] [Has P ix .end_of]
theorem end_of_ok {b : Book} {c : List Val} {d n : Nat} (h : OkB b c d) (hn : d + 3 ≤ n) (hT : 100 < T) : callN P gl T n (ix .end_of) [b.e, cse c] = some (.val (plc (pathOf (world b.F b.M c) b.t))) := by
  obtain ⟨m, rfl⟩ : ∃ m, n = m + 2 := ⟨n - 2, by omega⟩
  have hw := gone_ok (P := P) (gl := gl) (T := T) (ix := ix) (n := m) h (by omega) hT
  rw [run_of]
  refine run_Ret rfl ?_
  have hg : sIx [goneV (goneR b c), .int 1] = some (plc (pathOf (world b.F b.M c) b.t)) := by unfold goneV; rw [ix2, end_path]
  have hib : ∀ p, isBox (plc p) = false := fun _ => rfl
  simp [cd, c_end_of, evalR, evalF, hw, St.freeze, sem, hg, mark, freshE, freshB, fresh]
end
theorem plc_eq (p : List Int) : sEq [plc p, .tup []] = some (.bl p.isEmpty) := by
  unfold plc
  rw [sEq_nilT (plains_of fun x hx => by obtain ⟨y, _, rfl⟩ := List.mem_map.mp hx; rfl)]
  cases p <;> rfl
theorem cut_tailT (xs : List PV) : cutV (.tup xs) (some 1) none = some (.tup xs.tail) := by
  simp only [cutV, cut, slAt]
  cases xs with
  | nil => rfl
  | cons x r =>
    congr 2
    have : ((1 : Int) < 0) = False := by simp
    simp [this]
theorem plc_tl (d : Int) (p : List Int) : sSlL [plc (d :: p), .int 1] = some (plc p) := by
  show cutV (.tup ((d :: p).map .int)) (some 1) none = _
  rw [cut_tailT]; rfl
section
variable [Has P ix .grown]
theorem grown_ok (w : World) (r : Tree) : ∀ (t : Tree) (n : Nat), t.dp < n → callN P gl T n (ix .grown) [t.e, plc (pathOf w t), r.e] = some (.val (grow t (pathOf w t) r).e)
  | .nil, n + 1, _ => by
    rw [run_of]
    refine run_Ret rfl ?_
    simp [cd, c_grown, calms, calm, sem, plc_eq, pathOf, St.freeze, grow]
  | .node c o a b, n + 1, hn => by
    simp only [Tree.dp] at hn
    have ia := grown_ok w r a n (by omega)
    have ib := grown_ok w r b n (by omega)
    have hne : ∀ (d : Int) (p : List Int), sEq [plc (d :: p), .tup []] = some (.bl false) := fun d p => plc_eq _
    have h0 : ∀ (d : Int) (p : List Int), sIx [plc (d :: p), .int 0] = some (.int d) := fun d p => ix1 _ _
    rw [run_of]
    refine run_Ret rfl ?_
    rw [pathOf]
    cases hs : sat w c
    · simp [cd, c_grown, calms, calm, sem, hne, h0, plc_tl, Tree.e, St.freeze, ib, evalR, evalF, mark, freshE, grow]
    · simp [cd, c_grown, calms, calm, sem, hne, h0, plc_tl, Tree.e, St.freeze, ia, evalR, evalF, mark, freshE, grow]
end
section
variable [Has P ix .rules_of] [Has P ix .is_so] [Has P ix .world_of] [Has P ix .is_true] [Has P ix .gone] [Has P ix .end_of] [Has P ix .advice] [Has P ix .grown] [Has P ix .need_advice] [Has P ix .corrected]
theorem corrected_ok {b : Book} {F0 : Facts} {limit : Nat} (h : WB b F0 limit) (hl : limit ≤ 3) {c : List Val} (hc : TyC b.F c) {told : Txt} (ht : told ∈ b.A) {cond : Cond} (ho : okC (world b.F b.M c) cond) (hd : cond.dp < 3) (hs : sat (world b.F b.M c) cond = true) (hne : adv b c ≠ told) (hsz : b.t.sz < 30) (hp : (pathOf (world b.F b.M c) b.t).length < 12) (n : Nat) (hn : 16 ≤ n) (hT : 100 < T) :
    callN P gl T n (ix .corrected) [b.e, cse c, .str told, cond.e] = some (.val (corr b c told cond).e) := by
  obtain ⟨m, rfl⟩ : ∃ m, n = m + 2 := ⟨n - 2, by omega⟩
  have okb := h.okB (by omega) hc
  obtain ⟨s1, s2, s3, s4, s5, s6⟩ := h.small hl
  have e1 := need_ok (P := P) (gl := gl) (T := T) (ix := ix) ht m
  have e2 := is_true_ok (P := P) (gl := gl) (T := T) (ix := ix) okb ho hd (m + 1) (by omega)
  rw [hs] at e2
  have e3 := advice_ok (P := P) (gl := gl) (T := T) (ix := ix) (n := m) okb (by omega) hT
  obtain ⟨r4, e4, v4⟩ := rules_ok (P := P) (gl := gl) (T := T) (ix := ix) b.t (m + 1) (by omega) (by omega)
  have e5 := end_of_ok (P := P) (gl := gl) (T := T) (ix := ix) (n := m + 1) okb (by omega) hT
  have e6 := grown_ok (P := P) (gl := gl) (T := T) (ix := ix) (world b.F b.M c) (.node cond told .nil .nil) b.t (m + 1) (by omega)
  have hbe : b.e = .tup [fe b.F, me b.M, strE b.A, .str b.first, b.t.e] := rfl
  have hq : (adv b c == told) = false := by rw [beq_eq_false_iff_ne]; exact hne
  have hl1 : sLen [.lst ((rulesOf b.t).map rul1)] = some (.int b.t.sz) := by simp [sLen, rules_len]
  have hl2 : sLen [plc (pathOf (world b.F b.M c) b.t)] = some (.int (pathOf (world b.F b.M c) b.t).length) := by simp [sLen, plc]
  have hq1 : (((b.t.sz : Int)) == 30) = false := by rw [beq_eq_false_iff_ne]; omega
  have hq2 : ((((pathOf (world b.F b.M c) b.t).length : Int)) == 12) = false := by rw [beq_eq_false_iff_ne]; omega
  have hr : (Tree.node cond told .nil .nil).e = .tup [cond.e, .str told, .tup [], .tup []] := rfl
  rw [hr] at e6
  have hib : isBox (plc (pathOf (world b.F b.M c) b.t)) = false := rfl
  rw [run_of]
  refine run_Ret rfl ?_
  refine Ret_seq (fun s => s = ⟨[some (.val b.e), some (.val (cse c)), some (.val (.str told)), some (.val cond.e), some (.val (fe b.F)), some (.val (me b.M)), some (.val (strE b.A)), some (.val (.str b.first)), some (.val b.t.e), none], []⟩) (by simp [cd, c_corrected, hbe, St.freeze]) ?_
  rintro s rfl
  refine Ret_seq (fun s => s = ⟨[some (.val b.e), some (.val (cse c)), some (.val (.str told)), some (.val cond.e), some (.val (fe b.F)), some (.val (me b.M)), some (.val (strE b.A)), some (.val (.str b.first)), some (.val b.t.e), none], []⟩) (by simp [e1, St.freeze]) ?_
  rintro s rfl
  refine Ret_seq (fun s => s = ⟨[some (.val b.e), some (.val (cse c)), some (.val (.str told)), some (.val cond.e), some (.val (fe b.F)), some (.val (me b.M)), some (.val (strE b.A)), some (.val (.str b.first)), some (.val b.t.e), none], []⟩) (by simp [e2, St.freeze, sem]) ?_
  rintro s rfl
  refine Ret_seq (fun s => s = ⟨[some (.val b.e), some (.val (cse c)), some (.val (.str told)), some (.val cond.e), some (.val (fe b.F)), some (.val (me b.M)), some (.val (strE b.A)), some (.val (.str b.first)), some (.val b.t.e), none], []⟩) (by simp [e3, St.freeze, sem, calms, calm, hne]) ?_
  rintro s rfl
  refine Ret_seq (fun s => s = ⟨[some (.val b.e), some (.val (cse c)), some (.val (.str told)), some (.val cond.e), some (.val (fe b.F)), some (.val (me b.M)), some (.val (strE b.A)), some (.val (.str b.first)), some (.val b.t.e), none], []⟩) (by
    simp [e4, v4, St.freeze, sem, calms, calm, hl1, hq1]) ?_
  rintro s rfl
  refine Ret_seq (fun s => s = ⟨[some (.val b.e), some (.val (cse c)), some (.val (.str told)), some (.val cond.e), some (.val (fe b.F)), some (.val (me b.M)), some (.val (strE b.A)), some (.val (.str b.first)), some (.val b.t.e), some (.val (plc (pathOf (world b.F b.M c) b.t)))], []⟩) (by simp [e5, St.freeze]) ?_
  rintro s rfl
  refine Ret_seq (fun s => s = ⟨[some (.val b.e), some (.val (cse c)), some (.val (.str told)), some (.val cond.e), some (.val (fe b.F)), some (.val (me b.M)), some (.val (strE b.A)), some (.val (.str b.first)), some (.val b.t.e), some (.val (plc (pathOf (world b.F b.M c) b.t)))], []⟩) (by
    simp [St.freeze, sem, calms, calm, hl2, hq2]) ?_
  rintro s rfl
  simp [evalR, evalF, St.freeze, e6, mark, freshE]
  rfl
end
end R
end
section
set_option Elab.async false
set_option linter.all false
set_option autoImplicit false
set_option maxRecDepth 100000
set_option maxHeartbeats 1000000
namespace R
open Ev
variable {P : List Fn} {gl : List PV} {T : Nat} {ix : Nm → Nat}
section
variable [Has P ix .law_rules]
theorem law_rules_ok : ∀ (t : Tree) (n : Nat), t.dp < n → t.sz ≤ 1000 → callN P gl T n (ix .law_rules) [t.e] = some (.own (.lst ((rulesOf t).map rul1)))
  | .nil, n + 1, _, _ => by
    rw [run_of]
    refine run_Ret rfl ?_
    have h := tree_eq .nil
    simp only [Tree.e] at h
    simp [cd, c_law_rules, Tree.e, sem, calms, calm, St.freeze, rulesOf, evalR, evalF, mark, freshE, h]
  | .node c o a b, n + 1, hn, hs => by
    simp only [Tree.dp, Tree.sz] at hn hs
    have ea := law_rules_ok a n (by omega) (by omega)
    have eb := law_rules_ok b n (by omega) (by omega)
    have hTe : sEq [(Tree.node c o a b).e, .tup []] = some (.bl false) := tree_eq _
    have hpl : ∀ (z : Int) (t : Tree), t.sz ≤ 1000 → ∀ p ∈ rulesOf t, sAdd [.tup [.int z], plc p.1] = some (plc (z :: p.1)) := fun z t ht p hp => by
      have := place_len t p hp
      unfold plc
      rw [sAdd_T (by rw [List.length_map]; show 1 + p.1.length ≤ _; omega)]; rfl
    have hkm : ∀ l : List (List Int × Rule), kindM .append (.lst (l.map rul1)) = true := fun _ => rfl
    rw [run_of]
    refine run_Ret rfl ?_
    refine Ret_seq (fun s => s = ⟨[some (.val (Tree.node c o a b).e), none, none, none, none], []⟩) (by simp [cd, c_law_rules, sem, calms, calm, hTe]) ?_
    rintro s rfl
    refine Ret_seq (fun s => s = ⟨[some (.val (Tree.node c o a b).e), some (.own (.lst ((([([], (c, o, a, b))] : List (List Int × Rule))).map rul1))), none, none, none], []⟩) (by simp [evalF, mark, freshE, St.freeze, rul1, plc, Rule.t]) ?_
    rintro s rfl
    refine Ret_seq (fun s => ∃ x2 x3 x4, s = ⟨[some (.val (Tree.node c o a b).e), some (.own (.lst ((rulesOf (.node c o a b)).map rul1))), x2, x3, x4], []⟩) (Ret_mono (forr_Ret (e := fun p : Int × Tree => PV.int p.1) (xs := [(0, a), (1, b)]) (vs := [.int 2]) rfl rfl
      (fun pre s => ∃ x2 x3 x4, s = ⟨[some (.val (Tree.node c o a b).e), some (.own (.lst (((([], (c, o, a, b)) : List Int × Rule) :: pre.flatMap rkids).map rul1))), x2, x3, x4], []⟩) ⟨_, _, _, rfl⟩ ?_) ?_) ?_
    · rintro pre ⟨z, t⟩ post s hx ⟨x2, x3, x4, rfl⟩
      have hmem : (z, t) = (0, a) ∨ (z, t) = (1, b) := by
        have : (z, t) ∈ [((0 : Int), a), (1, b)] := by rw [hx]; simp
        simpa using this
      have et : callN P gl T n (ix .law_rules) [t.e] = some (.own (.lst ((rulesOf t).map rul1))) := by
        rcases hmem with h | h <;> cases h
        · exact ea
        · exact eb
      have htx : sIx [(Tree.node c o a b).e, .int (2 + z)] = some t.e := by
        rcases hmem with h | h <;> cases h
        · exact ix3 _ _ _ _
        · exact ix4 _ _ _ _ _
      have hts : t.sz ≤ 1000 := by rcases hmem with h | h <;> cases h <;> omega
      have hll : (pre.flatMap rkids).length + (rulesOf t).length ≤ 2000 := by
        have : ([((0 : Int), a), (1, b)].flatMap rkids).length = (pre.flatMap rkids).length + ((rkids (z, t)).length + (post.flatMap rkids).length) := by
          rw [hx]; simp only [List.flatMap_append, List.flatMap_cons, List.length_append]
        simp only [List.flatMap_cons, List.flatMap_nil, List.append_nil, List.length_append, rkids_len] at this
        rw [rules_len]; omega
      refine ⟨_, rfl, ?_⟩
      refine Ret_mono (Q1 := fun f s' => f = .nx ∧ ∃ x2 x3 x4, s' = ⟨[some (.val (Tree.node c o a b).e), some (.own (.lst ((((([], (c, o, a, b)) : List Int × Rule) :: pre.flatMap rkids) ++ (rulesOf t).map fun q => (z :: q.1, q.2)).map rul1))), x2, x3, x4], []⟩) ?_ ?_
      · rw [q_s]
        refine Ret_bind (forr_Ret (e := rul1) (xs := rulesOf t) (vs := [.lst ((rulesOf t).map rul1)]) (s1 := ⟨[some (.val (Tree.node c o a b).e), some (.own (.lst (((([], (c, o, a, b)) : List Int × Rule) :: pre.flatMap rkids).map rul1))), some (.val (.int z)), x3, x4], []⟩) (by simp [calms, calm, sem, htx, et]) rfl
          (fun q s => ∃ x3 x4, s = ⟨[some (.val (Tree.node c o a b).e), some (.own (.lst ((((([], (c, o, a, b)) : List Int × Rule) :: pre.flatMap rkids) ++ q.map fun q => (z :: q.1, q.2)).map rul1))), some (.val (.int z)), x3, x4], []⟩) ⟨_, _, by rw [List.map_nil, List.append_nil]⟩ ?_) ?_
        · rintro q p post' s' hx' ⟨y3, y4, rfl⟩
          have hp : p ∈ rulesOf t := by rw [hx']; simp
          have hql : q.length ≤ (rulesOf t).length := by rw [hx']; simp
          have hap : ∀ v, semMut .append (.lst ((((([], (c, o, a, b)) : List Int × Rule) :: pre.flatMap rkids) ++ q.map fun q => (z :: q.1, q.2)).map rul1)) [v] = some (.non, .lst ((((([], (c, o, a, b)) : List Int × Rule) :: pre.flatMap rkids) ++ q.map fun q => (z :: q.1, q.2)).map rul1 ++ [v])) := fun v => app_ok (by
            rw [List.length_map, List.length_append, List.length_map, List.length_cons]; omega)
          have hfin : (((([], (c, o, a, b)) : List Int × Rule) :: pre.flatMap rkids) ++ q.map fun q => (z :: q.1, q.2)).map rul1 ++ [PV.tup [plc (z :: p.1), (Rule.t p.2).e]] = (((([], (c, o, a, b)) : List Int × Rule) :: pre.flatMap rkids) ++ (q ++ [p]).map fun q => (z :: q.1, q.2)).map rul1 := by
            simp only [List.map_append, List.append_assoc]; rfl
          have hk := hkm (((([], (c, o, a, b)) : List Int × Rule) :: pre.flatMap rkids) ++ q.map fun q => (z :: q.1, q.2))
          generalize ((((([], (c, o, a, b)) : List Int × Rule) :: pre.flatMap rkids) ++ q.map fun q => (z :: q.1, q.2)).map rul1) = X at hap hfin hk
          refine ⟨_, rfl, ?_⟩
          rw [← hfin]
          simp [calms, calm, sem, hk, hap, hpl z t hts p hp, St.freeze]
        · rintro f s' ⟨rfl, y3, y4, rfl⟩
          rw [q_s0, Ret_ok]
          exact ⟨rfl, _, _, _, rfl⟩
      · rintro f s' ⟨rfl, y2, y3, y4, rfl⟩
        refine ⟨rfl, y2, y3, y4, ?_⟩
        rw [List.flatMap_append, List.flatMap_cons, List.flatMap_nil, List.append_nil]; rfl
    · rintro f s' ⟨rfl, y2, y3, y4, rfl⟩
      refine ⟨rfl, y2, y3, y4, ?_⟩
      simp only [rulesOf, List.flatMap_cons, List.flatMap_nil, List.append_nil, rkids]
    · rintro s ⟨x2, x3, x4, rfl⟩
      simp
end
theorem sub_ok {pool : Facts} {A : List Txt} : ∀ (t : Tree), treeOk pool A t → ∀ p ∈ rulesOf t, treeOk pool A (Rule.t p.2)
  | .nil, _, p, hp => by cases hp
  | .node c o a b, h, p, hp => by
    simp only [rulesOf, List.mem_cons, List.mem_append, List.mem_map] at hp
    rcases hp with rfl | ⟨q, hq, rfl⟩ | ⟨q, hq, rfl⟩
    · exact h
    · exact sub_ok a h.2.2.1 q hq
    · exact sub_ok b h.2.2.2 q hq
theorem grow_at {pool : Facts} {A : List Txt} {r : Tree} (hr : treeOk pool A r) : ∀ (t : Tree), treeOk pool A t → ∀ p ∈ rulesOf t, r.sz = (Rule.t p.2).sz → r.dp = (Rule.t p.2).dp → treeOk pool A (grow t p.1 r) ∧ (grow t p.1 r).sz = t.sz ∧ (grow t p.1 r).dp = t.dp
  | .nil, _, p, hp, _, _ => by cases hp
  | .node c o a b, h, p, hp, h1, h2 => by
    simp only [rulesOf, List.mem_cons, List.mem_append, List.mem_map] at hp
    rcases hp with rfl | ⟨q, hq, rfl⟩ | ⟨q, hq, rfl⟩
    · exact ⟨hr, h1, h2⟩
    · obtain ⟨i1, i2, i3⟩ := grow_at hr a h.2.2.1 q hq h1 h2
      simp only [grow, if_true, Tree.sz, Tree.dp, i2, i3]
      exact ⟨⟨h.1, h.2.1, i1, h.2.2.2⟩, trivial, trivial⟩
    · obtain ⟨i1, i2, i3⟩ := grow_at hr b h.2.2.2 q hq h1 h2
      simp only [grow, show ((1 : Int) = 0) = False from by simp, if_false, Tree.sz, Tree.dp, i2, i3]
      exact ⟨⟨h.1, h.2.1, h.2.2.1, i1⟩, trivial, trivial⟩
section
variable [Has P ix .law_put_rule]
theorem put_rule_ok (r : Tree) : ∀ (t : Tree) (n : Nat), t.dp < n → ∀ p ∈ rulesOf t, callN P gl T n (ix .law_put_rule) [t.e, plc p.1, r.e] = some (.val (grow t p.1 r).e)
  | .nil, _, _, p, hp => by cases hp
  | .node c o a b, n + 1, hn, p, hp => by
    simp only [Tree.dp] at hn
    simp only [rulesOf, List.mem_cons, List.mem_append, List.mem_map] at hp
    have hne : ∀ (d : Int) (p : List Int), sEq [plc (d :: p), .tup []] = some (.bl false) := fun d p => plc_eq _
    have h0 : ∀ (d : Int) (p : List Int), sIx [plc (d :: p), .int 0] = some (.int d) := fun d p => ix1 _ _
    rw [run_of]
    refine run_Ret rfl ?_
    rcases hp with rfl | ⟨q, hq, rfl⟩ | ⟨q, hq, rfl⟩
    · simp [cd, c_law_put_rule, calms, calm, sem, plc_eq, St.freeze, grow]
    · have ia := put_rule_ok r a n (by omega) q hq
      have k1 : sSlH [(Tree.node c o a b).e, .int 2] = some (.tup [c.e, .str o]) := rfl
      have k2 : sIx [(Tree.node c o a b).e, .int 2] = some a.e := ix3 _ _ _ _
      have k3 : sSlL [(Tree.node c o a b).e, .int 3] = some (.tup [b.e]) := rfl
      have k4 : sAdd [.tup [c.e, .str o], .tup [(grow a q.1 r).e]] = some (.tup [c.e, .str o, (grow a q.1 r).e]) := rfl
      have k5 : sAdd [.tup [c.e, .str o, (grow a q.1 r).e], .tup [b.e]] = some (.tup [c.e, .str o, (grow a q.1 r).e, b.e]) := rfl
      simp [cd, c_law_put_rule, calms, calm, sem, hne, h0, plc_tl, St.freeze, ia, k1, k2, k3, k4, k5, evalR, evalF, mark, freshE, freshB, fresh, grow, isBox]
      rfl
    · have ib := put_rule_ok r b n (by omega) q hq
      have k1 : sSlH [(Tree.node c o a b).e, .int 3] = some (.tup [c.e, .str o, a.e]) := rfl
      have k2 : sIx [(Tree.node c o a b).e, .int 3] = some b.e := ix4 _ _ _ _ _
      have k3 : sSlL [(Tree.node c o a b).e, .int 4] = some (.tup []) := rfl
      have k4 : sAdd [.tup [c.e, .str o, a.e], .tup [(grow b q.1 r).e]] = some (.tup [c.e, .str o, a.e, (grow b q.1 r).e]) := rfl
      have k5 : sAdd [.tup [c.e, .str o, a.e, (grow b q.1 r).e], .tup []] = some (.tup [c.e, .str o, a.e, (grow b q.1 r).e]) := rfl
      simp [cd, c_law_put_rule, calms, calm, sem, hne, h0, plc_tl, St.freeze, ib, k1, k2, k3, k4, k5, evalR, evalF, mark, freshE, freshB, fresh, grow, isBox]
      rfl
end
section
variable [Has P ix .law_leaf] [Has P ix .law_condition] [Has P ix .law_pool] [Has P ix .law_marks] [Has P ix .law_tree] [Has P ix .law_rules] [Has P ix .law_put_rule] [Has P ix .law_beside]
theorem beside_ok {b : Book} {limit : Nat} (h : Gen b limit) (hl : limit ≤ 8) {L : List Int} (hL : 300 ≤ L.length) (hn : Nn L) (n : Nat) (hfuel : 30 ≤ n) : ∃ g : Book, callN P gl T (n + 1) (ix .law_beside) [intE L, b.e] = some (.val g.e) ∧ Gen g limit ∧ g.F = b.F ∧ g.A = b.A := by
  obtain ⟨m, rfl⟩ : ∃ m, n = m + 1 := ⟨n - 1, by omega⟩
  have hFl := h.F.len
  have hMr : ∀ m ∈ b.M, m.rows.length ≤ 1000 := fun m hm => by have := (h.M.rows_len m hm).2; omega
  have hML := h.M.1
  have hp : poolNe (poolOf b.F b.M) := poolNe_of h.F.ne h.F.kd
  have ePool := pool_ok (P := P) (gl := gl) (T := T) (ix := ix) b.F b.M m (by omega) (by omega) hMr
  obtain ⟨qA, hqA, eA⟩ := h.A
  have hA1 : 0 < b.A.length ∧ b.A.length ≤ 4 := by rw [eA, List.length_take]; show 0 < min (1 + qA) 4 ∧ min (1 + qA) 4 ≤ 4; omega
  have i0 : sIx [intE L, .int 0] = some (.int (g L 0)) := ixI' (by omega) rfl
  have i1 : sIx [intE L, .int 1] = some (.int (g L 1)) := ixI' (by omega) rfl
  have i2 : sIx [intE L, .int 2] = some (.int (g L 2)) := ixI' (by omega) rfl
  have m5 : ∀ z : Int, sMod [.int z, .int 5] = some (.int (z % 5)) := fun z => smod_pos (by decide)
  have m7 : ∀ z : Int, sMod [.int z, .int 7] = some (.int (z % 7)) := fun z => smod_pos (by decide)
  have hsA : sLen [strE b.A] = some (.int b.A.length) := by simp [sLen, strE]
  have ma : ∀ z : Int, sMod [.int z, .int b.A.length] = some (.int (z % b.A.length)) := fun z => smod_pos (by omega)
  have iA : ∀ z : Int, ∃ t ∈ b.A, sIx [strE b.A, .int (z % b.A.length)] = some (.str t) := fun z => by
    obtain ⟨j, hj, ej⟩ := md_nat z b.A.length (by omega)
    refine ⟨b.A[j], List.getElem_mem hj, ?_⟩
    rw [ej]
    unfold strE; rw [ixT (by rw [List.length_map]; exact hj)]; simp
  have b0 : sIx [b.e, .int 0] = some (fe b.F) := ix1 _ _
  have b1 : sIx [b.e, .int 1] = some (me b.M) := ix2 _ _ _
  have b2 : sIx [b.e, .int 2] = some (strE b.A) := ix3 _ _ _ _
  have b3 : sIx [b.e, .int 3] = some (.str b.first) := ix4 _ _ _ _ _
  have b4 : sIx [b.e, .int 4] = some b.t.e := ix5 _ _ _ _ _ _
  have l10 : sSlL [intE L, .int 10] = some (intE (L.drop 10)) := slL_I L 10
  have l140 : sSlL [intE L, .int 140] = some (intE (L.drop 140)) := slL_I L 140
  have bh4 : sSlH [b.e, .int 4] = some (.tup [fe b.F, me b.M, strE b.A, .str b.first]) := rfl
  have bh3 : sSlH [b.e, .int 3] = some (.tup [fe b.F, me b.M, strE b.A]) := rfl
  have ad4 : ∀ t : Tree, sAdd [.tup [fe b.F, me b.M, strE b.A, .str b.first], .tup [t.e]] = some (Book.e { b with t := t }) := fun _ => rfl
  have ad3 : ∀ f : Txt, sAdd [.tup [fe b.F, me b.M, strE b.A], .tup [.str f, b.t.e]] = some (Book.e { b with first := f }) := fun _ => rfl
  have hib : ∀ x : Book, isBox x.e = false := fun _ => rfl
  obtain ⟨t7, ht7, et7⟩ := md_nat (g L 1) 7 (by decide)
  have et7' : g L 1 % 7 = (t7 : Int) := et7
  obtain ⟨how, hhow, ehow⟩ := md_nat (g L 0) 5 (by decide)
  have ehow' : g L 0 % 5 = (how : Int) := ehow
  rw [run_of]
  have hAne : b.A ≠ [] := fun e => by rw [e] at hA1; simp at hA1
  have hcase : how = 0 ∨ how = 1 ∨ how = 2 ∨ how = 3 ∨ how = 4 := by omega
  rcases hcase with rfl | rfl | rfl | rfl | rfl
  · exact ⟨b, by refine run_Ret rfl ?_; simp [cd, c_law_beside, calms, calm, sem, i0, m5, ehow', evalF, mark, freshE, freshB, fresh, St.freeze], h, rfl, rfl⟩
  · obtain ⟨t, eT, kT, sT⟩ := tree_ok (P := P) (gl := gl) (T := T) (ix := ix) hp hAne (by omega) t7 (L.drop 10) (m + 1) (by omega) (by rw [List.length_drop]; omega) (drop_nn hn _) (by omega)
    refine ⟨{ b with t := t }, ?_, ⟨h.F, h.M, h.A, h.first, kT, by have := Tree.dp_sz t; exact ⟨by show t.sz ≤ 30; omega, by show t.dp ≤ 12; omega⟩⟩, rfl, rfl⟩
    refine run_Ret rfl ?_
    simp [cd, c_law_beside, calms, calm, sem, i0, i1, m5, m7, ehow', et7', b0, b1, b2, l10, bh4, ad4, ePool, eT, hib, evalR, evalF, mark, freshE, freshB, fresh, St.freeze]
  · obtain ⟨M, eM, kM⟩ := marks_ok (P := P) (gl := gl) (T := T) (ix := ix) (L := L.drop 10) (F := b.F) (n := m) (by omega) h.F.ne h.F.kd (by rw [List.length_drop]; omega) (drop_nn hn _) (by omega)
    have hMr2 : ∀ m ∈ M, m.rows.length ≤ 1000 := fun m hm => by have := (kM.rows_len m hm).2; omega
    have hML2 := kM.1
    have ePool2 := pool_ok (P := P) (gl := gl) (T := T) (ix := ix) b.F M m (by omega) (by omega) hMr2
    have hp2 : poolNe (poolOf b.F M) := poolNe_of h.F.ne h.F.kd
    obtain ⟨t, eT, kT, sT⟩ := tree_ok (P := P) (gl := gl) (T := T) (ix := ix) hp2 hAne (by omega) t7 (L.drop 140) (m + 1) (by omega) (by rw [List.length_drop]; omega) (drop_nn hn _) (by omega)
    refine ⟨⟨b.F, M, b.A, b.first, t⟩, ?_, ⟨h.F, kM, h.A, h.first, kT, by have := Tree.dp_sz t; exact ⟨by show t.sz ≤ 30; omega, by show t.dp ≤ 12; omega⟩⟩, rfl, rfl⟩
    refine run_Ret rfl ?_
    simp [cd, c_law_beside, calms, calm, sem, i0, i1, m5, m7, ehow', et7', b0, b1, b2, b3, l10, l140, ePool, ePool2, eM, eT, evalR, evalF, mark, freshE, freshB, fresh, isBox, St.freeze, Book.e]
  · obtain ⟨f, hf, ef⟩ := iA (g L 1)
    refine ⟨{ b with first := f }, ?_, ⟨h.F, h.M, h.A, hf, h.t, h.sz⟩, rfl, rfl⟩
    refine run_Ret rfl ?_
    simp [cd, c_law_beside, calms, calm, sem, i0, i1, m5, ehow', b0, b1, b2, b4, bh3, ad3, hsA, ma, ef, ePool, hib, evalR, evalF, mark, freshE, freshB, fresh, St.freeze]
  · by_cases hnil : b.t = .nil
    · obtain ⟨f, hf, ef⟩ := iA (g L 1)
      have hte : sEq [b.t.e, .tup []] = some (.bl true) := by rw [hnil]; exact tree_eq .nil
      refine ⟨{ b with first := f }, ?_, ⟨h.F, h.M, h.A, hf, h.t, h.sz⟩, rfl, rfl⟩
      refine run_Ret rfl ?_
      simp [cd, c_law_beside, calms, calm, sem, i0, i1, m5, ehow', b0, b1, b2, b4, bh3, ad3, hsA, ma, ef, ePool, hib, hte, evalR, evalF, mark, freshE, freshB, fresh, St.freeze]
    · have hte : sEq [b.t.e, .tup []] = some (.bl false) := by
        rw [tree_eq]
        cases e : b.t with
        | nil => exact absurd e hnil
        | node _ _ _ _ => rfl
      have hsz := h.sz
      have eR := law_rules_ok (P := P) (gl := gl) (T := T) (ix := ix) b.t (m + 1) (by omega) (by omega)
      have hpos : 0 < (rulesOf b.t).length := by
        rw [rules_len]
        cases e : b.t with
        | nil => exact absurd e hnil
        | node _ _ _ _ => simp [Tree.sz]
      have hRl : sLen [.lst ((rulesOf b.t).map rul1)] = some (.int (rulesOf b.t).length) := by simp [sLen]
      have mr : ∀ z : Int, sMod [.int z, .int (rulesOf b.t).length] = some (.int (z % (rulesOf b.t).length)) := fun z => smod_pos (by omega)
      obtain ⟨j, hj, ej⟩ := md_nat (g L 1) (rulesOf b.t).length hpos
      have iR : sIx [.lst ((rulesOf b.t).map rul1), .int (j : Int)] = some (rul1 (rulesOf b.t)[j]) := by
        rw [ixL (by rw [List.length_map]; exact hj)]; simp
      have hpm : (rulesOf b.t)[j] ∈ rulesOf b.t := List.getElem_mem hj
      generalize (rulesOf b.t)[j] = p at iR hpm
      obtain ⟨pl, rc, ro, ra, rb⟩ := p
      have hsub := sub_ok b.t h.t _ hpm
      obtain ⟨c, ec, k1, k2, k3⟩ := cond_ok (P := P) (gl := gl) (T := T) (ix := ix) hp 3 (L.drop 10) (m + 1) (by omega) (by rw [List.length_drop]; omega) (drop_nn hn _) (by omega)
      have ec' : callN P gl T (m + 1) (ix .law_condition) [intE (L.drop 10), .lst ((poolOf b.F b.M).map fact1), .int 3] = some (.val c.e) := ec
      obtain ⟨o, ho, eo⟩ := iA (g L 2)
      have hr : treeOk (poolOf b.F b.M) b.A (.node c o ra rb) := ⟨⟨k1, k2, by omega⟩, ho, hsub.2.2.1, hsub.2.2.2⟩
      obtain ⟨g1, g2, g3⟩ := grow_at hr b.t h.t _ hpm rfl rfl
      have eP := put_rule_ok (P := P) (gl := gl) (T := T) (ix := ix) (.node c o ra rb) b.t (m + 1) (by omega) _ hpm
      have hre : (Tree.node c o ra rb).e = .tup [c.e, .str o, ra.e, rb.e] := rfl
      rw [hre] at eP
      have hr1 : rul1 (pl, rc, ro, ra, rb) = .tup [plc pl, .tup [rc.e, .str ro, ra.e, rb.e]] := rfl
      refine ⟨{ b with t := grow b.t pl (.node c o ra rb) }, ?_, ⟨h.F, h.M, h.A, h.first, g1, by rw [g2, g3]; exact h.sz⟩, rfl, rfl⟩
      refine run_Ret rfl ?_
      simp [cd, c_law_beside, calms, calm, sem, i0, i1, i2, m5, ehow', b0, b1, b2, b4, bh4, ad4, hsA, ma, eo, ePool, hib, hte, eR, hRl, mr, ej, iR, hr1, l10, ec', eP, evalR, evalF, mark, freshE, freshB, fresh, St.freeze]
end
end R
end
section
set_option Elab.async false
set_option linter.all false
set_option autoImplicit false
set_option maxRecDepth 100000
set_option maxHeartbeats 2000000
/-! law k38 -/
namespace Ev
/-- a for loop that may be left by break -/
theorem for_RetB {α : Type} {body : PV → St → Out Fl} {e : α → PV} {xs : List α} {s : St} (S : List α → St → Prop) (B : St → Prop) (h : S [] s) (k : ∀ (pre : List α) (x : α) (post : List α) (s : St), xs = pre ++ x :: post → S pre s → Ret (body (e x) s) fun f s' => (f = .nx ∧ S (pre ++ [x]) s') ∨ (f = .brk ∧ B s')) : Ret (forL body (xs.map e) s) fun f s' => f = .nx ∧ (S xs s' ∨ B s') := by
  have key : ∀ (post pre : List α) (s : St), xs = pre ++ post → S pre s → Ret (forL body (post.map e) s) fun f s' => f = .nx ∧ (S xs s' ∨ B s') := by
    intro post
    induction post with
    | nil => intro pre s hx h; rw [List.append_nil] at hx; subst hx; exact ⟨_, _, rfl, rfl, .inl h⟩
    | cons x post ih =>
      intro pre s hx h
      obtain ⟨f, s1, e1, h1⟩ := k pre x post s hx h
      rw [List.map_cons, q_fs, e1]
      rcases h1 with ⟨rfl, h1⟩ | ⟨rfl, h1⟩
      · exact ih (pre ++ [x]) s1 (by rw [hx, List.append_assoc]; rfl) h1
      · exact ⟨_, _, rfl, rfl, .inr h1⟩
  exact key xs [] s rfl h
theorem forr_RetB {Γ : Cx} {tg : TG} {sk : SK} {src : List CE} {b : List CS} {s : St} {α : Type} {e : α → PV} {xs : List α} {vs : List PV} {s1 : St} (hv : evalVs Γ src s = .ok vs s1) (hi : items sk vs = some (xs.map e)) (S : List α → St → Prop) (B : St → Prop) (h : S [] s1)
    (k : ∀ (pre : List α) (x : α) (post : List α) (s : St), xs = pre ++ x :: post → S pre s → ∃ s3, bindT tg (e x) s = some s3 ∧ Ret (execs Γ b s3) fun f s' => (f = .nx ∧ S (pre ++ [x]) s') ∨ (f = .brk ∧ B s')) : Ret (exec Γ (.forr tg sk src b) s) fun f s' => f = .nx ∧ (S xs s' ∨ B s') := by
  rw [q_for, hv, Out.bind_ok, hi, Out.ofOpt_some, Out.bind_ok]
  refine for_RetB S B h ?_
  intro pre x post s hx hS
  obtain ⟨s3, e3, h3⟩ := k pre x post s hx hS
  rw [e3, Out.ofOpt_some, Out.bind_ok]
  exact h3
theorem sneB (a b : Bool) : sNe [.bl a, .bl b] = some (.bl !(a == b)) := by simp [sNe, eqOk, plain, depth, eqv]
end Ev
namespace R
open Ev
variable {P : List Fn} {gl : List PV} {T : Nat} {ix : Nm → Nat}
def isYes : Cond → Bool
  | .yes => true
  | _ => false
theorem eq_yes (c : Cond) : sEq [c.e, .tup [.str [121, 101, 115]]] = some (.bl (isYes c)) := by
  have h : eqOk c.e (.tup [.str [121, 101, 115]]) = true := by
    have := plain_cond c
    simp [eqOk, this, plain, plains, depth, depths]
    omega
  simp only [sEq, h, if_true]
  cases c <;> simp [Cond.e, eqv, eqvs, isYes]
theorem addC_ne {c one : Cond} (h : isYes c = false) : addC c one = .an c one := by cases c <;> first | (simp [isYes] at h; done) | rfl
theorem addC_yes (one : Cond) : addC .yes one = one := rfl
/-- a case's condition is one of the generator's -/
theorem leaf_ok' {F : Facts} {M : List Mk} {p : Txt × Kind} (hp : p ∈ F) (hk : okKind p.2) {v : Val} (hv : v ∈ valsOf p.2) : condOk (poolOf F M) (leafOf (p, v)) ∧ (leafOf (p, v)).dp = 0 ∧ (leafOf (p, v)).lv = 1 ∧ isYes (leafOf (p, v)) = false := by
  obtain ⟨n, k⟩ := p
  cases k with
  | ch vs =>
    obtain ⟨t, ht, rfl⟩ := List.mem_map.mp (show v ∈ vs.map Val.s from hv)
    exact ⟨⟨vs, List.mem_append_left _ hp, ht⟩, rfl, rfl, rfl⟩
  | nu lo hi =>
    obtain ⟨z, rfl, h1, h2⟩ := mem_rangeI.mp (show v ∈ rangeI lo hi from hv)
    obtain ⟨k1, k2, k3, k4⟩ := hk
    exact ⟨⟨lo, hi, List.mem_append_left _ hp, by omega, by omega, by omega, by omega⟩, rfl, rfl, rfl⟩
theorem pin_ok {F : Facts} {M : List Mk} (hF : ∀ p ∈ F, okKind p.2) (hl : F.length ≤ 2) {c : List Val} (hc : CaseOf F c) : condOk (poolOf F M) (pin F c) ∧ (pin F c).dp < 3 ∧ (pin F c).lv ≤ 2 := by
  cases hc with
  | nil => exact ⟨trivial, by decide, by decide⟩
  | @cons p v F c hv t =>
    obtain ⟨a1, a2, a3, a4⟩ := leaf_ok' (F := p :: F) (M := M) List.mem_cons_self (hF p List.mem_cons_self) hv
    cases t with
    | nil => exact ⟨a1, by show (leafOf (p, v)).dp < 3; omega, by show (leafOf (p, v)).lv ≤ 2; omega⟩
    | @cons q w F c hw t =>
      obtain ⟨b1, b2, b3, b4⟩ := leaf_ok' (F := p :: q :: F) (M := M) (by simp) (hF q (by simp)) hw
      cases t with
      | nil =>
        have e : pin [p, q] [v, w] = .an (leafOf (p, v)) (leafOf (q, w)) := by
          show addC (addC .yes (leafOf (p, v))) (leafOf (q, w)) = _
          rw [addC_yes, addC_ne a4]
        rw [e]
        exact ⟨⟨a1, b1⟩, by show max _ _ + 1 < 3; omega, by show _ + _ ≤ 2; omega⟩
      | cons _ _ => simp only [List.length_cons] at hl; omega
def Y (a0 a1 a2 a3 a4 a5 a6 a7 a8 a9 a10 a11 a12 a13 : Option SV) : St := ⟨[a0, a1, a2, a3, a4, a5, a6, a7, a8, a9, a10, a11, a12, a13], []⟩
def L38cond : List CS := [(.asgO 12 (.tup [(.lit (.str [105, 115])), (.var 10), (.bi .ix [(.var 7), (.var 9)])])), (.ife (.bi .eq [(.bi .ix [(.var 11), (.lit (.int (0)))]), (.lit (.str [110, 117, 109, 98, 101, 114]))]) [(.asgO 12 (.tup [(.lit (.str [102, 114, 111, 109])), (.var 10), (.bi .ix [(.var 7), (.var 9)]), (.bi .ix [(.var 7), (.var 9)])]))] []), (.asgO 8 (.ife (.bi .eq [(.var 8), (.tup [(.lit (.str [121, 101, 115]))])]) (.var 12) (.tup [(.lit (.str [97, 110, 100])), (.var 8), (.var 12)])))]
def lfAt (c : List Val) (q : Nat × (Txt × Kind)) : Cond := leafOf (q.2, c.getD q.1 (.i 0))
theorem lf_all {F : Facts} {c : List Val} (h : c.length = F.length) : ((List.range F.length).zip F).map (lfAt c) = (F.zip c).map leafOf := by
  apply List.ext_getElem
  · simp; omega
  · intro i h1 h2
    simp only [List.length_map, List.length_zip, List.length_range] at h1 h2
    simp only [List.getElem_map, List.getElem_zip, List.getElem_range, lfAt]
    rw [List.getD_eq_getElem?_getD, List.getElem?_eq_getElem (by omega)]; rfl
theorem cond_turn {Γ : Cx} {c : List Val} {k : Nat} {p : Txt × Kind} (hk : k < c.length) (hty : tyV p c[k]) {cond : Cond} {x0 x1 x2 x3 x4 x5 x6 x9 x10 x11 x12 x13 : Option SV} :
    ∃ s3, bindT (.tp [.nm 9, .tp [.nm 10, .nm 11]]) (.tup [.int (k : Int), fact1 p]) (Y x0 x1 x2 x3 x4 x5 x6 (some (.val (cse c))) (some (.val cond.e)) x9 x10 x11 x12 x13) = some s3 ∧ Ret (execs Γ L38cond s3) fun f s' => f = .nx ∧ ∃ y9 y10 y11 y12, s' = Y x0 x1 x2 x3 x4 x5 x6 (some (.val (cse c))) (some (.val (addC cond (lfAt c (k, p))).e)) y9 y10 y11 y12 x13 := by
  have hix : sIx [cse c, .int (k : Int)] = some c[k].e := by
    unfold cse; rw [ixT (by rw [List.length_map]; exact hk)]; simp
  have hlf : lfAt c (k, p) = leafOf (p, c[k]) := by
    unfold lfAt
    rw [List.getD_eq_getElem?_getD, List.getElem?_eq_getElem hk]; rfl
  rw [hlf]
  generalize c[k] = v at hix hty
  refine ⟨_, rfl, ?_⟩
  have hy := eq_yes cond
  obtain ⟨n, kd⟩ := p
  have fin : ∀ one : Cond, (if isYes cond = true then one.e else PV.tup [.str [97, 110, 100], cond.e, one.e]) = (addC cond one).e := fun one => by
    cases h : isYes cond
    · rw [addC_ne h]; rfl
    · cases cond <;> first | (simp [isYes] at h; done) | rfl
  cases kd with
  | ch vs =>
    cases v with
    | i z => exact absurd hty id
    | s t =>
      have hone : PV.tup [.str [105, 115], .str n, (Val.s t).e] = (Cond.is n t).e := rfl
      have hf := fin (.is n t)
      cases hh : isYes cond <;> rw [hh] at hy hf <;> simp only [Bool.false_eq_true, if_false, if_true] at hf <;> simp [Y, L38cond, evalF, mark, freshE, calms, calm, sem, hix, hone, hy, Kind.e, St.freeze, leafOf] <;> rw [← hf]
  | nu lo hi =>
    cases v with
    | s t => exact absurd hty id
    | i z =>
      have hone : PV.tup [.str [102, 114, 111, 109], .str n, (Val.i z).e, (Val.i z).e] = (Cond.frm n z z).e := rfl
      have hf := fin (.frm n z z)
      cases hh : isYes cond <;> rw [hh] at hy hf <;> simp only [Bool.false_eq_true, if_false, if_true] at hf <;> simp [Y, L38cond, evalF, mark, freshE, calms, calm, sem, hix, hone, hy, Kind.e, St.freeze, leafOf] <;> rw [← hf]
end R
end
section
set_option Elab.async false
set_option linter.all false
set_option autoImplicit false
set_option maxRecDepth 100000
set_option maxHeartbeats 2000000
namespace R
open Ev
variable {P : List Fn} {gl : List PV} {T : Nat} {ix : Nm → Nat}
theorem CaseOf.len {F : Facts} {c : List Val} (h : CaseOf F c) : c.length = F.length := (All2.len h).symm
theorem corr_F (b : Book) (c : List Val) (told : Txt) (cond : Cond) : (corr b c told cond).F = b.F ∧ (corr b c told cond).A = b.A ∧ (corr b c told cond).M = b.M := ⟨rfl, rfl, rfl⟩
/-- a book to be taught, and the goal -/
structure J38 (b g : Book) : Prop where
  jb : Gen b 2
  jg : Gen g 2
  jF : g.F = b.F
  jA : g.A = b.A
theorem J38.two {b g : Book} (h : J38 b g) : Two b g b.F 2 := ⟨h.jb.wb, by have := h.jg.wb; rw [h.jF] at this; exact this, h.jF, by omega⟩
theorem J38.step {b g : Book} (h : J38 b g) {c : List Val} (hc : CaseOf b.F c) (hne : adv b c ≠ adv g c) (hs : b.t.sz < 30) (hp : (pathOf (world b.F b.M c) b.t).length < 12) :
    J38 (corr b c (adv g c) (pin b.F c)) g ∧ Two b (corr b c (adv g c) (pin b.F c)) b.F 2 ∧ apartM b (corr b c (adv g c) (pin b.F c)) = 1 ∧ apartM (corr b c (adv g c) (pin b.F c)) g = apartM b g - 1 ∧ adv (corr b c (adv g c) (pin b.F c)) c = adv g c := by
  have hpin := pin_ok (M := b.M) h.jb.F.kd h.jb.F.len hc
  have hA : adv g c ∈ b.A := by rw [← h.jA]; exact adv_inA h.jg.wb c
  have hgen := corr_gen (c := c) h.jb hpin hA hs hp
  have hj : J38 (corr b c (adv g c) (pin b.F c)) g := ⟨hgen, h.jg, h.jF, h.jA⟩
  have ha : ∀ x, CaseOf b.F x → adv (corr b c (adv g c) (pin b.F c)) x = if x = c then adv g c else adv b x := fun x hx => adv_pin h.jb hc.ty (adv g c) hx.ty
  have ht : Two b (corr b c (adv g c) (pin b.F c)) b.F 2 := ⟨h.jb.wb, hgen.wb, rfl, by omega⟩
  refine ⟨hj, ht, ?_, ?_, ?_⟩
  · rw [apartM_dist (b := corr b c (adv g c) (pin b.F c)) h.jb.wb rfl]
    exact dist_one h.jb.wb hc hne ha
  · rw [apartM_dist hgen.wb h.jF, apartM_dist h.jb.wb h.jF]
    exact dist_less h.jb.wb rfl hc hne rfl ha
  · rw [ha c hc, if_pos rfl]
section
variable [Has P ix .rules_of] [Has P ix .conditions_of] [Has P ix .parts_within] [Has P ix .cuts_in] [Has P ix .stretches] [Has P ix .cells_by]
  [Has P ix .first_of] [Has P ix .case_of] [Has P ix .ways_in] [Has P ix .picks_of] [Has P ix .is_so] [Has P ix .world_of] [Has P ix .gone] [Has P ix .advice] [Has P ix .need_advice]
  [Has P ix .size_of] [Has P ix .many_in] [Has P ix .empty_sketch] [Has P ix .unlike_picks] [Has P ix .apart] [Has P ix .apart_many] [Has P ix .is_true] [Has P ix .end_of] [Has P ix .grown] [Has P ix .corrected] [Has P ix .changed_many]
  [Has P ix .law_leaf] [Has P ix .law_condition] [Has P ix .law_pool] [Has P ix .law_marks] [Has P ix .law_kind] [Has P ix .law_facts] [Has P ix .law_tree] [Has P ix .law_book] [Has P ix .law_draws] [Has P ix .law_cell_at] [Has P ix .law_rules] [Has P ix .law_put_rule] [Has P ix .law_beside]
def L38turn (ix : Nm → Nat) : List CS := [(.asgO 7 (.call (ix .apart) [(.var 3), (.var 4)])), (.ife (.bi .isN [(.var 7), (.lit .non)]) [.brk] []), (.asgO 8 (.tup [(.lit (.str [121, 101, 115]))])), (.forr (.tp [(.nm 9), (.tp [(.nm 10), (.nm 11)])]) .enum [(.bi .ix [(.var 3), (.lit (.int (0)))])] L38cond), (.ife (.or (.bi .eq [(.bi .len [(.call (ix .law_rules) [(.bi .ix [(.var 3), (.lit (.int (4)))])])]), (.lit (.int (30)))]) (.bi .eq [(.bi .len [(.call (ix .end_of) [(.var 3), (.var 7)])]), (.lit (.int (12)))])) [.brk] []), (.asgO 13 (.call (ix .changed_many) [(.var 3), (.var 7), (.call (ix .advice) [(.var 4), (.var 7)]), (.var 8)])), (.asgO 3 (.call (ix .corrected) [(.var 3), (.var 7), (.call (ix .advice) [(.var 4), (.var 7)]), (.var 8)])), (.ife (.or (.bi .ne [(.var 13), (.lit (.int (1)))]) (.or (.bi .ne [(.call (ix .apart_many) [(.var 3), (.var 4)]), (.bi .sub [(.var 5), (.var 13)])]) (.bi .ne [(.call (ix .advice) [(.var 3), (.var 7)]), (.call (ix .advice) [(.var 4), (.var 7)])]))) [(.ret (.lit (.bl false)))] []), (.asgO 5 (.bi .sub [(.var 5), (.var 13)]))]
def J38S (ns : List Int) (cell : Int) (x2 : Option SV) (g : Book) (s : St) : Prop := ∃ (b : Book) (x6 x7 x8 x9 x10 x11 x12 x13 : Option SV), J38 b g ∧ s = Y (some (.val (intE ns))) (some (.val (.int cell))) x2 (some (.val b.e)) (some (.val g.e)) (some (.val (.int (apartM b g)))) x6 x7 x8 x9 x10 x11 x12 x13
theorem turn38 {ns : List Int} {cell : Int} {x2 : Option SV} {g : Book} {n : Nat} (hn : 24 ≤ n) (hT : 100 < T) {k : Nat} {s : St} (h : J38S ns cell x2 g s) :
    ∃ s3, bindT (.nm 6) (.int (k : Int)) s = some s3 ∧ Ret (execs ⟨callN P gl T n, fun j => gl[j]?, T⟩ (L38turn ix) s3) fun f s' => (f = .nx ∧ J38S ns cell x2 g s') ∨ (f = .brk ∧ J38S ns cell x2 g s') := by
  obtain ⟨b, x6, x7, x8, x9, x10, x11, x12, x13, hJ, rfl⟩ := h
  obtain ⟨m, rfl⟩ : ∃ m, n = m + 1 := ⟨n - 1, by omega⟩
  have e1 := apart_ok (P := P) (gl := gl) (T := T) (ix := ix) hJ.two (m + 1) (by omega) hT
  refine ⟨_, rfl, ?_⟩
  refine Ret_seq (fun s => s = Y (some (.val (intE ns))) (some (.val (.int cell))) x2 (some (.val b.e)) (some (.val g.e)) (some (.val (.int (apartM b g)))) (some (.val (.int (k : Int)))) (some (.val (caseO (apartC b g)))) x8 x9 x10 x11 x12 x13) (by simp only [Y]; simp [e1, St.freeze]) ?_
  rintro s rfl
  cases hA : apartC b g with
  | none =>
    refine Ret_mono (Q1 := fun f s' => f = .brk ∧ s' = Y (some (.val (intE ns))) (some (.val (.int cell))) x2 (some (.val b.e)) (some (.val g.e)) (some (.val (.int (apartM b g)))) (some (.val (.int (k : Int)))) (some (.val .non)) x8 x9 x10 x11 x12 x13) (by simp only [Y]; simp [calms, calm, sem, sIsN, caseO]) ?_
    rintro f s' ⟨rfl, rfl⟩
    exact .inr ⟨rfl, b, _, _, _, _, _, _, _, _, hJ, rfl⟩
  | some c =>
    obtain ⟨hc, hne⟩ := apartC_some hJ.jb.wb hA
    have hsm := hJ.jb.wb.small (by omega)
    obtain ⟨s1, s2, s3, s4, s5, s6⟩ := hsm
    have okb := hJ.jb.wb.okB (by omega) hc.ty
    have okg := hJ.jg.wb.okB (by omega) (by rw [hJ.jF]; exact hc.ty)
    have eg : callN P gl T (m + 1) (ix .advice) [g.e, cse c] = some (.val (.str (adv g c))) := advice_ok (n := m) okg (by omega) hT
    have eE := end_of_ok (P := P) (gl := gl) (T := T) (ix := ix) (n := m + 1) okb (by omega) hT
    have eR := law_rules_ok (P := P) (gl := gl) (T := T) (ix := ix) b.t (m + 1) (by omega) (by omega)
    have hR1 : sLen [.lst ((rulesOf b.t).map rul1)] = some (.int b.t.sz) := by simp [sLen, rules_len]
    have hE1 : sLen [plc (pathOf (world b.F b.M c) b.t)] = some (.int (pathOf (world b.F b.M c) b.t).length) := by simp [sLen, plc]
    have b0 : sIx [b.e, .int 0] = some (fe b.F) := ix1 _ _
    have b4 : sIx [b.e, .int 4] = some b.t.e := ix5 _ _ _ _ _ _
    simp only [caseO]
    refine Ret_seq (fun s => s = Y (some (.val (intE ns))) (some (.val (.int cell))) x2 (some (.val b.e)) (some (.val g.e)) (some (.val (.int (apartM b g)))) (some (.val (.int (k : Int)))) (some (.val (cse c))) x8 x9 x10 x11 x12 x13) (by simp only [Y]; simp [calms, calm, sem, sIsN, cse]) ?_
    rintro s rfl
    refine Ret_seq (fun s => s = Y (some (.val (intE ns))) (some (.val (.int cell))) x2 (some (.val b.e)) (some (.val g.e)) (some (.val (.int (apartM b g)))) (some (.val (.int (k : Int)))) (some (.val (cse c))) (some (.val Cond.yes.e)) x9 x10 x11 x12 x13) (by simp only [Y]; simp [evalF, mark, freshE, Cond.e]) ?_
    rintro s rfl
    have hcl := hc.len
    refine Ret_seq (fun s => ∃ y9 y10 y11 y12, s = Y (some (.val (intE ns))) (some (.val (.int cell))) x2 (some (.val b.e)) (some (.val g.e)) (some (.val (.int (apartM b g)))) (some (.val (.int (k : Int)))) (some (.val (cse c))) (some (.val (pin b.F c).e)) y9 y10 y11 y12 x13)
      (Ret_mono (forr_Ret (e := fun p : Nat × (Txt × Kind) => PV.tup [.int (p.1 : Int), fact1 p.2]) (xs := (List.range b.F.length).zip b.F) (vs := [fe b.F]) (s1 := Y (some (.val (intE ns))) (some (.val (.int cell))) x2 (some (.val b.e)) (some (.val g.e)) (some (.val (.int (apartM b g)))) (some (.val (.int (k : Int)))) (some (.val (cse c))) (some (.val Cond.yes.e)) x9 x10 x11 x12 x13) (by simp only [Y]; simp [calms, calm, sem, b0]) (enum_facts b.F)
        (fun pre s => ∃ y9 y10 y11 y12, s = Y (some (.val (intE ns))) (some (.val (.int cell))) x2 (some (.val b.e)) (some (.val g.e)) (some (.val (.int (apartM b g)))) (some (.val (.int (k : Int)))) (some (.val (cse c))) (some (.val ((pre.map (lfAt c)).foldl addC .yes).e)) y9 y10 y11 y12 x13) ⟨_, _, _, _, rfl⟩ ?_) ?_) ?_
    · rintro pre ⟨j, p⟩ post s hx ⟨y9, y10, y11, y12, rfl⟩
      have hm : (j, p) ∈ (List.range b.F.length).zip b.F := by rw [hx]; simp
      have hj := List.mem_range.mp (List.of_mem_zip hm).1
      have hp : b.F[j] = p := by
        obtain ⟨i, hi, e⟩ := List.mem_iff_getElem.mp hm
        rw [List.getElem_zip] at e
        obtain ⟨e1, e2⟩ := Prod.mk.inj e
        rw [List.getElem_range] at e1
        subst e1; exact e2
      have hty : tyV p (c[j]'(by omega)) := by
        have := All2.at hc.ty hj (by omega)
        rw [hp] at this; exact this
      obtain ⟨s3, e3, h3⟩ := cond_turn (Γ := ⟨callN P gl T (m + 1), fun j => gl[j]?, T⟩) (x0 := some (.val (intE ns))) (x1 := some (.val (.int cell))) (x2 := x2) (x3 := some (.val b.e)) (x4 := some (.val g.e)) (x5 := some (.val (.int (apartM b g)))) (x6 := some (.val (.int (k : Int)))) (x9 := y9) (x10 := y10) (x11 := y11) (x12 := y12) (x13 := x13) (cond := (pre.map (lfAt c)).foldl addC .yes) (by omega) hty
      refine ⟨s3, e3, Ret_mono h3 ?_⟩
      rintro f s' ⟨rfl, z9, z10, z11, z12, rfl⟩
      exact ⟨rfl, z9, z10, z11, z12, by rw [List.map_append, List.foldl_append]; rfl⟩
    · rintro f s' ⟨rfl, y9, y10, y11, y12, rfl⟩
      exact ⟨rfl, y9, y10, y11, y12, by rw [lf_all hcl]; rfl⟩
    rintro s ⟨y9, y10, y11, y12, rfl⟩
    by_cases hz : b.t.sz = 30 ∨ (pathOf (world b.F b.M c) b.t).length = 12
    · refine Ret_mono (Q1 := fun f s' => f = .brk ∧ s' = Y (some (.val (intE ns))) (some (.val (.int cell))) x2 (some (.val b.e)) (some (.val g.e)) (some (.val (.int (apartM b g)))) (some (.val (.int (k : Int)))) (some (.val (cse c))) (some (.val (pin b.F c).e)) y9 y10 y11 y12 x13) ?_ ?_
      · by_cases h1 : b.t.sz = 30
        · have h1' : ((b.t.sz : Int) == 30) = true := by rw [beq_iff_eq]; omega
          simp only [Y]
          simp [calms, calm, sem, b4, eR, hR1, h1, h1', St.freeze]
        · have h1' : ((b.t.sz : Int) == 30) = false := by rw [beq_eq_false_iff_ne]; omega
          have h1'' : ¬ ((b.t.sz : Int) = 30) := by omega
          have h2 : (pathOf (world b.F b.M c) b.t).length = 12 := by rcases hz with h | h; exact absurd h h1; exact h
          have h2' : (((pathOf (world b.F b.M c) b.t).length : Int) == 12) = true := by rw [beq_iff_eq]; omega
          simp only [Y]
          simp [calms, calm, sem, b4, eR, hR1, h1, h1', h1'', eE, hE1, h2, h2', St.freeze]
      · rintro f s' ⟨rfl, rfl⟩
        exact .inr ⟨rfl, b, _, _, _, _, _, _, _, _, hJ, rfl⟩
    · have h1 : ¬ b.t.sz = 30 := fun h => hz (.inl h)
      have h2 : ¬ (pathOf (world b.F b.M c) b.t).length = 12 := fun h => hz (.inr h)
      have h1' : ((b.t.sz : Int) == 30) = false := by rw [beq_eq_false_iff_ne]; omega
      have h1'' : ¬ ((b.t.sz : Int) = 30) := by omega
      have h2' : (((pathOf (world b.F b.M c) b.t).length : Int) == 12) = false := by rw [beq_eq_false_iff_ne]; omega
      have h2'' : ¬ (((pathOf (world b.F b.M c) b.t).length : Int) = 12) := by omega
      have hpl := path_len (world b.F b.M c) b.t
      have hsz : b.t.sz < 30 := by omega
      have hpt : (pathOf (world b.F b.M c) b.t).length < 12 := by omega
      obtain ⟨hJ', hT2, hone, hless, hadv⟩ := hJ.step hc hne hsz hpt
      have hpin := pin_ok (M := b.M) hJ.jb.F.kd hJ.jb.F.len hc
      have hAg : adv g c ∈ b.A := by rw [← hJ.jA]; exact adv_inA hJ.jg.wb c
      have nd : (b.F.map (·.1)).Nodup := hJ.jb.F.asc.nodup stoT
      have e0 : poolOf b.F [] = b.F := by unfold poolOf; simp
      obtain ⟨_, hTW⟩ := marks_walk hJ.jb.F.nm hJ.jb.M b.M [] (worldF b.F c) rfl (by rw [e0]; exact worldF_ty hc.ty nd)
      have hokc : okC (world b.F b.M c) (pin b.F c) := condOk_ok hTW _ hpin.1
      have hsat : sat (world b.F b.M c) (pin b.F c) = true := (sat_pin_iff hJ.jb hc.ty hc.ty).mpr rfl
      have eCo := fun n hn => corrected_ok (P := P) (gl := gl) (T := T) (ix := ix) hJ.jb.wb (by omega) hc.ty hAg hokc hpin.2.1 hsat hne hsz hpt n hn hT
      have eCh : callN P gl T (m + 1) (ix .changed_many) [b.e, cse c, .str (adv g c), (pin b.F c).e] = some (.val (.int 1)) := by
        have k1 := eCo m (by omega)
        have k2 := apart_many_ok (P := P) (gl := gl) (T := T) (ix := ix) hT2 m (by omega) hT
        rw [hone] at k2
        rw [run_of]
        refine run_Ret rfl ?_
        simp [cd, c_changed_many, evalR, evalF, St.freeze, k1, k2]
      have eCo1 := eCo (m + 1) (by omega)
      generalize hb' : corr b c (adv g c) (pin b.F c) = b' at hJ' hT2 hone hless hadv eCo1
      have hF' : b'.F = b.F := by rw [← hb']; rfl
      have eM := apart_many_ok (P := P) (gl := gl) (T := T) (ix := ix) hJ'.two (m + 1) (by omega) hT
      rw [hless] at eM
      have okb' := hJ'.jb.wb.okB (by omega) (by rw [hF']; exact hc.ty)
      have eb' : callN P gl T (m + 1) (ix .advice) [b'.e, cse c] = some (.val (.str (adv b' c))) := advice_ok (n := m) okb' (by omega) hT
      rw [hadv] at eb'
      refine Ret_seq (fun s => s = Y (some (.val (intE ns))) (some (.val (.int cell))) x2 (some (.val b.e)) (some (.val g.e)) (some (.val (.int (apartM b g)))) (some (.val (.int (k : Int)))) (some (.val (cse c))) (some (.val (pin b.F c).e)) y9 y10 y11 y12 x13) (by
        simp only [Y]
        simp [calms, calm, sem, b4, eR, hR1, h1, h1', h1'', eE, hE1, h2, h2', h2'', St.freeze]) ?_
      rintro s rfl
      refine Ret_seq (fun s => s = Y (some (.val (intE ns))) (some (.val (.int cell))) x2 (some (.val b.e)) (some (.val g.e)) (some (.val (.int (apartM b g)))) (some (.val (.int (k : Int)))) (some (.val (cse c))) (some (.val (pin b.F c).e)) y9 y10 y11 y12 (some (.val (.int 1)))) (by
        simp only [Y]
        simp [St.freeze, eg, eCh]) ?_
      rintro s rfl
      refine Ret_seq (fun s => s = Y (some (.val (intE ns))) (some (.val (.int cell))) x2 (some (.val b'.e)) (some (.val g.e)) (some (.val (.int (apartM b g)))) (some (.val (.int (k : Int)))) (some (.val (cse c))) (some (.val (pin b.F c).e)) y9 y10 y11 y12 (some (.val (.int 1)))) (by
        simp only [Y]
        simp [St.freeze, eg, eCo1]) ?_
      rintro s rfl
      refine Ret_seq (fun s => s = Y (some (.val (intE ns))) (some (.val (.int cell))) x2 (some (.val b'.e)) (some (.val g.e)) (some (.val (.int (apartM b g)))) (some (.val (.int (k : Int)))) (some (.val (cse c))) (some (.val (pin b.F c).e)) y9 y10 y11 y12 (some (.val (.int 1)))) (by
        simp only [Y]
        simp [St.freeze, calms, calm, sem, sneI, eM, eb', eg]) ?_
      rintro s rfl
      refine Ret_mono (Q1 := fun f s' => f = .nx ∧ s' = Y (some (.val (intE ns))) (some (.val (.int cell))) x2 (some (.val b'.e)) (some (.val g.e)) (some (.val (.int (apartM b g - 1)))) (some (.val (.int (k : Int)))) (some (.val (cse c))) (some (.val (pin b.F c).e)) y9 y10 y11 y12 (some (.val (.int 1)))) (by
        simp only [Y]
        simp [St.freeze, calms, calm, sem, evalF, mark, freshE, freshB, fresh]) ?_
      rintro f s' ⟨rfl, rfl⟩
      rw [← hless]
      exact .inl ⟨rfl, b', _, _, _, _, _, _, _, _, hJ', rfl⟩
def L38body (ix : Nm → Nat) : List CS := [(.asgO 2 (.call (ix .law_draws) [(.var 1), (.lit (.int (700))), (.lit (.int (1000)))])), (.asgO 3 (.call (ix .law_book) [(.var 2), (.lit (.int (2)))])), (.asgO 4 (.call (ix .law_beside) [(.bi .slL [(.var 2), (.lit (.int (300)))]), (.var 3)])), (.asgO 5 (.call (ix .apart_many) [(.var 3), (.var 4)])), (.forr (.nm 6) .rng [(.lit (.int (30)))] (L38turn ix)), (.ife (.bi .ne [(.bi .eq [(.var 5), (.lit (.int (0)))]), (.bi .isN [(.call (ix .apart) [(.var 3), (.var 4)]), (.lit .non)])]) [(.ret (.lit (.bl false)))] [])]
theorem L38code : c_law38 ix = ⟨1, 14, [(.forr (.nm 1) .seq [(.bi .add [(.lst [(.call (ix .law_cell_at) [(.var 0), (.lit (.int (0)))])]), (.bi .slLH [(.var 0), (.lit (.int (1))), (.lit (.int (3)))])])] (L38body ix)), (.ret (.lit (.bl true)))]⟩ := rfl
def YP (ns : List Int) (s : St) : Prop := ∃ x1 x2 x3 x4 x5 x6 x7 x8 x9 x10 x11 x12 x13, s = Y (some (.val (intE ns))) x1 x2 x3 x4 x5 x6 x7 x8 x9 x10 x11 x12 x13
theorem body38 {ns : List Int} {cell : Int} {n : Nat} {s : St} (hn : 40 ≤ n) (hT : 100 < T) (h : YP ns s) : ∃ s3, bindT (.nm 1) (.int cell) s = some s3 ∧ Ret (execs ⟨callN P gl T n, fun j => gl[j]?, T⟩ (L38body ix) s3) fun f s' => f = .nx ∧ YP ns s' := by
  obtain ⟨x1, x2, x3, x4, x5, x6, x7, x8, x9, x10, x11, x12, x13, rfl⟩ := h
  obtain ⟨m, rfl⟩ : ∃ m, n = m + 1 := ⟨n - 1, by omega⟩
  obtain ⟨L, eD, hL, hLb⟩ := draws_ok (P := P) (gl := gl) (T := T) (ix := ix) cell 700 1000 m (by omega) (by omega) (by omega)
  have hLn : Nn L := fun x hx => (hLb x hx).1
  obtain ⟨b, eB, gB⟩ := book_ok (P := P) (gl := gl) (T := T) (ix := ix) (L := L) (limit := 2) (by omega) (by omega) (by omega) hLn m (by omega)
  obtain ⟨g, eG, gG, hF, hA⟩ := beside_ok (P := P) (gl := gl) (T := T) (ix := ix) gB (by omega) (L := L.drop 300) (by rw [List.length_drop]; omega) (drop_nn hLn _) m (by omega)
  have hJ : J38 b g := ⟨gB, gG, hF, hA⟩
  have eD' : callN P gl T (m + 1) (ix .law_draws) [.int cell, .int 700, .int 1000] = some (.own (intE L)) := eD
  have eB' : callN P gl T (m + 1) (ix .law_book) [intE L, .int 2] = some (.val b.e) := eB
  have hs300 : sSlL [intE L, .int 300] = some (intE (L.drop 300)) := slL_I L 300
  have eM := apart_many_ok (P := P) (gl := gl) (T := T) (ix := ix) hJ.two (m + 1) (by omega) hT
  refine ⟨_, rfl, ?_⟩
  refine Ret_seq (fun s => s = Y (some (.val (intE ns))) (some (.val (.int cell))) (some (.own (intE L))) x3 x4 x5 x6 x7 x8 x9 x10 x11 x12 x13) (by simp only [Y]; simp [eD', St.freeze]) ?_
  rintro s rfl
  refine Ret_seq (fun s => s = Y (some (.val (intE ns))) (some (.val (.int cell))) (some (.val (intE L))) (some (.val b.e)) x4 x5 x6 x7 x8 x9 x10 x11 x12 x13) (by simp only [Y]; simp [eB', St.freeze]) ?_
  rintro s rfl
  refine Ret_seq (fun s => s = Y (some (.val (intE ns))) (some (.val (.int cell))) (some (.val (intE L))) (some (.val b.e)) (some (.val g.e)) x5 x6 x7 x8 x9 x10 x11 x12 x13) (by simp only [Y]; simp [calms, calm, sem, hs300, eG, St.freeze]) ?_
  rintro s rfl
  refine Ret_seq (fun s => s = Y (some (.val (intE ns))) (some (.val (.int cell))) (some (.val (intE L))) (some (.val b.e)) (some (.val g.e)) (some (.val (.int (apartM b g)))) x6 x7 x8 x9 x10 x11 x12 x13) (by simp only [Y]; simp [eM, St.freeze]) ?_
  rintro s rfl
  refine Ret_seq (fun s => J38S ns cell (some (.val (intE L))) g s) (Ret_mono (forr_RetB (e := fun k : Nat => PV.int (k : Int)) (xs := List.range 30) (vs := [.int 30]) (s1 := Y (some (.val (intE ns))) (some (.val (.int cell))) (some (.val (intE L))) (some (.val b.e)) (some (.val g.e)) (some (.val (.int (apartM b g)))) x6 x7 x8 x9 x10 x11 x12 x13) (by simp only [Y]; simp) (by rw [show ([PV.int 30] : List PV) = [PV.int ((30 : Nat) : Int)] from rfl]; simp only [items, bndN (show 30 < 1000000 by decide), if_true]; rw [rngL_nat])
    (fun _ s => J38S ns cell (some (.val (intE L))) g s) (fun s => J38S ns cell (some (.val (intE L))) g s) ⟨b, _, _, _, _, _, _, _, _, hJ, rfl⟩ ?_) ?_) ?_
  · rintro pre k post s _ hS
    exact turn38 (by omega) hT hS
  · rintro f s' ⟨rfl, h | h⟩
    · exact ⟨rfl, h⟩
    · exact ⟨rfl, h⟩
  rintro s ⟨b', y6, y7, y8, y9, y10, y11, y12, y13, hJ', rfl⟩
  have e1 := apart_ok (P := P) (gl := gl) (T := T) (ix := ix) hJ'.two (m + 1) (by omega) hT
  have hiff := apartC_none hJ'.jb.wb (b := g)
  refine Ret_mono (Q1 := fun f s' => f = .nx ∧ s' = Y (some (.val (intE ns))) (some (.val (.int cell))) (some (.val (intE L))) (some (.val b'.e)) (some (.val g.e)) (some (.val (.int (apartM b' g)))) y6 y7 y8 y9 y10 y11 y12 y13) ?_ ?_
  · cases hA : apartC b' g with
    | none =>
      have h0 := hiff.mp hA
      rw [hA] at e1
      simp only [Y]
      simp [calms, calm, sem, e1, h0, caseO, sIsN, sneB, St.freeze]
    | some c =>
      have h0 : apartM b' g ≠ 0 := fun e => by rw [hiff.mpr e] at hA; cases hA
      have h0' : (apartM b' g == 0) = false := by rw [beq_eq_false_iff_ne]; exact h0
      rw [hA] at e1
      simp only [Y]
      simp [calms, calm, sem, e1, h0, h0', caseO, cse, sIsN, sneB, St.freeze]
  · rintro f s' ⟨rfl, rfl⟩
    exact ⟨rfl, _, _, _, _, _, _, _, _, _, _, _, _, _, rfl⟩
theorem law38 [Has P ix .law38] (ns : List Int) (n : Nat) (hn : 41 ≤ n) (hT : 100 < T) : callN P gl T (n + 1) (ix .law38) [intE ns] = some (.val (.bl true)) := by
  obtain ⟨m, rfl⟩ : ∃ m, n = m + 1 := ⟨n - 1, by omega⟩
  have hc0 : callN P gl T (m + 1) (ix .law_cell_at) [intE ns, .int 0] = some (.val (.int (g ns 0))) := cell_at_ok ns 0 m
  have hsl : sSlLH [intE ns, .int 1, .int 3] = some (intE (sub ns 1 3)) := slLH_I ns 1 3
  have hadd : sAdd [.lst [.int (g ns 0)], intE (sub ns 1 3)] = some (intE (g ns 0 :: sub ns 1 3)) := by
    unfold intE
    rw [sAdd_L (by rw [List.length_map, sub_len]; show 1 + min 2 _ ≤ _; omega)]; rfl
  rw [run_of]
  refine run_Ret rfl ?_
  rw [show cd ix .law38 = c_law38 ix from rfl, L38code]
  refine Ret_seq (YP ns) (forr_Ret (e := PV.int) (xs := g ns 0 :: sub ns 1 3) (vs := [intE (g ns 0 :: sub ns 1 3)]) (s1 := Y (some (.val (intE ns))) none none none none none none none none none none none none none) (by simp only [Y]; simp [calms, calm, sem, hc0, hsl, hadd, St.freeze]) rfl (fun _ s => YP ns s) ⟨_, _, _, _, _, _, _, _, _, _, _, _, _, rfl⟩ ?_) ?_
  · rintro pre c post s _ hS
    exact body38 (by omega) hT hS
  · rintro s ⟨x1, x2, x3, x4, x5, x6, x7, x8, x9, x10, x11, x12, x13, rfl⟩
    simp only [Y]
    simp [evalR, evalF, mark, freshE]
end
end R
end
section
set_option Elab.async false
set_option linter.all false
set_option maxRecDepth 100000
set_option maxHeartbeats 0
namespace K38
open PySem PySem.Spec PyProof.Rows L2 Sd
def top (i : Nat) : Stmt := PySem.Challenge.pw_reasonry_k38_whole_taught_till_alike.main.body.getD i (.Pass ⟨0, 0, 0, 0⟩)
def dds : List DD := [
  ⟨"empty_sketch", top 1, ["facts"], ["facts"]⟩,
  ⟨"parts_within", top 3, ["thing"], ["thing"]⟩,
  ⟨"is_so", top 4, ["worlds", "condition", "word"], ["worlds", "condition"]⟩,
  ⟨"world_of", top 5, ["facts", "marks", "case", "found", "name", "kind", "value", "rows", "rest", "some", "condition"], ["facts", "marks", "case"]⟩,
  ⟨"is_true", top 6, ["facts", "marks", "condition", "case"], ["facts", "marks", "condition", "case"]⟩,
  ⟨"gone", top 10, ["book", "case", "facts", "marks", "advices", "found", "tree", "world", "place", "row", "condition", "own", "inner", "other", "good"], ["book", "case"]⟩,
  ⟨"advice", top 11, ["book", "case"], ["book", "case"]⟩,
  ⟨"end_of", top 12, ["book", "case"], ["book", "case"]⟩,
  ⟨"rules_of", top 13, ["tree", "found", "turn", "place", "rule"], ["tree"]⟩,
  ⟨"cuts_in", top 24, ["condition", "name", "found", "part"], ["condition", "name"]⟩,
  ⟨"conditions_of", top 25, ["book", "found", "name", "rows", "rest", "condition", "value", "place", "rule"], ["book"]⟩,
  ⟨"stretches", top 26, ["low", "high", "cuts", "starts", "cut", "ends", "start"], ["low", "high", "cuts"]⟩,
  ⟨"cells_by", top 27, ["facts", "conditions", "sketch", "found", "name", "kind", "known", "cuts", "condition"], ["facts", "conditions", "sketch"]⟩,
  ⟨"ways_in", top 28, ["rows", "found", "row"], ["rows"]⟩,
  ⟨"first_of", top 29, ["cell"], ["cell"]⟩,
  ⟨"size_of", top 30, ["cell"], ["cell"]⟩,
  ⟨"picks_of", top 31, ["rows", "most", "found", "row", "pick", "cell"], ["rows", "most"]⟩,
  ⟨"case_of", top 32, ["pick", "cell"], ["pick"]⟩,
  ⟨"many_in", top 33, ["pick", "found", "cell"], ["pick"]⟩,
  ⟨"need_advice", top 34, ["book", "thing"], ["book", "thing"]⟩,
  ⟨"unlike_picks", top 36, ["one", "other", "rows", "picks", "pick"], ["one", "other"]⟩,
  ⟨"apart", top 37, ["one", "other", "pick"], ["one", "other"]⟩,
  ⟨"apart_many", top 38, ["one", "other", "pick"], ["one", "other"]⟩,
  ⟨"grown", top 40, ["tree", "place", "rule", "condition", "own", "inner", "other"], ["tree", "place", "rule"]⟩,
  ⟨"corrected", top 41, ["book", "case", "advice_told", "condition", "facts", "marks", "advices", "first", "tree", "place"], ["book", "case", "advice_told", "condition"]⟩,
  ⟨"changed_many", top 42, ["book", "case", "advice_told", "condition"], ["book", "case", "advice_told", "condition"]⟩,
  ⟨"_law_cell_at", top 44, ["script", "k"], ["script", "k"]⟩,
  ⟨"_law_draws", top 45, ["cell", "many", "size", "found", "rest", "stirred", "k"], ["cell", "many", "size"]⟩,
  ⟨"_law_kind", top 46, ["picks", "start", "low"], ["picks"]⟩,
  ⟨"_law_facts", top 47, ["picks", "limit", "names", "k", "name"], ["picks", "limit"]⟩,
  ⟨"_law_pool", top 48, ["facts", "marks", "found", "name", "kind", "rows", "rest", "condition", "value"], ["facts", "marks"]⟩,
  ⟨"_law_leaf", top 49, ["picks", "pool", "name", "kind", "low"], ["picks", "pool"]⟩,
  ⟨"_law_condition", top 50, ["picks", "pool", "many", "turn_by", "left", "one"], ["picks", "pool", "many"]⟩,
  ⟨"_law_marks", top 51, ["picks", "facts", "found", "k", "some", "rows", "i", "part"], ["picks", "facts"]⟩,
  ⟨"_law_tree", top 52, ["picks", "pool", "advices", "many", "left", "inner", "other"], ["picks", "pool", "advices", "many"]⟩,
  ⟨"_law_book", top 53, ["picks", "limit", "facts", "marks", "advices", "tree"], ["picks", "limit"]⟩,
  ⟨"_law_rules", top 54, ["tree", "found", "turn", "place", "rule"], ["tree"]⟩,
  ⟨"_law_beside", top 55, ["picks", "book", "how", "pool", "marks", "tree", "rules", "place", "rule", "other"], ["picks", "book"]⟩,
  ⟨"_law_put_rule", top 56, ["tree", "place", "rule", "at"], ["tree", "place", "rule"]⟩,
  ⟨"law", top 57, ["script", "cell", "picks", "book", "goal", "left", "turn", "case", "condition", "at", "name", "kind", "one", "many"], ["script"]⟩]
def D : List DfI := [
  ⟨"empty_sketch", 0, 1, []⟩,
  ⟨"parts_within", 1, 1, []⟩,
  ⟨"is_so", 2, 2, []⟩,
  ⟨"world_of", 3, 3, []⟩,
  ⟨"is_true", 4, 4, []⟩,
  ⟨"gone", 5, 2, []⟩,
  ⟨"advice", 6, 2, []⟩,
  ⟨"end_of", 7, 2, []⟩,
  ⟨"rules_of", 8, 1, []⟩,
  ⟨"cuts_in", 9, 2, []⟩,
  ⟨"conditions_of", 10, 1, []⟩,
  ⟨"stretches", 11, 3, []⟩,
  ⟨"cells_by", 12, 3, []⟩,
  ⟨"ways_in", 13, 1, []⟩,
  ⟨"first_of", 14, 1, []⟩,
  ⟨"size_of", 15, 1, []⟩,
  ⟨"picks_of", 16, 2, []⟩,
  ⟨"case_of", 17, 1, []⟩,
  ⟨"many_in", 18, 1, []⟩,
  ⟨"need_advice", 19, 2, []⟩,
  ⟨"unlike_picks", 20, 2, []⟩,
  ⟨"apart", 21, 2, []⟩,
  ⟨"apart_many", 22, 2, []⟩,
  ⟨"grown", 23, 3, []⟩,
  ⟨"corrected", 24, 4, []⟩,
  ⟨"changed_many", 25, 4, []⟩,
  ⟨"_law_cell_at", 26, 2, []⟩,
  ⟨"_law_draws", 27, 3, []⟩,
  ⟨"_law_kind", 28, 1, []⟩,
  ⟨"_law_facts", 29, 2, []⟩,
  ⟨"_law_pool", 30, 2, []⟩,
  ⟨"_law_leaf", 31, 2, []⟩,
  ⟨"_law_condition", 32, 3, []⟩,
  ⟨"_law_marks", 33, 2, []⟩,
  ⟨"_law_tree", 34, 4, []⟩,
  ⟨"_law_book", 35, 2, []⟩,
  ⟨"_law_rules", 36, 1, []⟩,
  ⟨"_law_beside", 37, 2, []⟩,
  ⟨"_law_put_rule", 38, 3, []⟩,
  ⟨"law", 39, 1, []⟩]
def KW : List KwI := []
def GI : List (Str × Int) := [("MOST_RULES", 30), ("DEEPEST", 12), ("MOST_WAYS", 4000)]
abbrev G : List (Str × Ev.PV) := GI.map fun q => (q.1, .int q.2)
def BL : List Str := ["len", "int", "str", "tuple", "list", "sum", "sorted", "isinstance", "range", "zip", "enumerate"]
def LN : List Str := ["is_so"]
def kwo (x : Str) : List (Str × He.Dv) :=
  []
def fn : List He.DefD := dds.map (mkD kwo)
def fa : List He.Fa := faOf dds BL GI
abbrev R : PySem.W.OpenRow := PySem.W.OpenLaw.row PySem.Challenge.rw_reasonry_k38_whole_taught_till_alike
abbrev hk : PySem.W.Hook := He.hookD 4 fa fn
def ob (s : PySem.W.SharedT) : He.AlD := He.obsDG 4 fa fn (HandSHeadRun.getT s)
theorem ob_eq (s : PySem.W.SharedT) : ob s = hk.obs s.abs := He.obsDG_eq (HandSHeadRun.getT_eq s)
def loose0 : List Str := ["__name__", "empty_sketch", "parts_within", "is_so", "world_of", "is_true", "MOST_RULES", "DEEPEST", "gone", "advice", "end_of", "rules_of", "ReasonError", "TooMany", "TooDeep", "NoAdvice", "Unlike", "NotTrue", "Same", "MOST_WAYS"]
def loose1 : List Str := ["cuts_in", "conditions_of", "stretches", "cells_by", "ways_in", "first_of", "size_of", "picks_of", "case_of", "many_in", "need_advice", "unlike_picks", "apart", "apart_many", "grown", "corrected", "changed_many", "_law_cell_at", "_law_draws", "_law_kind"]
def loose2 : List Str := ["_law_facts", "_law_pool", "_law_leaf", "_law_condition", "_law_marks", "_law_tree", "_law_book", "_law_rules", "_law_beside", "_law_put_rule"]
def loose : List Str := loose0 ++ loose1 ++ loose2
theorem run (w : World) : HandSHeadRun.RunEq R (PySem.W.view R.prog [57]) hk ob 3000 loose w := by
  intro os
  kernel_rfl
theorem scs : (dds.all fun d => scB d.N d.ps (defScope d.st)) = true := by decide +kernel
section
variable {K : PySem.W.Frag} {fdA : Nat → FuncData}
def Hfd (K : PySem.W.Frag) (fdA : Nat → FuncData) : Prop := ∀ (i : Nat) (d : He.DefD), fn[i]? = some d → FunD K d.name d.qual d.params d.body d.scope (d.dvs K) (d.kws K) (He.fAd K d.at_) (fdA i)
theorem b0 (h : Hfd K fdA) : Binds K (fdA 0) ["facts"] [] := FunD.bindsN (h 0 _ rfl) fun _ _ _ _ _ _ us hl => match us, hl with | [_], _ => rfl
theorem b1 (h : Hfd K fdA) : Binds K (fdA 1) ["thing"] [] := FunD.bindsN (h 1 _ rfl) fun _ _ _ _ _ _ us hl => match us, hl with | [_], _ => rfl
theorem b2 (h : Hfd K fdA) : Binds K (fdA 2) ["worlds", "condition"] [] := FunD.bindsN (h 2 _ rfl) fun _ _ _ _ _ _ us hl => match us, hl with | [_, _], _ => rfl
theorem b3 (h : Hfd K fdA) : Binds K (fdA 3) ["facts", "marks", "case"] [] := FunD.bindsN (h 3 _ rfl) fun _ _ _ _ _ _ us hl => match us, hl with | [_, _, _], _ => rfl
theorem b4 (h : Hfd K fdA) : Binds K (fdA 4) ["facts", "marks", "condition", "case"] [] := FunD.bindsN (h 4 _ rfl) fun _ _ _ _ _ _ us hl => match us, hl with | [_, _, _, _], _ => rfl
theorem b5 (h : Hfd K fdA) : Binds K (fdA 5) ["book", "case"] [] := FunD.bindsN (h 5 _ rfl) fun _ _ _ _ _ _ us hl => match us, hl with | [_, _], _ => rfl
theorem b6 (h : Hfd K fdA) : Binds K (fdA 6) ["book", "case"] [] := FunD.bindsN (h 6 _ rfl) fun _ _ _ _ _ _ us hl => match us, hl with | [_, _], _ => rfl
theorem b7 (h : Hfd K fdA) : Binds K (fdA 7) ["book", "case"] [] := FunD.bindsN (h 7 _ rfl) fun _ _ _ _ _ _ us hl => match us, hl with | [_, _], _ => rfl
theorem b8 (h : Hfd K fdA) : Binds K (fdA 8) ["tree"] [] := FunD.bindsN (h 8 _ rfl) fun _ _ _ _ _ _ us hl => match us, hl with | [_], _ => rfl
theorem b9 (h : Hfd K fdA) : Binds K (fdA 9) ["condition", "name"] [] := FunD.bindsN (h 9 _ rfl) fun _ _ _ _ _ _ us hl => match us, hl with | [_, _], _ => rfl
theorem b10 (h : Hfd K fdA) : Binds K (fdA 10) ["book"] [] := FunD.bindsN (h 10 _ rfl) fun _ _ _ _ _ _ us hl => match us, hl with | [_], _ => rfl
theorem b11 (h : Hfd K fdA) : Binds K (fdA 11) ["low", "high", "cuts"] [] := FunD.bindsN (h 11 _ rfl) fun _ _ _ _ _ _ us hl => match us, hl with | [_, _, _], _ => rfl
theorem b12 (h : Hfd K fdA) : Binds K (fdA 12) ["facts", "conditions", "sketch"] [] := FunD.bindsN (h 12 _ rfl) fun _ _ _ _ _ _ us hl => match us, hl with | [_, _, _], _ => rfl
theorem b13 (h : Hfd K fdA) : Binds K (fdA 13) ["rows"] [] := FunD.bindsN (h 13 _ rfl) fun _ _ _ _ _ _ us hl => match us, hl with | [_], _ => rfl
theorem b14 (h : Hfd K fdA) : Binds K (fdA 14) ["cell"] [] := FunD.bindsN (h 14 _ rfl) fun _ _ _ _ _ _ us hl => match us, hl with | [_], _ => rfl
theorem b15 (h : Hfd K fdA) : Binds K (fdA 15) ["cell"] [] := FunD.bindsN (h 15 _ rfl) fun _ _ _ _ _ _ us hl => match us, hl with | [_], _ => rfl
theorem b16 (h : Hfd K fdA) : Binds K (fdA 16) ["rows", "most"] [] := FunD.bindsN (h 16 _ rfl) fun _ _ _ _ _ _ us hl => match us, hl with | [_, _], _ => rfl
theorem b17 (h : Hfd K fdA) : Binds K (fdA 17) ["pick"] [] := FunD.bindsN (h 17 _ rfl) fun _ _ _ _ _ _ us hl => match us, hl with | [_], _ => rfl
theorem b18 (h : Hfd K fdA) : Binds K (fdA 18) ["pick"] [] := FunD.bindsN (h 18 _ rfl) fun _ _ _ _ _ _ us hl => match us, hl with | [_], _ => rfl
theorem b19 (h : Hfd K fdA) : Binds K (fdA 19) ["book", "thing"] [] := FunD.bindsN (h 19 _ rfl) fun _ _ _ _ _ _ us hl => match us, hl with | [_, _], _ => rfl
theorem b20 (h : Hfd K fdA) : Binds K (fdA 20) ["one", "other"] [] := FunD.bindsN (h 20 _ rfl) fun _ _ _ _ _ _ us hl => match us, hl with | [_, _], _ => rfl
theorem b21 (h : Hfd K fdA) : Binds K (fdA 21) ["one", "other"] [] := FunD.bindsN (h 21 _ rfl) fun _ _ _ _ _ _ us hl => match us, hl with | [_, _], _ => rfl
theorem b22 (h : Hfd K fdA) : Binds K (fdA 22) ["one", "other"] [] := FunD.bindsN (h 22 _ rfl) fun _ _ _ _ _ _ us hl => match us, hl with | [_, _], _ => rfl
theorem b23 (h : Hfd K fdA) : Binds K (fdA 23) ["tree", "place", "rule"] [] := FunD.bindsN (h 23 _ rfl) fun _ _ _ _ _ _ us hl => match us, hl with | [_, _, _], _ => rfl
theorem b24 (h : Hfd K fdA) : Binds K (fdA 24) ["book", "case", "advice_told", "condition"] [] := FunD.bindsN (h 24 _ rfl) fun _ _ _ _ _ _ us hl => match us, hl with | [_, _, _, _], _ => rfl
theorem b25 (h : Hfd K fdA) : Binds K (fdA 25) ["book", "case", "advice_told", "condition"] [] := FunD.bindsN (h 25 _ rfl) fun _ _ _ _ _ _ us hl => match us, hl with | [_, _, _, _], _ => rfl
theorem b26 (h : Hfd K fdA) : Binds K (fdA 26) ["script", "k"] [] := FunD.bindsN (h 26 _ rfl) fun _ _ _ _ _ _ us hl => match us, hl with | [_, _], _ => rfl
theorem b27 (h : Hfd K fdA) : Binds K (fdA 27) ["cell", "many", "size"] [] := FunD.bindsN (h 27 _ rfl) fun _ _ _ _ _ _ us hl => match us, hl with | [_, _, _], _ => rfl
theorem b28 (h : Hfd K fdA) : Binds K (fdA 28) ["picks"] [] := FunD.bindsN (h 28 _ rfl) fun _ _ _ _ _ _ us hl => match us, hl with | [_], _ => rfl
theorem b29 (h : Hfd K fdA) : Binds K (fdA 29) ["picks", "limit"] [] := FunD.bindsN (h 29 _ rfl) fun _ _ _ _ _ _ us hl => match us, hl with | [_, _], _ => rfl
theorem b30 (h : Hfd K fdA) : Binds K (fdA 30) ["facts", "marks"] [] := FunD.bindsN (h 30 _ rfl) fun _ _ _ _ _ _ us hl => match us, hl with | [_, _], _ => rfl
theorem b31 (h : Hfd K fdA) : Binds K (fdA 31) ["picks", "pool"] [] := FunD.bindsN (h 31 _ rfl) fun _ _ _ _ _ _ us hl => match us, hl with | [_, _], _ => rfl
theorem b32 (h : Hfd K fdA) : Binds K (fdA 32) ["picks", "pool", "many"] [] := FunD.bindsN (h 32 _ rfl) fun _ _ _ _ _ _ us hl => match us, hl with | [_, _, _], _ => rfl
theorem b33 (h : Hfd K fdA) : Binds K (fdA 33) ["picks", "facts"] [] := FunD.bindsN (h 33 _ rfl) fun _ _ _ _ _ _ us hl => match us, hl with | [_, _], _ => rfl
theorem b34 (h : Hfd K fdA) : Binds K (fdA 34) ["picks", "pool", "advices", "many"] [] := FunD.bindsN (h 34 _ rfl) fun _ _ _ _ _ _ us hl => match us, hl with | [_, _, _, _], _ => rfl
theorem b35 (h : Hfd K fdA) : Binds K (fdA 35) ["picks", "limit"] [] := FunD.bindsN (h 35 _ rfl) fun _ _ _ _ _ _ us hl => match us, hl with | [_, _], _ => rfl
theorem b36 (h : Hfd K fdA) : Binds K (fdA 36) ["tree"] [] := FunD.bindsN (h 36 _ rfl) fun _ _ _ _ _ _ us hl => match us, hl with | [_], _ => rfl
theorem b37 (h : Hfd K fdA) : Binds K (fdA 37) ["picks", "book"] [] := FunD.bindsN (h 37 _ rfl) fun _ _ _ _ _ _ us hl => match us, hl with | [_, _], _ => rfl
theorem b38 (h : Hfd K fdA) : Binds K (fdA 38) ["tree", "place", "rule"] [] := FunD.bindsN (h 38 _ rfl) fun _ _ _ _ _ _ us hl => match us, hl with | [_, _, _], _ => rfl
theorem b39 (h : Hfd K fdA) : Binds K (fdA 39) ["script"] [] := FunD.bindsN (h 39 _ rfl) fun _ _ _ _ _ _ us hl => match us, hl with | [_], _ => rfl
theorem hD (h : Hfd K fdA) : ∀ e ∈ D, ∃ d, dds[e.ix]? = some d ∧ d.x = e.nm ∧ d.ps.length = e.np ∧ ∃ dvs ds, Binds K (fdA e.ix) d.ps ds ∧ Vals dvs ds ∧ ∀ F, Reps K F e.dps dvs := by
  intro e he
  simp only [D, List.mem_cons, List.not_mem_nil, or_false] at he
  rcases he with rfl | rfl | rfl | rfl | rfl | rfl | rfl | rfl | rfl | rfl | rfl | rfl | rfl | rfl | rfl | rfl | rfl | rfl | rfl | rfl | rfl | rfl | rfl | rfl | rfl | rfl | rfl | rfl | rfl | rfl | rfl | rfl | rfl | rfl | rfl | rfl | rfl | rfl | rfl | rfl
  · exact ⟨_, rfl, rfl, rfl, [], [], b0 h, .nil, fun F => trivial⟩
  · exact ⟨_, rfl, rfl, rfl, [], [], b1 h, .nil, fun F => trivial⟩
  · exact ⟨_, rfl, rfl, rfl, [], [], b2 h, .nil, fun F => trivial⟩
  · exact ⟨_, rfl, rfl, rfl, [], [], b3 h, .nil, fun F => trivial⟩
  · exact ⟨_, rfl, rfl, rfl, [], [], b4 h, .nil, fun F => trivial⟩
  · exact ⟨_, rfl, rfl, rfl, [], [], b5 h, .nil, fun F => trivial⟩
  · exact ⟨_, rfl, rfl, rfl, [], [], b6 h, .nil, fun F => trivial⟩
  · exact ⟨_, rfl, rfl, rfl, [], [], b7 h, .nil, fun F => trivial⟩
  · exact ⟨_, rfl, rfl, rfl, [], [], b8 h, .nil, fun F => trivial⟩
  · exact ⟨_, rfl, rfl, rfl, [], [], b9 h, .nil, fun F => trivial⟩
  · exact ⟨_, rfl, rfl, rfl, [], [], b10 h, .nil, fun F => trivial⟩
  · exact ⟨_, rfl, rfl, rfl, [], [], b11 h, .nil, fun F => trivial⟩
  · exact ⟨_, rfl, rfl, rfl, [], [], b12 h, .nil, fun F => trivial⟩
  · exact ⟨_, rfl, rfl, rfl, [], [], b13 h, .nil, fun F => trivial⟩
  · exact ⟨_, rfl, rfl, rfl, [], [], b14 h, .nil, fun F => trivial⟩
  · exact ⟨_, rfl, rfl, rfl, [], [], b15 h, .nil, fun F => trivial⟩
  · exact ⟨_, rfl, rfl, rfl, [], [], b16 h, .nil, fun F => trivial⟩
  · exact ⟨_, rfl, rfl, rfl, [], [], b17 h, .nil, fun F => trivial⟩
  · exact ⟨_, rfl, rfl, rfl, [], [], b18 h, .nil, fun F => trivial⟩
  · exact ⟨_, rfl, rfl, rfl, [], [], b19 h, .nil, fun F => trivial⟩
  · exact ⟨_, rfl, rfl, rfl, [], [], b20 h, .nil, fun F => trivial⟩
  · exact ⟨_, rfl, rfl, rfl, [], [], b21 h, .nil, fun F => trivial⟩
  · exact ⟨_, rfl, rfl, rfl, [], [], b22 h, .nil, fun F => trivial⟩
  · exact ⟨_, rfl, rfl, rfl, [], [], b23 h, .nil, fun F => trivial⟩
  · exact ⟨_, rfl, rfl, rfl, [], [], b24 h, .nil, fun F => trivial⟩
  · exact ⟨_, rfl, rfl, rfl, [], [], b25 h, .nil, fun F => trivial⟩
  · exact ⟨_, rfl, rfl, rfl, [], [], b26 h, .nil, fun F => trivial⟩
  · exact ⟨_, rfl, rfl, rfl, [], [], b27 h, .nil, fun F => trivial⟩
  · exact ⟨_, rfl, rfl, rfl, [], [], b28 h, .nil, fun F => trivial⟩
  · exact ⟨_, rfl, rfl, rfl, [], [], b29 h, .nil, fun F => trivial⟩
  · exact ⟨_, rfl, rfl, rfl, [], [], b30 h, .nil, fun F => trivial⟩
  · exact ⟨_, rfl, rfl, rfl, [], [], b31 h, .nil, fun F => trivial⟩
  · exact ⟨_, rfl, rfl, rfl, [], [], b32 h, .nil, fun F => trivial⟩
  · exact ⟨_, rfl, rfl, rfl, [], [], b33 h, .nil, fun F => trivial⟩
  · exact ⟨_, rfl, rfl, rfl, [], [], b34 h, .nil, fun F => trivial⟩
  · exact ⟨_, rfl, rfl, rfl, [], [], b35 h, .nil, fun F => trivial⟩
  · exact ⟨_, rfl, rfl, rfl, [], [], b36 h, .nil, fun F => trivial⟩
  · exact ⟨_, rfl, rfl, rfl, [], [], b37 h, .nil, fun F => trivial⟩
  · exact ⟨_, rfl, rfl, rfl, [], [], b38 h, .nil, fun F => trivial⟩
  · exact ⟨_, rfl, rfl, rfl, [], [], b39 h, .nil, fun F => trivial⟩
theorem hK (h : Hfd K fdA) : ∀ e ∈ KW, ∃ d, dds[e.ix]? = some d ∧ d.x = e.nm ∧ d.ps.length = e.np ∧ ∃ g, KBn K (fdA e.ix) d.ps e.n e.ks g (fun vs zs => vs ++ zs) := by
  intro e he
  cases he
end
def prog : List Ev.Fn := dds.map (fnOf 40 D KW G BL LN)
/-- what is left: the evaluator's answer -/
def Goal (T n : Nat) : Prop := ∀ ns : List Int, ns.length ≤ 63 → Ev.callN prog [] T n 39 [.lst (ns.map .int)] = some (.val (.bl true))
theorem facts {T n : Nat} (hG : Goal T n) {P : Program} {w : World} {K : PySem.W.Frag} {h : Heap} {mg : Str → Option Value} {f : Addr} (X : K.In h) (Gn : h.Ns mainGlobals mg) (hfa : mg ("law" : Str) = some (.ref f)) (c : He.SaysD fa fn K) :
    ∃ fd : FuncData, (∀ (s : Shared) (v : Value), BindsTo s fd ⟨[v], []⟩ [("script", v)]) ∧ ∀ base : Heap, K.In base → base.Ns mainGlobals mg → FnOk P w K mg base CX0 (n + 3) f fd ["script"] (spLaw K) := by
  obtain ⟨fdA, hfd⟩ := defs_told c (by decide)
  have hfd : Hfd K fdA := hfd
  have T0 := told_of X Gn c hfd scs (hD hfd) (hK hfd)
  have e := hfa.symm.trans (T0.fn 39 _ rfl).2.2
  cases e
  have b := FunD.bindsA (ps := ["script"]) (hfd 39 _ rfl) fun _ _ _ _ _ _ us hl => match us, hl with | [_], _ => rfl
  exact ⟨fdA 39, fun s v => b s [v] rfl, fun base _ _ => law_ok (prog_ok (gl := []) (T := T) T0 rfl n 39 _ rfl) hG⟩
end K38
open PySem PySem.W PySem.Calls PyProof.Rows
theorem cw_reasonry_k38_whole_taught_till_alike_of {T n : Nat} (hn : L2.Room (n + 3) callerA) (hG : K38.Goal T n) : PySem.Challenge.rw_reasonry_k38_whole_taught_till_alike.Holds := by
  w_on; o_law
  refine HandSHeadRun.head_any (r := OpenLaw.row PySem.Challenge.rw_reasonry_k38_whole_taught_till_alike) (q := view (OpenLaw.row PySem.Challenge.rw_reasonry_k38_whole_taught_till_alike).prog [57]) (H := K38.hk) (ob := K38.ob) (M := 3000) (loose := K38.loose) (d := HandSHeadRun.topDef (OpenLaw.row PySem.Challenge.rw_reasonry_k38_whole_taught_till_alike).prog 57) (kwd := []) K38.ob_eq
    (by kernel_rfl) (fun s => by kernel_rfl) K38.run (by kernel_rfl) (by kernel_rfl) (by kernel_rfl) (by rfl) (by first | assumption | decide +kernel) (by decide +kernel) ⟨rfl, rfl, rfl, rfl, rfl, by decide +kernel⟩ ?hw ?hc
  case hw => w_witness2
  case hc =>
    refine L2.walk_ofE (l := PySem.Challenge.rw_reasonry_k38_whole_taught_till_alike) (n := 63) (k := n + 3) (x := "script") (CX := L2.CX0) rfl (by decide) (by kernel_rfl) hn ?F (fun _ _ _ _ z => z)
    intro w mg fa h Y G hmg0
    obtain ⟨K, KX, c⟩ := Y
    have hmg : mg ("law" : PySem.Str) = some (.ref fa) := by
      have e : (HandSHeadRun.topDef (OpenLaw.row PySem.Challenge.rw_reasonry_k38_whole_taught_till_alike).prog 57).name = ("law" : PySem.Str) := by kernel_rfl
      rw [← e]
      exact hmg0
    obtain ⟨fd, hb, hF⟩ := K38.facts hG (P := (PySem.Challenge.rw_reasonry_k38_whole_taught_till_alike).prog) (w := w) KX G hmg c
    exact ⟨K, fd, Sd.spLaw K, KX, hb, fun H a ns hl _ hS => ⟨a, ns, rfl, hS, hl, fun _ => rfl⟩, hF⟩
end
set_option Elab.async false
set_option linter.all false
set_option maxRecDepth 100000
set_option maxHeartbeats 0
namespace K38
open Ev R
def prg : List Fn := nms_law38.map (cd ix_law38)
theorem has_mem {nm : Nm} (h : nms_law38[ix_law38 nm]? = some nm) : Has prg ix_law38 nm := ⟨by unfold prg; rw [List.getElem?_map, h]; rfl⟩
instance : Has prg ix_law38 .empty_sketch := has_mem rfl
instance : Has prg ix_law38 .parts_within := has_mem rfl
instance : Has prg ix_law38 .is_so := has_mem rfl
instance : Has prg ix_law38 .world_of := has_mem rfl
instance : Has prg ix_law38 .is_true := has_mem rfl
instance : Has prg ix_law38 .gone := has_mem rfl
instance : Has prg ix_law38 .advice := has_mem rfl
instance : Has prg ix_law38 .end_of := has_mem rfl
instance : Has prg ix_law38 .rules_of := has_mem rfl
instance : Has prg ix_law38 .cuts_in := has_mem rfl
instance : Has prg ix_law38 .conditions_of := has_mem rfl
instance : Has prg ix_law38 .stretches := has_mem rfl
instance : Has prg ix_law38 .cells_by := has_mem rfl
instance : Has prg ix_law38 .ways_in := has_mem rfl
instance : Has prg ix_law38 .first_of := has_mem rfl
instance : Has prg ix_law38 .size_of := has_mem rfl
instance : Has prg ix_law38 .picks_of := has_mem rfl
instance : Has prg ix_law38 .case_of := has_mem rfl
instance : Has prg ix_law38 .many_in := has_mem rfl
instance : Has prg ix_law38 .need_advice := has_mem rfl
instance : Has prg ix_law38 .unlike_picks := has_mem rfl
instance : Has prg ix_law38 .apart := has_mem rfl
instance : Has prg ix_law38 .apart_many := has_mem rfl
instance : Has prg ix_law38 .grown := has_mem rfl
instance : Has prg ix_law38 .corrected := has_mem rfl
instance : Has prg ix_law38 .changed_many := has_mem rfl
instance : Has prg ix_law38 .law_cell_at := has_mem rfl
instance : Has prg ix_law38 .law_draws := has_mem rfl
instance : Has prg ix_law38 .law_kind := has_mem rfl
instance : Has prg ix_law38 .law_facts := has_mem rfl
instance : Has prg ix_law38 .law_pool := has_mem rfl
instance : Has prg ix_law38 .law_leaf := has_mem rfl
instance : Has prg ix_law38 .law_condition := has_mem rfl
instance : Has prg ix_law38 .law_marks := has_mem rfl
instance : Has prg ix_law38 .law_tree := has_mem rfl
instance : Has prg ix_law38 .law_book := has_mem rfl
instance : Has prg ix_law38 .law_rules := has_mem rfl
instance : Has prg ix_law38 .law_beside := has_mem rfl
instance : Has prg ix_law38 .law_put_rule := has_mem rfl
instance : Has prg ix_law38 .law38 := has_mem rfl
theorem prog_eq : prog = prg := by kernel_rfl
theorem goal : Goal 200 50 := fun ns _ => by
  rw [prog_eq]
  exact law38 (P := prg) (ix := ix_law38) ns 49 (by decide) (by decide)
end K38
theorem PySem.Challenge.cw_reasonry_k38_whole_taught_till_alike_holds : PySem.Challenge.rw_reasonry_k38_whole_taught_till_alike.Holds :=
  cw_reasonry_k38_whole_taught_till_alike_of (n := 50) ⟨rfl, by decide, by decide⟩ K38.goal
