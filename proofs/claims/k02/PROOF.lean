import PyProof.Rows.All
import PySem.PyData
import HandS.ForMost
import HandS.TupAny
import HandS.TupMul
import HandS.Lambda
import HandS.Words
import HandS.Ends
import HandS.HeadHook1
import HandS.HeadHook2
import HandS.HeadHook3
import HandS.HeadHook4
import HandS.Head0
import HandS.Head1
import HandS.Head2
import HandS.DeepEq
import HandS.Dict
import HandS.Style
import HandS.DictComp
import HandS.IsInst
import HandS.Wide
import HandS.TupSets
import HandS.SortInts
import HandS.More
import HandS.SortKw
import KE.DataMinMax
import HandS.Flow
import HandS.Exc
import HandS.ExcOwn
import HandS.Zip
import PyProof.EnumIter
import KE.GoesMore
import KE.GoesEnum
import HandS.Rev
import HandS.Conv
import HandS.Iter
import PyProof.ListRange
import HandS.SetFor
import HandS.Strs
import HandS.Comp
import HandS.Small
import HandS.ExcIs
import HandS.HotCalls
import HandS.Defaults
import KE.KDictList
import KE.KDictZip
import PyProof.StrLaws
import PyProof.ReprReads
import PyProof.FitsInt
import PySem.Challenge.RW_mainfires_k02_stories_and_firings_known
set_option Elab.async false
set_option linter.all false
set_option maxRecDepth 100000
/-! the evaluator: trees, a small heap, expressions, statements -/
namespace MF
open PySem L2

abbrev D := PyData
/-- what a slot holds: a tree; an object of the small heap; a pair with such within; the script -/
inductive W where
  | t (d : D) | ref (k : Nat) | pr (a b : W) | scr (ns : List Int)
inductive Ob where
  | dead | lst (xs : List D) | dct (kvs : List (Key × D))
abbrev Hs := List Ob
abbrev Ev := List (Option W)
inductive Res (α : Type) where
  | ok (a : α) (h : Hs) | exc (c : Nat) (v : D) (h : Hs) | bad
def Res.bind {α β : Type} (m : Res α) (f : α → Hs → Res β) : Res β := match m with
  | .ok a h => f a h
  | .exc c v h => .exc c v h
  | .bad => .bad
@[simp] theorem Res.ok_bind {α β : Type} (a : α) (h : Hs) (f : α → Hs → Res β) : (Res.ok a h).bind f = f a h := rfl
@[simp] theorem Res.exc_bind {α β : Type} (c : Nat) (v : D) (h : Hs) (f : α → Hs → Res β) : (Res.exc c v h).bind f = .exc c v h := rfl
@[simp] theorem Res.bad_bind {α β : Type} (f : α → Hs → Res β) : (Res.bad : Res α).bind f = .bad := rfl
/-- what raises is not served here -/
def Res.nox {α : Type} (m : Res α) : Res α := match m with
  | .ok a h => .ok a h
  | _ => .bad
@[simp] theorem Res.ok_nox {α : Type} (a : α) (h : Hs) : (Res.ok a h).nox = .ok a h := rfl
def Res.opt {α : Type} (o : Option α) (h : Hs) : Res α := match o with
  | some a => .ok a h
  | none => .bad
@[simp] theorem Res.opt_some {α : Type} (a : α) (h : Hs) : Res.opt (some a) h = .ok a h := rfl
@[simp] theorem Res.opt_none {α : Type} (h : Hs) : (Res.opt (none : Option α) h) = .bad := rfl

def lim : Nat := 1000000
def keyD : Key → D
  | .inl i => .int i
  | .inr x => .str x
def keyOf : D → Option Key
  | .int i => some (.inl i)
  | .str x => some (.inr x)
  | _ => none
def dctD (kvs : List (Key × D)) : D := .dict (kvs.map fun p => (keyD p.1, p.2))
def kvsOf : List (D × D) → Option (List (Key × D))
  | [] => some []
  | (k, v) :: r => (keyOf k).bind fun k' => (kvsOf r).bind fun r' => some ((k', v) :: r')
def getK {α : Type} : List (Key × α) → Key → Option α
  | [], _ => none
  | (k', v) :: r, k => if k' = k then some v else getK r k
def Ob.peek : Ob → Option D
  | .lst xs => some (.list xs)
  | .dct kvs => some (dctD kvs)
  | .dead => none
def W.peek (w : W) (h : Hs) : Option D := match w with
  | .t d => some d
  | .ref k => (h[k]?).bind Ob.peek
  | _ => none
def W.frz : W → Hs → Option (D × Hs)
  | .t d, h => some (d, h)
  | .ref k, h => ((h[k]?).bind Ob.peek).map fun d => (d, h.set k .dead)
  | .pr a b, h => (a.frz h).bind fun p => (b.frz p.2).map fun q => (.tuple [p.1, q.1], q.2)
  | .scr _, _ => none
def frzs : List W → Hs → Option (List D × Hs)
  | [], h => some ([], h)
  | w :: ws, h => (w.frz h).bind fun p => (frzs ws p.2).map fun q => (p.1 :: q.1, q.2)
def peeks : List W → Hs → Option (List D)
  | [], _ => some []
  | w :: ws, h => (w.peek h).bind fun d => (peeks ws h).map (d :: ·)

/-! ### operations on trees -/
inductive Op2 where | add | sub | mul | fdiv | mod | pow
inductive Cp where | eq | ne | lt | le | gt | ge | isin | nin | isn | isnn
inductive Bi where | len | sum | all | any | max2 | min2 | maxl | minl | int | str | abs | repr | tuple | list | divmod | sorted | dict

def fitMul (i j : Int) : Bool := decide ((-(2 ^ 64) < i ∧ i < 2 ^ 64) ∨ (-(2 ^ 64) < j ∧ j < 2 ^ 64))
def repD (xs : List D) (k : Int) : List D := (List.replicate k.toNat xs).flatten
def binD : Op2 → D → D → Option D
  | .add, .int i, .int j => some (.int (i + j))
  | .add, .str x, .str y => if x.length + y.length ≤ lim then some (.str (x ++ y)) else none
  | .add, .tuple xs, .tuple ys => if xs.length + ys.length ≤ lim then some (.tuple (xs ++ ys)) else none
  | .add, .list xs, .list ys => if xs.length + ys.length ≤ lim then some (.list (xs ++ ys)) else none
  | .sub, .int i, .int j => some (.int (i - j))
  | .mul, .int i, .int j => if fitMul i j then some (.int (i * j)) else none
  | .mul, .tuple xs, .int k => if xs.length ≤ 1000 ∧ xs ≠ [] ∧ 1 ≤ k ∧ k ≤ 1000 then some (.tuple (repD xs k)) else none
  | .mul, .list xs, .int k => if xs.length ≤ 1000 ∧ 0 ≤ k ∧ k ≤ 1000 then some (.list (repD xs k)) else none
  | .fdiv, .int i, .int j => if 0 < j ∧ j < 1073741824 then some (.int (i / j)) else none
  | .mod, .int i, .int j => if 0 < j then some (.int (i % j)) else none
  | .pow, .int i, .int j => if 0 ≤ j ∧ j ≤ 1000000 ∧ i.natAbs < 2 ^ 64 then some (.int (i ^ j.toNat)) else none
  | _, _, _ => none
def flatD : D → Bool
  | .list _ => false
  | .tuple _ => false
  | .dict _ => false
  | _ => true
def inD (x : D) (xs : List D) : Option Bool := if flatD x = true ∧ xs.all flatD = true then some (xs.any fun y => PyData.eqv y x) else none
/-- nested items, in a tuple -/
def inDeep (x : D) (xs : List D) : Option Bool := if SeqAt.shaped x = true ∧ x.depth ≤ 60 ∧ PyData.canLayAll0 xs = true then some (xs.any fun y => PyData.eqv y x) else none
def inT (x : D) (xs : List D) : Option Bool := match inD x xs with
  | some r => some r
  | none => inDeep x xs
def memD : D → D → Option Bool
  | x, .list ys => inD x ys
  | x, .tuple ys => inT x ys
  | .str c, .str z => match c.cps.toList with
    | [s] => some (decide (s ∈ z.cps.toList))
    | _ => none
  | x, .dict kvs => (keyOf x).bind fun k => (kvsOf kvs).map fun l => (getK l k).isSome
  | _, _ => none
def strsD : D → D → Option Bool
  | .str x, .str y => some (x == y)
  | _, _ => none
def eqD (x y : D) : Option Bool := match strsD x y with
  | some r => some r
  | none => if SeqAt.shaped x = true ∧ SeqAt.shaped y = true then some (PyData.eqv x y) else none
def isDct : D → Bool
  | .dict _ => true
  | _ => false
def isTup : D → Bool
  | .tuple _ => true
  | _ => false
/-- equal; a dict is no tuple -/
def eqT (x y : D) : Option Bool := match eqD x y with
  | some r => some r
  | none => if isDct x = true ∧ isTup y = true then some false else none
def nonD : D → Bool
  | .none => true
  | _ => false
def cmpD : Cp → D → D → Option Bool
  | .eq, x, y => eqT x y
  | .ne, .dict kvs, .dict [] => some (!kvs.isEmpty)
  | .ne, x, y => (eqD x y).map (!·)
  | .lt, .int i, .int j => some (decide (i < j))
  | .le, .int i, .int j => some (decide (i ≤ j))
  | .gt, .int i, .int j => some (decide (j < i))
  | .ge, .int i, .int j => some (decide (j ≤ i))
  | .isin, x, y => memD x y
  | .nin, x, y => (memD x y).map (!·)
  | .isn, x, .none => some (nonD x)
  | .isnn, x, .none => some (!nonD x)
  | .isn, .bool a, .bool b => some (a == b)
  | .isnn, .bool a, .bool b => some (!(a == b))
  | _, _, _ => none
def truD : D → Option Bool
  | .none => some false
  | .bool b => some b
  | .int i => some (i != 0)
  | .str x => if x.length ≤ lim then some ((x.length : Int) != 0) else none
  | .list xs => some (!xs.isEmpty)
  | .tuple xs => some (!xs.isEmpty)
  | .dict kvs => some (!kvs.isEmpty)
def intsD : List D → Option (List Int)
  | [] => some []
  | .int i :: r => (intsD r).map (i :: ·)
  | _ :: _ => none
def boolsD : List D → Option (List Bool)
  | [] => some []
  | .bool i :: r => (boolsD r).map (i :: ·)
  | _ :: _ => none
def maxI : Int → List Int → Int
  | a, [] => a
  | a, b :: r => maxI (if b > a then b else a) r
def minI : Int → List Int → Int
  | a, [] => a
  | a, b :: r => minI (if b < a then b else a) r
def insI (x : Int) : List Int → List Int
  | [] => [x]
  | y :: r => if x ≤ y then x :: y :: r else y :: insI x r
def srtI : List Int → List Int
  | [] => []
  | x :: r => insI x (srtI r)
/-! tuples of small numbers, sorted -/
def codeT : List Int → Int
  | [] => 0
  | d :: r => d * 64 ^ r.length + codeT r
def insT (x : List Int) : List (List Int) → List (List Int)
  | [] => [x]
  | y :: r => if codeT x ≤ codeT y then x :: y :: r else y :: insT x r
def srtT : List (List Int) → List (List Int)
  | [] => []
  | x :: r => insT x (srtT r)
def tupsI : List D → Option (List (List Int))
  | [] => some []
  | .tuple xs :: r => (intsD xs).bind fun x => (tupsI r).map (x :: ·)
  | _ :: _ => none
def okT : List (List Int) → Bool
  | [] => false
  | r :: rs => decide (1 ≤ r.length) && decide ((r :: rs).length < 64) && (r :: rs).all fun q => decide (q.length = r.length) && q.all fun m => decide (0 ≤ m) && decide (m < 64)
def tupD (r : List Int) : D := .tuple (r.map .int)
def keysI : List (D × D) → Option (List Int)
  | [] => some []
  | (.int i, _) :: r => (keysI r).map (i :: ·)
  | _ :: _ => none
/-! the set of a tuple's ints, sorted -/
def insU (x : Int) : List Int → List Int
  | [] => [x]
  | y :: r => if x < y then x :: y :: r else if x = y then y :: r else y :: insU x r
def srtU : List Int → List Int
  | [] => []
  | x :: r => insU x (srtU r)
def srsD : D → Option (List D)
  | .tuple xs => (intsD xs).bind fun ns => if ns.length < 64 then some ((srtU ns).map .int) else none
  | _ => none
def srsW : W → Option (List D)
  | .t d => srsD d
  | _ => none
/-- what sorted tells -/
def srtD : D → Option (List D)
  | .list xs => match intsD xs with
    | some ns => some ((srtI ns).map .int)
    | none => (tupsI xs).bind fun rs => if okT rs = true then some ((srtT rs).map tupD) else none
  | .tuple xs => (intsD xs).bind fun ns => if ns.length < 64 then some ((srtI ns).map .int) else none
  | .dict kvs => (keysI kvs).bind fun ns => if ns.length < 64 then some ((srtI ns).map .int) else none
  | _ => none
def putKD (kvs : List (Key × D)) (k : Key) (v : D) : List (Key × D) := if (kvs.any fun p => decide (p.1 = k)) = true then kvs.map (fun p => if p.1 = k then (p.1, v) else p) else kvs ++ [(k, v)]
def mergeD (kvs more : List (Key × D)) : List (Key × D) := more.foldl (fun acc p => putKD acc p.1 p.2) kvs
/-- repr's measure: shown at all, small enough -/
def repOk (d : D) : Bool := d.showable && decide (d.depth ≤ 60) && decide (d.shown.length ≤ lim)
def pairsD : List D → Option (List (Key × D))
  | [] => some []
  | .tuple [k, v] :: r => (keyOf k).bind fun k' => (pairsD r).map ((k', v) :: ·)
  | _ :: _ => none
def biD : Bi → List D → Option D
  | .len, [.list xs] => some (.int xs.length)
  | .len, [.tuple xs] => some (.int xs.length)
  | .len, [.str x] => if x.length ≤ lim then some (.int x.length) else none
  | .sum, [.list xs] => (intsD xs).map fun ns => .int ns.sum
  | .sum, [.tuple xs] => (intsD xs).map fun ns => .int ns.sum
  | .all, [.list xs] => (boolsD xs).map fun bs => .bool (bs.all id)
  | .any, [.list xs] => (boolsD xs).map fun bs => .bool (bs.any id)
  | .max2, [.int i, .int j] => some (.int (if j > i then j else i))
  | .min2, [.int i, .int j] => some (.int (if j < i then j else i))
  | .maxl, [.list xs] => (intsD xs).bind fun ns => match ns with | [] => none | a :: r => some (.int (maxI a r))
  | .maxl, [.tuple xs] => (intsD xs).bind fun ns => match ns with | [] => none | a :: r => some (.int (maxI a r))
  | .minl, [.list xs] => (intsD xs).bind fun ns => match ns with | [] => none | a :: r => some (.int (minI a r))
  | .minl, [.dict kvs] => (keysI kvs).bind fun ns => match ns with | [] => none | a :: r => some (.int (minI a r))
  | .minl, [.tuple xs] => (intsD xs).bind fun ns => match ns with | [] => none | a :: r => some (.int (minI a r))
  | .int, [.int i] => some (.int i)
  | .int, [.bool b] => some (.int (if b then 1 else 0))
  | .str, [.int i] => if i.natAbs.log2 < 1920 then some (.str (toString i)) else none
  | .abs, [.int i] => some (.int (if i < 0 then -i else i))
  | .repr, [d] => if repOk d then some (.str d.shown) else none
  | .tuple, [.list xs] => some (.tuple xs)
  | .tuple, [.tuple xs] => some (.tuple xs)
  | .list, [.list xs] => some (.list xs)
  | .list, [.tuple xs] => some (.list xs)
  | .sorted, [d] => (srtD d).map .list
  | .dict, [.list xs] => (pairsD xs).map fun l => dctD (mergeD [] l)
  | .divmod, [.int i, .int j] => if 0 < j ∧ j < 1073741824 then some (.tuple [.int (i / j), .int (i % j)]) else none
  | _, _ => none
def tyD : D → String
  | .none => "NoneType" | .bool _ => "bool" | .int _ => "int" | .str _ => "str" | .list _ => "list" | .tuple _ => "tuple" | .dict _ => "dict"
def isS (T t : String) : Bool := decide (t = T) || (decide (T = "int") && decide (t = "bool"))
def isD (T : String) (d : D) : Bool := isS T (tyD d)
def ixD : D → D → Option D
  | .list xs, .int i => atI xs i
  | .tuple xs, .int i => atI xs i
  | .dict kvs, x => (keyOf x).bind fun k => (kvsOf kvs).bind fun l => getK l k
  | _, _ => none
def cutD {α : Type} (xs : List α) (lo hi : Option Int) : List α := (xs.drop (HT.sIx xs.length 0 lo)).take (HT.sIx xs.length xs.length hi - HT.sIx xs.length 0 lo)
def slD : D → Option Int → Option Int → Option D
  | .list xs, lo, hi => some (.list (cutD xs lo hi))
  | .tuple xs, lo, hi => some (.tuple (cutD xs lo hi))
  | _, _, _ => none
def revD : D → Option D
  | .list xs => some (.list xs.reverse)
  | .tuple xs => some (.tuple xs.reverse)
  | _ => none
def intW (w : W) : Option Int := match w with
  | .t (.int i) => some i
  | _ => none

/-! ### the forms -/
inductive Tg where
  | nm (i : Nat) | tup (l : List Tg)
inductive Mt where | append | extend | get1 | get2 | index | count | clear
mutual
inductive E where
  | var (i : Nat) | con (j : Nat) | lit (d : D)
  | bin (o : Op2) (a b : E) | neg (a : E)
  | cmp (o : Cp) (a b : E) | chain (o p : Cp) (a b c : E)
  | and (a b : E) | or (a b : E) | not (a : E) | ife (c a b : E)
  | tup (es : Es) | lst (es : Es) | own (e : E)
  | ix (a b : E) | sl (a : E) (lo hi : Eo) | rev (a : E)
  | isi (a : E) (T : String)
  | call (f : Nat) (es : Es) | bi (b : Bi) (es : Es) | mt (m : Mt) (o : E) (es : Es)
  | comp (elt : E) (tg : Tg) (own : List Nat) (it : I) (c : Eo)
  | dnew | mxd (mx : Bool) (a d : E) | cpy (a : E)
  | cat (a b : E) | lrg1 (tp : Bool) (a : E) | lrg3 (a b c : E) | srs (a : E) | said (f : Nat) (es : Es)
  | dsp (i : Nat) (c : Int) | vls (a : E) | mnv (a : E) | lzp (es : Es)
inductive Es where
  | nil | cons (e : E) (es : Es)
inductive Eo where
  | no | so (e : E)
inductive I where
  | seq (e : E) | rng1 (a : E) | rng2 (a b : E) | rng3 (a b c : E) | enm (e : E) | zip (rv : Bool) (es : Es) | zipr (a b : E) | itm (e : E) | ezp (es : Es)
end
def wipeW (env : Ev) : List Nat → Ev
  | [] => env
  | v :: vs => (wipeW env vs).set v none
mutual
def asgT : Tg → D → Ev → Option Ev
  | .nm i, d, env => some (env.set i (some (.t d)))
  | .tup l, d, env => match d with
    | .tuple ds => asgTs l ds env
    | _ => none
def asgTs : List Tg → List D → Ev → Option Ev
  | [], [], env => some env
  | t :: ts, d :: ds, env => (asgT t d env).bind fun e1 => asgTs ts ds e1
  | _, _, _ => none
end
/-- an assignment's target takes a slot's value -/
def asgW : Tg → W → Ev → Option Ev
  | .nm i, w, env => some (env.set i (some w))
  | .tup l, w, env => match w with
    | .t d => asgT (.tup l) d env
    | .pr a b => match l with
      | [.nm i, .nm j] => some ((env.set i (some a)).set j (some b))
      | _ => none
    | _ => none
def compL (f : D → Hs → Res (Option D)) : List D → Hs → Res (List D)
  | [], h => .ok [] h
  | x :: xs, h => (f x h).bind fun o h1 => (compL f xs h1).bind fun ys h2 => .ok (match o with | some y => y :: ys | none => ys) h2
def truW (w : W) (h : Hs) : Option Bool := (w.peek h).bind truD
def rngD (lo : Int) (n : Nat) : List D := (List.range n).map fun (i : Nat) => .int (lo + i)
def rng3D (lo c : Int) (n : Nat) : List D := (List.range n).map fun (i : Nat) => .int (lo + i * c)
def rngOk (i : Int) : Bool := decide (-1000000 ≤ i ∧ i ≤ 1000000)
def rng3Ok (i j k : Int) : Bool := rngOk k && decide (k ≠ 0) && Builtin.Range.small i j k && rngOk (Builtin.Range.rangeSize i j k) && decide (0 ≤ Builtin.Range.rangeSize i j k)
def enmD (xs : List D) : List D := (List.range xs.length).zipWith (fun (i : Nat) x => .tuple [.int i, x]) xs
def zipN {α : Type} : List (List α) → List (List α)
  | [] => []
  | [xs] => xs.map fun x => [x]
  | xs :: r => List.zipWith (· :: ·) xs (zipN r)
def seqD : D → Option (List D)
  | .list xs => some xs
  | .tuple xs => some xs
  | _ => none
def seqsW (rv : Bool) : List W → Option (List (List D))
  | [] => some []
  | .t d :: ws => (seqD d).bind fun xs => (seqsW rv ws).map ((if rv then xs.reverse else xs) :: ·)
  | _ :: _ => none
def treeSeq : W → Option (List D)
  | .t d => seqD d
  | _ => none
/-- max or min with a default -/
def mxI (mx : Bool) (a : Int) (l : List Int) : Int := if mx then maxI a l else minI a l
def mxdD (mx : Bool) (l : D) (c : Int) : Option D := match l with
  | .list xs => (intsD xs).map fun ns => match ns with
    | [] => .int c
    | n :: r => .int (mxI mx n r)
  | _ => none
def cpyD : D → Option D
  | .list xs => some (.list xs)
  | _ => none
/-- xs + ys, kept as an object that may change -/
def catL (d e : D) : Option (List D) := match d, e with
  | .list xs, .list ys => if xs.length + ys.length ≤ lim then some (xs ++ ys) else none
  | _, _ => none
def seqT (tp : Bool) (xs : List D) : D := if tp then .tuple xs else .list xs
/-- a method of a built-in type's value -/
def mtW (m : Mt) (w : W) (ws : List W) (h : Hs) : Res W := match m, w, ws with
  | .append, .ref k, [x] => match x.frz h with
    | some (d, h1) => match h1[k]? with
      | some (.lst xs) => if xs.length < lim then .ok (.t .none) (h1.set k (.lst (xs ++ [d]))) else .bad
      | _ => .bad
    | none => .bad
  | .extend, .ref k, [.t (.list ys)] => match h[k]? with
      | some (.lst xs) => if xs.length + ys.length ≤ lim then .ok (.t .none) (h.set k (.lst (xs ++ ys))) else .bad
      | _ => .bad
  | .clear, .ref k, [] => match h[k]? with
      | some (.lst _) => .ok (.t .none) (h.set k (.lst []))
      | _ => .bad
  | .get1, w, [x] => match w.peek h, x with
      | some (.dict kvs), .t d => Res.opt ((keyOf d).bind fun k => (kvsOf kvs).map fun l => .t ((getK l k).getD .none)) h
      | _, _ => .bad
  | .get2, w, [x, .t y] => match w.peek h, x with
      | some (.dict kvs), .t d => Res.opt ((keyOf d).bind fun k => (kvsOf kvs).map fun l => .t ((getK l k).getD y)) h
      | _, _ => .bad
  | _, _, _ => .bad
/-- a fresh list or dict, kept as an object that may change -/
def ownW (w : W) (h : Hs) : Res W := match w with
  | .t (.list xs) => .ok (.ref h.length) (h ++ [.lst xs])
  | .t (.dict kvs) => match kvsOf kvs with
    | some l => .ok (.ref h.length) (h ++ [.dct l])
    | none => .bad
  | _ => .bad
/-- what a method may be asked of -/
def mtT (m : Mt) (w : W) (h : Hs) : Option Unit := match m, w with
  | .append, .ref k => match h[k]? with
    | some (.lst _) => some ()
    | _ => none
  | .extend, .ref k => match h[k]? with
    | some (.lst _) => some ()
    | _ => none
  | .clear, .ref k => match h[k]? with
    | some (.lst _) => some ()
    | _ => none
  | .get1, w => match w.peek h with
    | some (.dict _) => some ()
    | _ => none
  | .get2, w => match w.peek h with
    | some (.dict _) => some ()
    | _ => none
  | _, _ => none
/-- a slot's tree; an object is a tree from now on -/
def thaw (w : W) (h : Hs) : Res D := match w with
  | .t d => .ok d h
  | .ref k => (Res.opt ((W.ref k).frz h) h).bind fun p _ => .ok p.1 p.2
  | _ => .bad
def scrLen : W → Hs → List W → Option D
  | _, h, [.scr ns] => some (.int ns.length)
  | _, _, _ => none

/-- a dict's values, its pairs -/
def valsD : D → Option (List D)
  | .dict kvs => some (kvs.map (·.2))
  | _ => none
def itmD : D → Option (List D)
  | .dict kvs => some (kvs.map fun p => .tuple [p.1, p.2])
  | _ => none
def minL : List Int → Option Int
  | [] => none
  | n :: r => some (minI n r)
section
variable (cs : List D) (cf : Nat → List W → Hs → Res W)
mutual
def ev : E → Ev → Hs → Res W
  | .var i, env, h => match env[i]? with
    | some (some w) => .ok w h
    | _ => .bad
  | .con j, _, h => Res.opt ((cs[j]?).map .t) h
  | .lit d, _, h => .ok (.t d) h
  | .bin o a b, env, h => (ev a env h).bind fun x h1 => (ev b env h1).bind fun y h2 =>
      Res.opt ((x.peek h2).bind fun d => (y.peek h2).bind fun e => (binD o d e).map .t) h2
  | .neg a, env, h => (ev a env h).bind fun x h1 => match x with
    | .t (.int i) => .ok (.t (.int (-i))) h1
    | _ => .bad
  | .cmp o a b, env, h => (ev a env h).bind fun x h1 => (ev b env h1).bind fun y h2 =>
      Res.opt ((x.peek h2).bind fun d => (y.peek h2).bind fun e => (cmpD o d e).map fun r => .t (.bool r)) h2
  | .chain o p a b c, env, h => (ev a env h).bind fun x h1 => (ev b env h1).bind fun y h2 =>
      (Res.opt ((x.peek h2).bind fun d => (y.peek h2).bind fun e => cmpD o d e) h2).bind fun r h3 =>
        if r = true then (ev c env h3).bind fun z h4 => Res.opt ((y.peek h4).bind fun d => (z.peek h4).bind fun e => (cmpD p d e).map fun q => .t (.bool q)) h4
        else .ok (.t (.bool false)) h3
  | .and a b, env, h => (ev a env h).bind fun x h1 => (Res.opt (truW x h1) h1).bind fun r h2 => if r = true then ev b env h2 else .ok x h2
  | .or a b, env, h => (ev a env h).bind fun x h1 => (Res.opt (truW x h1) h1).bind fun r h2 => if r = true then .ok x h2 else ev b env h2
  | .not a, env, h => (ev a env h).bind fun x h1 => (Res.opt (truW x h1) h1).bind fun r h2 => .ok (.t (.bool (!r))) h2
  | .ife c a b, env, h => (ev c env h).bind fun x h1 => (Res.opt (truW x h1) h1).bind fun r h2 => if r = true then ev a env h2 else ev b env h2
  | .tup es, env, h => (evs es env h).bind fun ws h1 => match ws with
    | [.ref k, y] => .ok (.pr (.ref k) y) h1
    | [.t d, .ref k] => .ok (.pr (.t d) (.ref k)) h1
    | _ => (Res.opt (frzs ws h1) h1).bind fun p _ => .ok (.t (.tuple p.1)) p.2
  | .lst es, env, h => (evs es env h).bind fun ws h1 => (Res.opt (frzs ws h1) h1).bind fun p _ => .ok (.t (.list p.1)) p.2
  | .own e, env, h => (ev e env h).bind ownW
  | .ix a b, env, h => (ev a env h).bind fun x h1 => (ev b env h1).bind fun y h2 => match x, y with
    | .pr u v, .t (.int i) => if i = 0 then .ok u h2 else if i = 1 then .ok v h2 else .bad
    | .scr ns, .t (.int i) => Res.opt ((atI ns i).map fun n => .t (.int n)) h2
    | x, y => Res.opt ((x.peek h2).bind fun d => (y.peek h2).bind fun e => (ixD d e).map .t) h2
  | .sl a lo hi, env, h => (ev a env h).bind fun x h1 => (evo lo env h1).bind fun l h2 => (evo hi env h2).bind fun u h3 => match x with
    | .scr ns => .ok (.t (.list ((cutD ns l u).map .int))) h3
    | x => Res.opt ((x.peek h3).bind fun d => (slD d l u).map .t) h3
  | .rev a, env, h => (ev a env h).bind fun x h1 => Res.opt ((x.peek h1).bind fun d => (revD d).map .t) h1
  | .isi a T, env, h => (ev a env h).bind fun x h1 => Res.opt ((x.peek h1).map fun d => .t (.bool (isD T d))) h1
  | .call f es, env, h => (evs es env h).bind fun ws h1 => cf f ws h1
  | .bi b es, env, h => (evs es env h).bind fun ws h1 => match b, ws with
    | .len, [.scr ns] => .ok (.t (.int ns.length)) h1
    | b, ws => Res.opt ((peeks ws h1).bind fun ds => (biD b ds).map .t) h1
  | .mt m o es, env, h => (ev o env h).bind fun x h1 => (Res.opt (mtT m x h1) h1).bind fun _ h1 => (evs es env h1).bind fun ws h2 => mtW m x ws h2
  | .comp elt tg own it c, env, h => (evI it env h).bind fun xs h1 =>
      ((compL (fun x h => (Res.opt (asgT tg x (wipeW env own)) h).bind fun e1 h => match c with
        | .no => (ev elt e1 h).bind fun w h => (Res.opt (w.frz h) h).bind fun p _ => .ok (some p.1) p.2
        | .so c => (ev c e1 h).bind fun b h => (Res.opt (truW b h) h).bind fun r h =>
            if r = true then (ev elt e1 h).bind fun w h => (Res.opt (w.frz h) h).bind fun p _ => .ok (some p.1) p.2 else .ok none h) xs h1).nox).bind fun ys h2 => .ok (.t (.list ys)) h2
  | .dnew, _, h => .ok (.t (.dict [])) h
  | .mxd mx a d, env, h => (ev a env h).bind fun x h1 => (ev d env h1).bind fun y h2 => Res.opt ((x.peek h2).bind fun l => (intW y).bind fun c => (mxdD mx l c).map .t) h2
  | .cpy a, env, h => (ev a env h).bind fun x h1 => Res.opt ((x.peek h1).bind fun d => (cpyD d).map .t) h1
  | .cat a b, env, h => (ev a env h).bind fun x h1 => (ev b env h1).bind fun y h2 => (Res.opt ((x.peek h2).bind fun d => (y.peek h2).bind fun e => catL d e) h2).bind fun zs h3 => .ok (.ref h3.length) (h3 ++ [.lst zs])
  | .srs a, env, h => (ev a env h).bind fun x h1 => (Res.opt (srsW x) h1).bind fun xs h2 => .ok (.t (.list xs)) h2
  | .said f es, env, h => ((evs es env h).nox).bind fun ws h1 => cf f ws h1
  | .dsp i c, env, h => match env[i]? with
    | some (some (.t (.int n))) => .ok (.t (.dict [(.int n, .int c)])) h
    | _ => .bad
  | .vls a, env, h => (ev a env h).bind fun x h1 => Res.opt ((x.peek h1).bind fun d => (valsD d).map fun l => .t (.list l)) h1
  | .mnv a, env, h => (ev a env h).bind fun x h1 => Res.opt ((x.peek h1).bind fun d => (valsD d).bind fun l => (intsD l).bind fun ns => (minL ns).map fun m => .t (.int m)) h1
  | .lzp es, env, h => (evs es env h).bind fun ws h1 => (Res.opt (seqsW false ws) h1).bind fun ls h2 => .ok (.t (.list ((zipN ls).map .tuple))) h2
  | .lrg1 tp a, env, h => (ev a env h).bind fun x h1 => (Res.opt (intW x) h1).bind fun i h2 => if rngOk i then .ok (.t (seqT tp (rngD 0 i.toNat))) h2 else .bad
  | .lrg3 a b c, env, h => (ev a env h).bind fun x h1 => (ev b env h1).bind fun y h2 => (ev c env h2).bind fun z h3 =>
      (Res.opt (intW x) h3).bind fun i h4 => (Res.opt (intW y) h4).bind fun j h5 => (Res.opt (intW z) h5).bind fun k h6 =>
      if rng3Ok i j k then .ok (.t (.list (rng3D i k (Builtin.Range.rangeSize i j k).toNat))) h6 else .bad
def evs : Es → Ev → Hs → Res (List W)
  | .nil, _, h => .ok [] h
  | .cons e es, env, h => (ev e env h).bind fun w h1 => (evs es env h1).bind fun ws h2 => .ok (w :: ws) h2
def evo : Eo → Ev → Hs → Res (Option Int)
  | .no, _, h => .ok none h
  | .so e, env, h => (ev e env h).bind fun w h1 => (Res.opt (intW w) h1).bind fun i h2 => .ok (some i) h2
def evI : I → Ev → Hs → Res (List D)
  | .seq e, env, h => (ev e env h).bind fun w h1 => (thaw w h1).bind fun d h2 => Res.opt (seqD d) h2
  | .rng1 a, env, h => (ev a env h).bind fun x h1 => (Res.opt (intW x) h1).bind fun i h2 => if rngOk i then .ok (rngD 0 i.toNat) h2 else .bad
  | .rng2 a b, env, h => (ev a env h).bind fun x h1 => (ev b env h1).bind fun y h2 => (Res.opt (intW x) h2).bind fun i h3 => (Res.opt (intW y) h3).bind fun j h4 =>
      if rngOk i && rngOk j then .ok (rngD i (j - i).toNat) h4 else .bad
  | .rng3 a b c, env, h => (ev a env h).bind fun x h1 => (ev b env h1).bind fun y h2 => (ev c env h2).bind fun z h3 =>
      (Res.opt (intW x) h3).bind fun i h4 => (Res.opt (intW y) h4).bind fun j h5 => (Res.opt (intW z) h5).bind fun k h6 =>
      if rng3Ok i j k then .ok (rng3D i k (Builtin.Range.rangeSize i j k).toNat) h6 else .bad
  | .enm e, env, h => (ev e env h).bind fun w h1 => (thaw w h1).bind fun d h2 => (Res.opt (seqD d) h2).bind fun xs h3 => .ok (enmD xs) h3
  | .zipr a b, env, h => (ev a env h).bind fun x h1 => (Res.opt (treeSeq x) h1).bind fun xs h1 => (ev b env h1).bind fun y h2 => (Res.opt (treeSeq y) h2).bind fun ys h2 => .ok ((zipN [xs.reverse, ys.reverse]).map .tuple) h2
  | .zip rv es, env, h => (evs es env h).bind fun ws h1 => (Res.opt (seqsW rv ws) h1).bind fun ls h2 => .ok ((zipN ls).map .tuple) h2
  | .ezp es, env, h => (evs es env h).bind fun ws h1 => (Res.opt (seqsW false ws) h1).bind fun ls h2 => .ok (enmD ((zipN ls).map .tuple)) h2
  | .itm e, env, h => (ev e env h).bind fun w h1 => (thaw w h1).bind fun d h2 => Res.opt (itmD d) h2
end
end

/-! ### statements -/
inductive Fl where
  | nx (env : Ev) | rt (w : W) | bk (env : Ev) | ct (env : Ev)
mutual
inductive S where
  | ex (e : E) | asg (t : Tg) (e : E) | par (i j : Nat) (a b : E) | par3 (i j l : Nat) (a b c : E) | put (o i e : E) | put2 (o i : E) (j : Nat) (a b : E)
  | ite (c : E) (a b : Ss) | for_ (t : Tg) (it : I) (b : Ss)
  | ret (e : E) | retN | pas | brk | cnt | frz (i : Nat) | raise (c : Nat) | told (g : Nat) (cl : List Nat) | die
inductive Ss where
  | nil | cons (s : S) (r : Ss)
end
def forL (f : D → Ev → Hs → Res Fl) : List D → Ev → Hs → Res Fl
  | [], env, h => .ok (.nx env) h
  | x :: xs, env, h => (f x env h).bind fun l h1 => match l with
    | .nx e => forL f xs e h1
    | .ct e => forL f xs e h1
    | .bk e => .ok (.nx e) h1
    | .rt w => .ok (.rt w) h1
def putW (o i x : W) (h : Hs) : Res Unit := match o, i, x.frz h with
  | .ref k, .t d, some (y, h1) => match h1[k]? with
    | some (.lst xs) => match d with
      | .int n => match ixN xs.length n with
        | some j => .ok () (h1.set k (.lst (xs.set j y)))
        | none => .bad
      | _ => .bad
    | some (.dct kvs) => match keyOf d with
      | some q => if kvs.length < lim then .ok () (h1.set k (.dct (putKD kvs q y))) else .bad
      | none => .bad
    | _ => .bad
  | _, _, _ => .bad
/-- a pair as a tree -/
def two : W → Option (D × D)
  | .t (.tuple [x, y]) => some (x, y)
  | _ => none
/-- the word of a refusal's class -/
def wordsL : List Str := ["plant", "story", "firing", "hour", "boiler", "prices", "way", "set", "tanks", "pump", "feeding", "readings", "start", "shifts", "book", "amount"]
def slotsW : Ev → Option (List W)
  | [] => some []
  | some w :: r => (slotsW r).map (w :: ·)
  | none :: _ => none
/-- what is told of a call: what it hands back, or the word of its refusal -/
def toldR (cl : List Nat) (m : Res W) : Res W := match m with
  | .ok w h => match w.frz h with
    | some (d, h1) => .ok (.t (.tuple [.str "told", d])) h1
    | none => .bad
  | .exc c _ h => if c ∈ cl then (match wordsL[c]? with
    | some w => .ok (.t (.tuple [.str w])) h
    | none => .bad) else .bad
  | .bad => .bad
section
variable (cs : List D) (cf : Nat → List W → Hs → Res W)
mutual
def exec : S → Ev → Hs → Res Fl
  | .ex e, env, h => (ev cs cf e env h).bind fun _ h1 => .ok (.nx env) h1
  | .asg t e, env, h => (ev cs cf e env h).bind fun w h1 => (Res.opt (asgW t w env) h1).bind fun e1 h2 => .ok (.nx e1) h2
  | .par i j a b, env, h => (ev cs cf a env h).bind fun x h1 => (ev cs cf b env h1).bind fun y h2 => .ok (.nx ((env.set i (some x)).set j (some y))) h2
  | .par3 i j l a b c, env, h => (ev cs cf a env h).bind fun x h1 => (ev cs cf b env h1).bind fun y h2 => (ev cs cf c env h2).bind fun z h3 => .ok (.nx (((env.set i (some x)).set j (some y)).set l (some z))) h3
  | .put o i e, env, h => (ev cs cf e env h).bind fun x h1 => (ev cs cf o env h1).bind fun ow h2 => (ev cs cf i env h2).bind fun iw h3 => (putW ow iw x h3).bind fun _ h4 => .ok (.nx env) h4
  | .put2 o i j a b, env, h => (ev cs cf (.tup (.cons a (.cons b .nil))) env h).bind fun w h1 => (Res.opt (two w) h1).bind fun p h1 => (ev cs cf o env h1).bind fun ow h2 => (ev cs cf i env h2).bind fun iw h3 => (putW ow iw (.t p.1) h3).bind fun _ h4 => .ok (.nx (env.set j (some (.t p.2)))) h4
  | .ite c a b, env, h => (ev cs cf c env h).bind fun x h1 => (Res.opt (truW x h1) h1).bind fun r h2 => if r = true then execs a env h2 else execs b env h2
  | .for_ t it b, env, h => (evI cs cf it env h).bind fun xs h1 => forL (fun x e h => (Res.opt (asgT t x e) h).bind fun e1 h2 => execs b e1 h2) xs env h1
  | .ret e, env, h => (ev cs cf e env h).bind fun w h1 => .ok (.rt w) h1
  | .retN, _, h => .ok (.rt (.t .none)) h
  | .pas, env, h => .ok (.nx env) h
  | .brk, env, h => .ok (.bk env) h
  | .cnt, env, h => .ok (.ct env) h
  | .frz i, env, h => match env[i]? with
    | some (some w) => (Res.opt (w.frz h) h).bind fun p _ => .ok (.nx (env.set i (some (.t p.1)))) p.2
    | _ => .bad
  | .raise c, _, h => .exc c .none h
  | .told g cl, env, h => match slotsW env with
    | some ws => (toldR cl (cf g ws h)).bind fun w h1 => .ok (.rt w) h1
    | none => .bad
  | .die, _, _ => .bad
def execs : Ss → Ev → Hs → Res Fl
  | .nil, env, h => .ok (.nx env) h
  | .cons s r, env, h => (exec s env h).bind fun l h1 => match l with
    | .nx e => execs r e h1
    | l => .ok l h1
end
end
/-- a def: how many parameters, how many names, its body, whether what it hands back is kept as it is -/
structure Fd where
  np : Nat
  nn : Nat
  body : Ss
  keep : Bool
def fin (keep : Bool) (n : Nat) (l : Fl) (h : Hs) : Res W := match l with
  | .rt w => if keep then .ok w h else match w.frz h with
    | some (d, h1) => .ok (.t d) (h1.take n)
    | none => .bad
  | .nx _ => if keep then .ok (.t .none) h else .ok (.t .none) (h.take n)
  | _ => .bad
def callF (cs : List D) (P : List Fd) : Nat → Nat → List W → Hs → Res W
  | 0, _, _, _ => .bad
  | k + 1, f, ws, h => match P[f]? with
    | some d => if ws.length = d.np then (match execs cs (callF cs P k) d.body (ws.map some ++ List.replicate (d.nn - d.np) none) h with
        | .ok l h1 => fin d.keep h.length l h1
        | .exc c v h1 => .exc c v (h1.take h.length)
        | .bad => .bad) else .bad
    | none => .bad
end MF

set_option Elab.async false
set_option linter.all false
set_option maxRecDepth 100000
set_option maxHeartbeats 8000000
/-! what the head looks at: it stands ahead of all else, so that the run of the top is checked while little is laid -/
namespace MZ
end MZ
namespace MF
open PySem PySem.Spec PyProof.Rows L2

structure CI where
  fns : List Str
  cons : List Str
  cl : List Nat
  lm : Bool
/-- the refusals that a text may raise here, by number -/
def clsN : List Str := ["NoPlant", "NoStory", "NoFiring", "NoHour", "NoBoiler", "NoPrices", "NoWay", "NoSet", "NoTanks", "NoPump", "NoFeeding", "NoReadings", "NoStart", "NoShifts", "NoBook", "NoAmount"]
/-- all that is asked of, in order -/
def clsAll : List Str := clsN ++ (["NoDeed", "NoLine", "NoText"] : List Str)
/-- a def of the text: its name, statement, names (the parameters first), parameters, form -/
structure DR where
  name : Str
  st : Stmt
  N : List Str
  ps : List Str
  fd : Fd
  lam : Bool
/-! ### constants of the module -/
def uBool : Value → Option Bool
  | .bool b => some b
  | _ => none
def uInt : Value → Option Int
  | .int i _ => some i
  | _ => none
def uStr : Value → Option Str
  | .str x _ => some x
  | _ => none
def uNon : Value → Bool
  | .none => true
  | _ => false
def uTup (K : PySem.W.Frag) : Value → Option (List Value)
  | .ref a => match K.lookup a with
    | some ⟨.type c, _, .seq its _, _⟩ => if c = "tuple" ∧ its.size ≤ sizeLine then some its.toList else none
    | _ => none
  | _ => none
def uHd : List Value → Option (Value × List Value)
  | [] => none
  | u :: us => some (u, us)
mutual
def treeB (K : PySem.W.Frag) : D → Value → Bool
  | .none, u => uNon u
  | .bool b, u => decide (uBool u = some b)
  | .int i, u => decide (uInt u = some i)
  | .str x, u => decide (uStr u = some x)
  | .tuple ds, u => match uTup K u with
    | some l => treesB K ds l
    | none => false
  | .list _, _ => false
  | .dict _, _ => false
def treesB (K : PySem.W.Frag) : List D → List Value → Bool
  | [], l => l.isEmpty
  | d :: ds, l => match uHd l with
    | some (u, us) => treeB K d u && treesB K ds us
    | none => false
end
def conB (K : PySem.W.Frag) (q : Str × D) : Bool := match PySem.W.nsIn K mainGlobals q.1 with
  | some (some u) => treeB K q.2 u
  | _ => false
/-! ### the hook -/
def sysB (g : Addr → Option Obj) : Bool := match g sysModules with
  | some ⟨.type c, _, _, _⟩ => decide (c = "dict")
  | _ => false
theorem sysB_ok {g : Addr → Option Obj} (h : sysB g = true) : ∃ o, g sysModules = some o ∧ o.cls ≠ .type "list" := by
  unfold sysB at h
  split at h
  · rename_i c _ _ _ e
    refine ⟨_, e, fun z => ?_⟩
    have h := of_decide_eq_true h
    subst h
    have z : Value.type "dict" = Value.type "list" := z
    exact absurd (Value.type.inj z) (by decide)
  · cases h
abbrev AlM : Type := (He.AlD × Bool) × Bool
def obsM (n : Nat) (fa : List He.Fa) (fn : List He.DefD) (cn : List (Str × D)) (g : Addr → Option Obj) : AlM := ((He.obsD fa fn (He.frG g (He.asD g n)), cn.all (conB (He.frG g (He.asD g n)))), sysB g)
def hookM (n : Nat) (fa : List He.Fa) (fn : List He.DefD) (cn : List (Str × D)) : PySem.W.Hook where
  α := AlM
  obs := fun s => obsM n fa fn cn s.heap.get?
  val := fun _ => ((He.valD fn, true), true)
  says := fun _ h => (∃ K : PySem.W.Frag, K.In h ∧ He.SaysD fa fn K ∧ cn.all (conB K) = true) ∧ ∃ o, h.get? sysModules = some o ∧ o.cls ≠ .type "list"
  of := fun _ s e => by
    have e1 := congrArg (fun z : AlM => z.1.1) e
    have e2 := congrArg (fun z : AlM => z.1.2) e
    have e3 := congrArg (fun z : AlM => z.2) e
    exact ⟨⟨_, He.frG_in, e1, e2⟩, sysB_ok e3⟩
  keeps := fun _ _ _ ⟨⟨K, hK, c, c2⟩, o, e, n⟩ k => ⟨⟨K, PySem.W.Frag.In.keeps hK k, c, c2⟩, o, k _ _ e, n⟩
def obM (n : Nat) (fa : List He.Fa) (fn : List He.DefD) (cn : List (Str × D)) (s : PySem.W.SharedT) : AlM := obsM n fa fn cn (HandSHeadRun.getT s)
theorem obM_eq {n : Nat} {fa : List He.Fa} {fn : List He.DefD} {cn : List (Str × D)} (s : PySem.W.SharedT) : obM n fa fn cn s = (hookM n fa fn cn).obs s.abs := by
  have e : HandSHeadRun.getT s = s.abs.heap.get? := funext fun a => HandSHeadRun.getT_eq s a
  show obsM n fa fn cn (HandSHeadRun.getT s) = obsM n fa fn cn s.abs.heap.get?
  rw [e]
def bltN : List Str := ["len", "sum", "all", "any", "max", "min", "int", "str", "abs", "repr", "tuple", "list", "divmod", "sorted", "dict", "isinstance", "range", "enumerate", "zip", "reversed", "bool", "set"]
def faO (ds : List DR) : List He.Fa := ds.map (fun r => He.Fa.glo r.name) ++ bltN.map He.Fa.free
def dfO (r : DR) : He.DefD := ⟨(r.name, none), r.name, r.name, defArgs r.st, defBody r.st, defScope r.st, [], []⟩
def fnO (ds : List DR) : List He.DefD := ds.map dfO
/-! ### the hook -/
def excB (K : PySem.W.Frag) (D : Addr) : Bool :=
  He.eqO (PySem.W.findIn K (.ref D) "__getattribute__") (some (some (.builtin "BaseException.__getattribute__"))) && He.eqO (PySem.W.findIn K (.ref D) "__getattr__") (some none) && decide (PySem.W.subIn K (.ref D) (.type "BaseException") = some true) && PySem.W.hasDictIn K D &&
  He.eqO (PySem.W.findIn K (.ref D) "__class__") (some (some (.builtin "object.__class__"))) && He.eqO (PySem.W.specialIn K (.builtin "object.__class__") "__get__") (some (some (.builtin "getset_descriptor.__get__"))) && decide (PySem.W.takesIn K (.builtin "object.__class__") = some true) && decide (PySem.W.mroIn K D (.type "object") = some true)
abbrev cN (c : Nat) : Str := clsN.getD c ""
/-- what is looked at of the refusals told here -/
def kindB (K : PySem.W.Frag) (c : Nat) : Bool := decide (c < 16) && excB K (He.ga K (cN c)) && clsAll.all (fun y => decide (PySem.W.kitOne K (.ref (He.ga K (cN c))) (.ref (He.ga K y)) = some (decide (cN c = y)))) && decide (PySem.W.kitOne K (.ref (He.ga K (cN c))) (.type "ValueError") = some true)
/-- no two defs share a table -/
def dstB : List Addr → Bool
  | [] => true
  | a :: r => !r.contains a && dstB r
/-- the defs that hold lambdas -/
def lds (ds : List DR) : List DR := ds.filter (·.lam)
def exB (ds : List DR) (cl : List Nat) (cn : List (Str × D)) (K : PySem.W.Frag) : Bool := cn.all (conB K) && (cl.all (kindB K) && dstB ((lds ds).map fun r => (He.cT K (r.name, none)).2))
def faS (ds : List DR) (cl : List Nat) : List He.Fa := faO ds ++ (clsAll.map He.Fa.glo ++ (cl.map (fun c => He.Fa.exc (cN c)) ++ (cl.map (fun c => He.Fa.exm (cN c) "MainError" true) ++ [.glo "MainError", .free "ValueError"])))
abbrev AlS : Type := He.AlX × Bool
def sysB2 (g : Addr → Option Obj) : Bool := sysB g
theorem sysB2_ok {g : Addr → Option Obj} (h : sysB g = true) : ∃ o, g sysModules = some o ∧ o.cls ≠ .type "list" ∧ o.cls ≠ .none := by
  unfold sysB at h
  split at h
  · rename_i c _ _ _ e
    refine ⟨_, e, fun z => ?_, fun z => nomatch z⟩
    have h := of_decide_eq_true h
    subst h
    have z : Value.type "dict" = Value.type "list" := z
    exact absurd (Value.type.inj z) (by decide)
  · cases h
def tfS (ds : List DR) : List He.Defn := (lds ds).map fun r => (r.name, none)
def obsS (n : Nat) (ds : List DR) (cl : List Nat) (cn : List (Str × D)) (g : Addr → Option Obj) : AlS := (He.obsX n (faS ds cl) (fnO ds) [] (tfS ds) (exB ds cl cn) g, sysB g)
def hookS (n : Nat) (ds : List DR) (cl : List Nat) (cn : List (Str × D)) : PySem.W.Hook where
  α := AlS
  obs := fun s => obsS n ds cl cn s.heap.get?
  val := fun w => (He.valX (fnO ds) [] w, true)
  says := fun w h => (∃ K : PySem.W.Frag, K.In h ∧ He.SaysX (faS ds cl) (fnO ds) [] (tfS ds) (exB ds cl cn) w h K) ∧ ∃ o, h.get? sysModules = some o ∧ o.cls ≠ .type "list" ∧ o.cls ≠ .none
  of := fun _ s e => by
    have e1 := congrArg (fun z : AlS => z.1) e
    have e2 := congrArg (fun z : AlS => z.2) e
    exact ⟨⟨_, He.frT_in, He.saysX_of e1⟩, sysB2_ok e2⟩
  keeps := fun _ _ _ ⟨⟨K, hK, c⟩, o, e, n⟩ k => ⟨⟨K, PySem.W.Frag.In.keeps hK k, ⟨c.t, c.more, c.hd, c.out, fun p hp => k _ _ (c.empty p hp)⟩⟩, o, k _ _ e, n⟩
def obS (n : Nat) (ds : List DR) (cl : List Nat) (cn : List (Str × D)) (s : PySem.W.SharedT) : AlS := obsS n ds cl cn (HandSHeadRun.getT s)
theorem obS_eq {n : Nat} {ds : List DR} {cl : List Nat} {cn : List (Str × D)} (s : PySem.W.SharedT) : obS n ds cl cn s = (hookS n ds cl cn).obs s.abs := by
  have e : HandSHeadRun.getT s = s.abs.heap.get? := funext fun a => HandSHeadRun.getT_eq s a
  show obsS n ds cl cn (HandSHeadRun.getT s) = obsS n ds cl cn s.abs.heap.get?
  rw [e]
end MF

set_option Elab.async false
set_option linter.all false
set_option maxRecDepth 100000
set_option maxHeartbeats 8000000
namespace K02
open PySem PySem.Spec PyProof.Rows L2 MZ MF
/-! forms of the law, printed by a program of mine -/
def top (i : Nat) : Stmt := PySem.Challenge.pw_mainfires_k02_stories_and_firings_known.main.body.getD i (.Pass ⟨0, 0, 0, 0⟩)
def b_is_within : Ss := (.cons (.ret (.and (.isi (.var 0) "int") (.and (.not (.isi (.var 0) "bool")) (.chain .le .le (.var 1) (.var 0) (.var 2)))))
 .nil)
def b_is_upto : Ss := (.cons (.ret (.call 0 (.cons (.var 0) (.cons (.lit (.int 0)) (.cons (.bin .sub (.var 1) (.lit (.int 1))) .nil)))))
 .nil)
def b_are_within : Ss := (.cons (.ite (.or (.not (.isi (.var 0) "tuple")) (.cmp .ne (.bi .len (.cons (.var 0) .nil)) (.bi .len (.cons (.var 1) .nil))))
 (.cons (.ret (.lit (.bool false)))
 .nil)
 .nil)
 (.cons (.ret (.bi .all (.cons (.comp (.call 0 (.cons (.var 2) (.cons (.var 3) (.cons (.var 4) .nil)))) (.tup [(.nm 2), (.tup [(.nm 3), (.nm 4)])]) [2, 3, 4] (.zip false (.cons (.var 0) (.cons (.var 1) .nil))) .no) .nil)))
 .nil))
def b_is_main : Ss := (.cons (.ret (.and (.call 2 (.cons (.var 0) (.cons (.bin .mul (.tup (.cons (.tup (.cons (.lit (.int 0)) (.cons (.con 0) .nil))) .nil)) (.lit (.int 3))) .nil))) (.chain .le .le (.ix (.var 0) (.lit (.int 0))) (.ix (.var 0) (.lit (.int 2))) (.ix (.var 0) (.lit (.int 1))))))
 .nil)
def b_is_plant : Ss := (.cons (.ite (.or (.not (.isi (.var 0) "tuple")) (.or (.cmp .ne (.bi .len (.cons (.var 0) .nil)) (.lit (.int 3))) (.not (.call 3 (.cons (.ix (.var 0) (.lit (.int 2))) .nil)))))
 (.cons (.ret (.lit (.bool false)))
 .nil)
 .nil)
 (.cons (.asg (.tup [(.nm 1), (.nm 2)]) (.sl (.var 0) .no (.so (.lit (.int 2)))))
 (.cons (.ite (.or (.not (.isi (.var 1) "tuple")) (.not (.chain .le .le (.lit (.int 1)) (.bi .len (.cons (.var 1) .nil)) (.con 1))))
 (.cons (.ret (.lit (.bool false)))
 .nil)
 .nil)
 (.cons (.ite (.or (.not (.isi (.var 2) "tuple")) (.cmp .gt (.bi .len (.cons (.var 2) .nil)) (.con 2)))
 (.cons (.ret (.lit (.bool false)))
 .nil)
 .nil)
 (.cons (.ite (.not (.bi .all (.cons (.comp (.call 2 (.cons (.var 3) (.cons (.tup (.cons (.tup (.cons (.lit (.int 1)) (.cons (.lit (.int 9)) .nil))) (.cons (.tup (.cons (.lit (.int 1)) (.cons (.lit (.int 9)) .nil))) .nil))) .nil))) (.nm 3) [3] (.seq (.var 1)) .no) .nil)))
 (.cons (.ret (.lit (.bool false)))
 .nil)
 .nil)
 (.cons (.ret (.bi .all (.cons (.comp (.call 2 (.cons (.var 3) (.cons (.tup (.cons (.tup (.cons (.lit (.int 1)) (.cons (.lit (.int 9)) .nil))) (.cons (.tup (.cons (.lit (.int 0)) (.cons (.lit (.int 7)) .nil))) (.cons (.tup (.cons (.lit (.int 1)) (.cons (.lit (.int 8)) .nil))) .nil)))) .nil))) (.nm 3) [3] (.seq (.var 2)) .no) .nil)))
 .nil))))))
def b_is_fault : Ss := (.cons (.ite (.or (.not (.isi (.var 2) "tuple")) (.or (.cmp .ne (.bi .len (.cons (.var 2) .nil)) (.lit (.int 4))) (.or (.not (.isi (.ix (.var 2) (.lit (.int 1))) "str")) (.cmp .nin (.ix (.var 2) (.lit (.int 1))) (.con 3)))))
 (.cons (.ret (.lit (.bool false)))
 .nil)
 .nil)
 (.cons (.ret (.and (.call 1 (.cons (.ix (.var 2) (.lit (.int 0))) (.cons (.var 0) .nil))) (.and (.call 1 (.cons (.ix (.var 2) (.lit (.int 2))) (.cons (.var 1) .nil))) (.and (.call 1 (.cons (.ix (.var 2) (.lit (.int 3))) (.cons (.var 1) .nil))) (.cmp .le (.ix (.var 2) (.lit (.int 2))) (.ix (.var 2) (.lit (.int 3))))))))
 .nil))
def b_is_story_of : Ss := (.cons (.ite (.or (.not (.isi (.var 1) "tuple")) (.or (.cmp .ne (.bi .len (.cons (.var 1) .nil)) (.lit (.int 2))) (.not (.isi (.ix (.var 1) (.lit (.int 0))) "tuple"))))
 (.cons (.ret (.lit (.bool false)))
 .nil)
 .nil)
 (.cons (.ite (.or (.not (.chain .le .le (.lit (.int 1)) (.bi .len (.cons (.ix (.var 1) (.lit (.int 0))) .nil)) (.con 5))) (.not (.bi .all (.cons (.comp (.call 0 (.cons (.var 2) (.cons (.lit (.int 0)) (.cons (.con 4) .nil)))) (.nm 2) [2] (.seq (.ix (.var 1) (.lit (.int 0)))) .no) .nil))))
 (.cons (.ret (.lit (.bool false)))
 .nil)
 .nil)
 (.cons (.ite (.or (.not (.isi (.ix (.var 1) (.lit (.int 1))) "tuple")) (.cmp .gt (.bi .len (.cons (.ix (.var 1) (.lit (.int 1))) .nil)) (.con 6)))
 (.cons (.ret (.lit (.bool false)))
 .nil)
 .nil)
 (.cons (.ret (.bi .all (.cons (.comp (.call 5 (.cons (.bi .len (.cons (.ix (.var 0) (.lit (.int 0))) .nil)) (.cons (.bi .len (.cons (.ix (.var 1) (.lit (.int 0))) .nil)) (.cons (.var 2) .nil)))) (.nm 2) [2] (.seq (.ix (.var 1) (.lit (.int 1)))) .no) .nil)))
 .nil))))
def b_need_plant : Ss := (.cons (.ite (.not (.call 4 (.cons (.var 0) .nil)))
 (.cons (.raise 0)
 .nil)
 .nil)
 .nil)
def b_need_story : Ss := (.cons (.ex (.call 7 (.cons (.var 0) .nil)))
 (.cons (.ite (.not (.call 6 (.cons (.var 0) (.cons (.var 1) .nil))))
 (.cons (.raise 1)
 .nil)
 .nil)
 .nil))
def b_is_story : Ss := (.cons (.ex (.call 7 (.cons (.var 0) .nil)))
 (.cons (.ret (.call 6 (.cons (.var 0) (.cons (.var 1) .nil))))
 .nil))
def b_cap_at : Ss := (.cons (.asg (.nm 4) (.comp (.var 7) (.tup [(.nm 6), (.nm 7), (.nm 8), (.nm 9)]) [6, 7, 8, 9] (.seq (.ix (.var 1) (.lit (.int 1)))) (.so (.and (.cmp .eq (.var 6) (.var 3)) (.chain .le .le (.var 8) (.var 2) (.var 9))))))
 (.cons (.ite (.cmp .isin (.lit (.str "out")) (.var 4))
 (.cons (.ret (.lit (.int 0)))
 .nil)
 .nil)
 (.cons (.asg (.nm 5) (.ix (.ix (.ix (.var 0) (.lit (.int 0))) (.var 3)) (.lit (.int 0))))
 (.cons (.ret (.ife (.cmp .isin (.lit (.str "scaled")) (.var 4)) (.bin .fdiv (.var 5) (.lit (.int 2))) (.var 5)))
 .nil))))
def b_caps_by : Ss := (.cons (.asg (.nm 2) (.own (.lst .nil)))
 (.cons (.for_ (.nm 3) (.rng1 (.bi .len (.cons (.ix (.var 1) (.lit (.int 0))) .nil)))
 (.cons (.ex (.mt .append (.var 2) (.cons (.bi .tuple (.cons (.comp (.call 10 (.cons (.var 0) (.cons (.var 1) (.cons (.var 3) (.cons (.var 4) .nil))))) (.nm 4) [4] (.rng1 (.bi .len (.cons (.ix (.var 0) (.lit (.int 0))) .nil))) .no) .nil)) .nil)))
 .nil))
 (.cons (.ret (.bi .tuple (.cons (.var 2) .nil)))
 .nil)))
def b_is_row_of : Ss := (.cons (.ite (.or (.not (.isi (.var 1) "tuple")) (.cmp .ne (.bi .len (.cons (.var 1) .nil)) (.bi .len (.cons (.var 0) .nil))))
 (.cons (.ret (.lit (.bool false)))
 .nil)
 .nil)
 (.cons (.ret (.bi .all (.cons (.comp (.call 0 (.cons (.var 2) (.cons (.lit (.int 0)) (.cons (.var 3) .nil)))) (.tup [(.nm 2), (.nm 3)]) [2, 3] (.zip false (.cons (.var 1) (.cons (.var 0) .nil))) .no) .nil)))
 .nil))
def b_is_firing_of : Ss := (.cons (.asg (.nm 3) (.call 11 (.cons (.var 0) (.cons (.var 1) .nil))))
 (.cons (.ite (.or (.not (.isi (.var 2) "tuple")) (.cmp .ne (.bi .len (.cons (.var 2) .nil)) (.bi .len (.cons (.var 3) .nil))))
 (.cons (.ret (.lit (.bool false)))
 .nil)
 .nil)
 (.cons (.ret (.bi .all (.cons (.comp (.call 12 (.cons (.var 4) (.cons (.var 5) .nil))) (.tup [(.nm 4), (.nm 5)]) [4, 5] (.zip false (.cons (.var 3) (.cons (.var 2) .nil))) .no) .nil)))
 .nil)))
def b_is_firing : Ss := (.cons (.ex (.call 8 (.cons (.var 0) (.cons (.var 1) .nil))))
 (.cons (.ret (.call 13 (.cons (.var 0) (.cons (.var 1) (.cons (.var 2) .nil)))))
 .nil))
def b_law_cell : Ss := (.cons (.ite (.cmp .lt (.var 1) (.bi .len (.cons (.var 0) .nil)))
 (.cons (.ret (.ix (.var 0) (.var 1)))
 .nil)
 .nil)
 (.cons (.ret (.lit (.int 0)))
 .nil))
def b_law_pen : Ss := (.cons (.asg (.nm 1) (.bi .max2 (.cons (.var 0) (.cons (.bin .sub (.lit (.int 0)) (.var 0)) .nil))))
 (.cons (.ret (.own (.lst (.cons (.var 1) (.cons (.bi .int (.cons (.cmp .ge (.var 1) (.bin .pow (.lit (.int 10)) (.lit (.int 18)))) .nil)) .nil)))))
 .nil))
def b_law_draw : Ss := (.cons (.ite (.cmp .eq (.ix (.var 0) (.lit (.int 1))) (.lit (.int 1)))
 (.cons (.asg (.tup [(.nm 3), (.nm 4)]) (.bi .divmod (.cons (.ix (.var 0) (.lit (.int 0))) (.cons (.var 1) .nil))))
 (.cons (.put (.var 0) (.lit (.int 0)) (.var 3))
 (.cons (.ret (.var 4))
 .nil)))
 .nil)
 (.cons (.asg (.nm 2) (.bin .mod (.bin .mul (.bin .add (.bin .mod (.ix (.var 0) (.lit (.int 0))) (.lit (.int 2147483647))) (.lit (.int 40503))) (.lit (.int 69621))) (.lit (.int 2147483629))))
 (.cons (.asg (.nm 2) (.bin .mod (.bin .add (.bin .mul (.var 2) (.var 2)) (.lit (.int 7817))) (.lit (.int 2147483587))))
 (.cons (.put (.var 0) (.lit (.int 0)) (.bin .mod (.bin .add (.bin .mul (.var 2) (.lit (.int 48271))) (.lit (.int 11))) (.lit (.int 2147483629))))
 (.cons (.ret (.bin .mod (.bin .fdiv (.ix (.var 0) (.lit (.int 0))) (.lit (.int 32))) (.var 1)))
 .nil)))))
def b_law_plant : Ss := (.cons (.asg (.nm 1) (.own (.lst .nil)))
 (.cons (.for_ (.nm 2) (.rng1 (.bin .add (.lit (.int 1)) (.call 17 (.cons (.var 0) (.cons (.lit (.int 4)) .nil)))))
 (.cons (.asg (.nm 6) (.ix (.lst (.cons (.lit (.int 1)) (.cons (.lit (.int 9)) (.cons (.bin .add (.lit (.int 1)) (.call 17 (.cons (.var 0) (.cons (.lit (.int 9)) .nil)))) .nil)))) (.call 17 (.cons (.var 0) (.cons (.lit (.int 3)) .nil)))))
 (.cons (.ex (.mt .append (.var 1) (.cons (.tup (.cons (.var 6) (.cons (.bin .add (.lit (.int 1)) (.call 17 (.cons (.var 0) (.cons (.ix (.lst (.cons (.lit (.int 3)) (.cons (.lit (.int 9)) .nil))) (.call 17 (.cons (.var 0) (.cons (.lit (.int 2)) .nil)))) .nil)))) .nil))) .nil)))
 .nil)))
 (.cons (.asg (.nm 3) (.own (.lst .nil)))
 (.cons (.for_ (.nm 2) (.rng1 (.call 17 (.cons (.var 0) (.cons (.lit (.int 5)) .nil))))
 (.cons (.ex (.mt .append (.var 3) (.cons (.tup (.cons (.bin .add (.lit (.int 1)) (.call 17 (.cons (.var 0) (.cons (.lit (.int 9)) .nil)))) (.cons (.call 17 (.cons (.var 0) (.cons (.lit (.int 8)) .nil))) (.cons (.bin .add (.lit (.int 1)) (.call 17 (.cons (.var 0) (.cons (.lit (.int 8)) .nil)))) .nil)))) .nil)))
 .nil))
 (.cons (.asg (.nm 4) (.ix (.lst (.cons (.lit (.int 0)) (.cons (.call 17 (.cons (.var 0) (.cons (.lit (.int 20)) .nil))) .nil))) (.call 17 (.cons (.var 0) (.cons (.lit (.int 2)) .nil)))))
 (.cons (.asg (.nm 5) (.bi .min2 (.cons (.lit (.int 40)) (.cons (.bin .add (.var 4) (.ix (.lst (.cons (.lit (.int 0)) (.cons (.lit (.int 3)) (.cons (.lit (.int 10)) (.cons (.lit (.int 40)) (.cons (.call 17 (.cons (.var 0) (.cons (.lit (.int 30)) .nil))) .nil)))))) (.call 17 (.cons (.var 0) (.cons (.lit (.int 5)) .nil))))) .nil))))
 (.cons (.ret (.tup (.cons (.bi .tuple (.cons (.var 1) .nil)) (.cons (.bi .tuple (.cons (.var 3) .nil)) (.cons (.tup (.cons (.var 4) (.cons (.var 5) (.cons (.bin .add (.var 4) (.call 17 (.cons (.var 0) (.cons (.bin .add (.bin .sub (.var 5) (.var 4)) (.lit (.int 1))) .nil)))) .nil)))) .nil)))))
 .nil)))))))
def b_law_story : Ss := (.cons (.asg (.tup [(.nm 4), (.nm 5)]) (.tup (.cons (.bin .add (.lit (.int 1)) (.call 17 (.cons (.var 0) (.cons (.lit (.int 8)) .nil)))) (.cons (.ix (.lst (.cons (.lit (.int 1)) (.cons (.lit (.int 4)) (.cons (.lit (.int 9)) (.cons (.lit (.int 21)) .nil))))) (.call 17 (.cons (.var 0) (.cons (.lit (.int 4)) .nil)))) .nil))))
 (.cons (.asg (.nm 2) (.own (.lst .nil)))
 (.cons (.for_ (.nm 3) (.rng1 (.call 17 (.cons (.var 0) (.cons (.lit (.int 5)) .nil))))
 (.cons (.asg (.nm 6) (.call 17 (.cons (.var 0) (.cons (.var 4) .nil))))
 (.cons (.asg (.nm 7) (.bin .add (.var 6) (.call 17 (.cons (.var 0) (.cons (.bin .sub (.var 4) (.var 6)) .nil)))))
 (.cons (.ex (.mt .append (.var 2) (.cons (.tup (.cons (.call 17 (.cons (.var 0) (.cons (.bi .len (.cons (.ix (.var 1) (.lit (.int 0))) .nil)) .nil))) (.cons (.ix (.lst (.cons (.lit (.str "out")) (.cons (.lit (.str "scaled")) .nil))) (.call 17 (.cons (.var 0) (.cons (.lit (.int 2)) .nil)))) (.cons (.var 6) (.cons (.var 7) .nil))))) .nil)))
 .nil))))
 (.cons (.ret (.tup (.cons (.bi .tuple (.cons (.comp (.call 17 (.cons (.var 0) (.cons (.var 5) .nil))) (.nm 8) [8] (.rng1 (.var 4)) .no) .nil)) (.cons (.bi .tuple (.cons (.var 2) .nil)) .nil))))
 .nil))))
def b_law_caps : Ss := (.cons (.asg (.nm 2) (.own (.lst .nil)))
 (.cons (.for_ (.nm 3) (.rng1 (.bi .len (.cons (.ix (.var 1) (.lit (.int 0))) .nil)))
 (.cons (.asg (.nm 4) (.own (.lst .nil)))
 (.cons (.for_ (.tup [(.nm 5), (.tup [(.nm 7), (.nm 8)])]) (.enm (.ix (.var 0) (.lit (.int 0))))
 (.cons (.asg (.nm 6) (.comp (.var 10) (.tup [(.nm 9), (.nm 10), (.nm 11), (.nm 12)]) [9, 10, 11, 12] (.seq (.ix (.var 1) (.lit (.int 1)))) (.so (.and (.cmp .eq (.var 9) (.var 5)) (.and (.cmp .le (.var 11) (.var 3)) (.cmp .le (.var 3) (.var 12)))))))
 (.cons (.ex (.mt .append (.var 4) (.cons (.ife (.cmp .isin (.lit (.str "out")) (.var 6)) (.lit (.int 0)) (.bin .fdiv (.var 7) (.bin .add (.lit (.int 1)) (.bi .int (.cons (.cmp .isin (.lit (.str "scaled")) (.var 6)) .nil))))) .nil)))
 .nil)))
 (.cons (.ex (.mt .append (.var 2) (.cons (.bi .tuple (.cons (.var 4) .nil)) .nil)))
 .nil))))
 (.cons (.ret (.bi .tuple (.cons (.var 2) .nil)))
 .nil)))
def b_law_firing : Ss := (.cons (.asg (.tup [(.nm 3), (.nm 4)]) (.tup (.cons (.call 17 (.cons (.var 0) (.cons (.lit (.int 4)) .nil))) (.cons (.own (.lst .nil)) .nil))))
 (.cons (.for_ (.nm 2) (.seq (.var 1))
 (.cons (.ex (.mt .append (.var 4) (.cons (.bi .tuple (.cons (.comp (.ix (.lst (.cons (.var 5) (.cons (.lit (.int 0)) (.cons (.call 17 (.cons (.var 0) (.cons (.bin .add (.var 5) (.lit (.int 1))) .nil))) (.cons (.call 17 (.cons (.var 0) (.cons (.bin .add (.var 5) (.lit (.int 1))) .nil))) .nil))))) (.var 3)) (.nm 5) [5] (.seq (.var 2)) .no) .nil)) .nil)))
 .nil))
 (.cons (.ret (.bi .tuple (.cons (.var 4) .nil)))
 .nil)))
def b_law_odd : Ss := (.cons (.asg (.nm 1) (.lst (.cons (.lit .none) (.cons (.lit (.bool true)) (.cons (.lit (.int 7)) (.cons (.lit (.str "0")) (.cons (.lit (.str "")) (.cons (.lst .nil) (.cons .dnew (.cons (.tup .nil) (.cons (.tup (.cons (.lit (.int 0)) .nil)) (.cons (.neg (.lit (.int 1))) (.cons (.tup (.cons (.lit (.int 0)) (.cons (.lit (.int 0)) .nil))) (.cons (.lst (.cons (.lit (.int 0)) .nil)) (.cons (.lit (.bool false)) (.cons (.tup (.cons (.tup .nil) .nil)) (.cons (.tup (.cons (.tup (.cons (.lit (.int 0)) .nil)) (.cons (.tup .nil) .nil))) (.cons (.lit (.int 41)) (.cons (.bin .pow (.lit (.int 10)) (.lit (.int 30))) .nil)))))))))))))))))))
 (.cons (.ret (.ix (.var 1) (.call 17 (.cons (.var 0) (.cons (.lit (.int 17)) .nil)))))
 .nil))
def b_law_kind : Ss := (.cons .die (.cons .die (.cons .die (.cons .die (.cons .die (.cons .die (.cons .die (.cons .die (.cons .die (.cons .die (.cons .die .nil)))))))))))
def b_law_said : Ss := (.cons .die .nil)
def b_law_number : Ss := (.cons (.ret (.and (.isi (.var 0) "int") (.and (.not (.isi (.var 0) "bool")) (.chain .le .le (.var 1) (.var 0) (.var 2)))))
 .nil)
def b_law_is_fault : Ss := (.cons (.ite (.or (.not (.isi (.var 2) "tuple")) (.or (.cmp .ne (.bi .len (.cons (.var 2) .nil)) (.lit (.int 4))) (.not (.call 25 (.cons (.ix (.var 2) (.lit (.int 0))) (.cons (.lit (.int 0)) (.cons (.bin .sub (.bi .len (.cons (.ix (.var 0) (.lit (.int 0))) .nil)) (.lit (.int 1))) .nil)))))))
 (.cons (.ret (.lit (.bool false)))
 .nil)
 .nil)
 (.cons (.ite (.or (.not (.isi (.ix (.var 2) (.lit (.int 1))) "str")) (.or (.cmp .nin (.ix (.var 2) (.lit (.int 1))) (.tup (.cons (.lit (.str "out")) (.cons (.lit (.str "scaled")) .nil)))) (.not (.call 25 (.cons (.ix (.var 2) (.lit (.int 3))) (.cons (.lit (.int 0)) (.cons (.bin .sub (.var 1) (.lit (.int 1))) .nil)))))))
 (.cons (.ret (.lit (.bool false)))
 .nil)
 .nil)
 (.cons (.ret (.call 25 (.cons (.ix (.var 2) (.lit (.int 2))) (.cons (.lit (.int 0)) (.cons (.ix (.var 2) (.lit (.int 3))) .nil)))))
 .nil)))
def b_law_is_story : Ss := (.cons (.ite (.or (.not (.isi (.var 1) "tuple")) (.or (.cmp .ne (.bi .len (.cons (.var 1) .nil)) (.lit (.int 2))) (.not (.isi (.ix (.var 1) (.lit (.int 0))) "tuple"))))
 (.cons (.ret (.lit (.bool false)))
 .nil)
 .nil)
 (.cons (.ite (.or (.cmp .eq (.bi .len (.cons (.ix (.var 1) (.lit (.int 0))) .nil)) (.lit (.int 0))) (.or (.cmp .gt (.bi .len (.cons (.ix (.var 1) (.lit (.int 0))) .nil)) (.lit (.int 8))) (.not (.bi .all (.cons (.comp (.call 25 (.cons (.var 2) (.cons (.lit (.int 0)) (.cons (.lit (.int 20)) .nil)))) (.nm 2) [2] (.seq (.ix (.var 1) (.lit (.int 0)))) .no) .nil)))))
 (.cons (.ret (.lit (.bool false)))
 .nil)
 .nil)
 (.cons (.ite (.or (.not (.isi (.ix (.var 1) (.lit (.int 1))) "tuple")) (.cmp .gt (.bi .len (.cons (.ix (.var 1) (.lit (.int 1))) .nil)) (.lit (.int 4))))
 (.cons (.ret (.lit (.bool false)))
 .nil)
 .nil)
 (.cons (.ret (.cmp .eq (.comp (.lit (.int 1)) (.nm 2) [2] (.seq (.ix (.var 1) (.lit (.int 1)))) (.so (.not (.call 26 (.cons (.var 0) (.cons (.bi .len (.cons (.ix (.var 1) (.lit (.int 0))) .nil)) (.cons (.var 2) .nil))))))) (.lst .nil)))
 .nil))))
def b_law_is_firing : Ss := (.cons (.ite (.or (.not (.isi (.var 1) "tuple")) (.cmp .ne (.bi .len (.cons (.var 1) .nil)) (.bi .len (.cons (.var 0) .nil))))
 (.cons (.ret (.lit (.bool false)))
 .nil)
 .nil)
 (.cons (.for_ (.tup [(.nm 2), (.nm 3)]) (.zip false (.cons (.var 1) (.cons (.var 0) .nil)))
 (.cons (.ite (.or (.not (.isi (.var 2) "tuple")) (.cmp .ne (.bi .len (.cons (.var 2) .nil)) (.bi .len (.cons (.var 3) .nil))))
 (.cons (.ret (.lit (.bool false)))
 .nil)
 .nil)
 (.cons (.ite (.not (.bi .all (.cons (.comp (.call 25 (.cons (.var 4) (.cons (.lit (.int 0)) (.cons (.var 5) .nil)))) (.tup [(.nm 4), (.nm 5)]) [4, 5] (.zip false (.cons (.var 2) (.cons (.var 3) .nil))) .no) .nil)))
 (.cons (.ret (.lit (.bool false)))
 .nil)
 .nil)
 .nil)))
 (.cons (.ret (.lit (.bool true)))
 .nil)))
def b_law_stories : Ss := (.cons (.asg (.tup [(.nm 7), (.nm 8)]) (.var 2))
 (.cons (.par 9 10 (.call 17 (.cons (.var 0) (.cons (.bi .len (.cons (.var 7) .nil)) .nil))) (.bi .len (.cons (.var 7) .nil)))
 (.cons (.asg (.nm 3) (.ix (.lst (.cons (.lit (.int 21)) (.cons (.neg (.lit (.int 1))) (.cons (.lit (.bool true)) (.cons (.lit .none) (.cons (.lit (.str "0")) (.cons (.lit (.int 20)) (.cons (.lit (.int 0)) (.cons (.tup (.cons (.lit (.int 0)) .nil)) .nil))))))))) (.call 17 (.cons (.var 0) (.cons (.lit (.int 8)) .nil)))))
 (.cons (.asg (.nm 4) (.own (.lst (.cons (.tup (.cons (.bin .add (.bin .add (.sl (.var 7) .no (.so (.var 9))) (.tup (.cons (.var 3) .nil))) (.sl (.var 7) (.so (.bin .add (.var 9) (.lit (.int 1)))) .no)) (.cons (.var 8) .nil))) (.cons (.tup (.cons (.var 7) (.cons (.bi .list (.cons (.var 8) .nil)) .nil))) (.cons (.tup (.cons (.bi .list (.cons (.var 7) .nil)) (.cons (.var 8) .nil))) .nil))))))
 (.cons (.asg (.nm 4) (.cat (.var 4) (.lst (.cons (.lst (.cons (.var 7) (.cons (.var 8) .nil))) (.cons (.tup (.cons (.tup .nil) (.cons (.tup .nil) .nil))) (.cons (.tup (.cons (.bin .mul (.tup (.cons (.lit (.int 0)) .nil)) (.lit (.int 8))) (.cons (.tup .nil) .nil))) (.cons (.tup (.cons (.bin .mul (.tup (.cons (.lit (.int 0)) .nil)) (.lit (.int 9))) (.cons (.tup .nil) .nil))) (.cons (.tup (.cons (.var 7) (.cons (.tup (.cons (.lit .none) .nil)) .nil))) (.cons (.tup (.cons (.var 7) .nil)) .nil)))))))))
 (.cons (.ex (.mt .append (.var 4) (.cons (.tup (.cons (.var 7) (.cons (.var 8) (.cons (.tup .nil) .nil)))) .nil)))
 (.cons (.asg (.nm 5) (.tup (.cons (.call 17 (.cons (.var 0) (.cons (.bi .len (.cons (.ix (.var 1) (.lit (.int 0))) .nil)) .nil))) (.cons (.lit (.str "out")) (.cons (.var 9) (.cons (.bin .sub (.var 10) (.lit (.int 1))) .nil))))))
 (.cons (.asg (.nm 6) (.lst (.cons (.var 5) (.cons (.tup (.cons (.bi .len (.cons (.ix (.var 1) (.lit (.int 0))) .nil)) (.cons (.lit (.str "out")) (.cons (.lit (.int 0)) (.cons (.lit (.int 0)) .nil))))) (.cons (.tup (.cons (.lit (.int 0)) (.cons (.lit (.str "outs")) (.cons (.lit (.int 0)) (.cons (.lit (.int 0)) .nil))))) (.cons (.tup (.cons (.lit (.int 0)) (.cons (.lit (.str "out")) (.cons (.lit (.int 0)) (.cons (.var 10) .nil))))) (.cons (.tup (.cons (.lit (.int 0)) (.cons (.lit (.str "out")) (.cons (.lit (.int 1)) (.cons (.lit (.int 0)) .nil))))) .nil)))))))
 (.cons (.asg (.nm 6) (.bin .add (.var 6) (.lst (.cons (.tup (.cons (.lit (.bool true)) (.cons (.lit (.str "out")) (.cons (.lit (.int 0)) (.cons (.lit (.int 0)) .nil))))) (.cons (.tup (.cons (.lit (.int 0)) (.cons (.lit (.str "scaled")) (.cons (.lit (.int 0)) (.cons (.lit (.bool false)) .nil))))) (.cons (.sl (.var 5) .no (.so (.lit (.int 3)))) (.cons (.bin .add (.var 5) (.tup (.cons (.lit (.int 0)) .nil))) (.cons (.bi .list (.cons (.var 5) .nil)) .nil))))))))
 (.cons (.asg (.nm 6) (.bin .add (.var 6) (.lst (.cons (.tup (.cons (.neg (.lit (.int 1))) (.cons (.lit (.str "out")) (.cons (.lit (.int 0)) (.cons (.lit (.int 0)) .nil))))) (.cons (.tup (.cons (.lit (.int 0)) (.cons (.lit (.int 0)) (.cons (.lit (.int 0)) (.cons (.lit (.int 0)) .nil))))) .nil)))))
 (.cons (.ret (.bin .add (.bin .add (.var 4) (.comp (.tup (.cons (.var 7) (.cons (.bin .add (.sl (.var 8) .no (.so (.lit (.int 3)))) (.tup (.cons (.var 11) .nil))) .nil))) (.nm 11) [11] (.seq (.var 6)) .no)) (.lst (.cons (.tup (.cons (.var 7) (.cons (.bin .mul (.tup (.cons (.var 5) .nil)) (.lit (.int 4))) .nil))) (.cons (.tup (.cons (.var 7) (.cons (.bin .mul (.tup (.cons (.var 5) .nil)) (.lit (.int 5))) .nil))) .nil)))))
 .nil)))))))))))
def b_law_firings : Ss := (.cons (.asg (.tup [(.nm 6), (.nm 7)]) (.tup (.cons (.call 17 (.cons (.var 0) (.cons (.bi .len (.cons (.var 1) .nil)) .nil))) (.cons (.call 17 (.cons (.var 0) (.cons (.bi .len (.cons (.ix (.var 1) (.lit (.int 0))) .nil)) .nil))) .nil))))
 (.cons (.asg (.nm 2) (.ix (.var 1) (.var 6)))
 (.cons (.asg (.nm 3) (.ix (.lst (.cons (.bin .add (.ix (.var 2) (.var 7)) (.lit (.int 1))) (.cons (.bin .add (.ix (.var 2) (.var 7)) (.lit (.int 1))) (.cons (.bin .sub (.ix (.var 2) (.var 7)) (.lit (.int 1))) (.cons (.lit (.int 10)) (.cons (.neg (.lit (.int 1))) (.cons (.lit (.bool true)) (.cons (.lit .none) (.cons (.lit (.str "0")) .nil))))))))) (.call 17 (.cons (.var 0) (.cons (.lit (.int 8)) .nil)))))
 (.cons (.asg (.nm 4) (.lst (.cons (.bin .add (.bin .add (.sl (.var 2) .no (.so (.var 7))) (.tup (.cons (.var 3) .nil))) (.sl (.var 2) (.so (.bin .add (.var 7) (.lit (.int 1)))) .no)) (.cons (.sl (.var 2) (.so (.lit (.int 1))) .no) (.cons (.bin .add (.var 2) (.tup (.cons (.lit (.int 0)) .nil))) (.cons (.bi .list (.cons (.var 2) .nil)) (.cons (.var 3) (.cons (.rev (.var 2)) .nil))))))))
 (.cons (.asg (.nm 5) (.comp (.bin .add (.bin .add (.sl (.var 1) .no (.so (.var 6))) (.tup (.cons (.var 8) .nil))) (.sl (.var 1) (.so (.bin .add (.var 6) (.lit (.int 1)))) .no)) (.nm 8) [8] (.seq (.var 4)) .no))
 (.cons (.ret (.bin .add (.var 5) (.lst (.cons (.sl (.var 1) (.so (.lit (.int 1))) .no) (.cons (.bin .add (.var 1) (.tup (.cons (.var 2) .nil))) (.cons (.bi .list (.cons (.var 1) .nil)) (.cons (.rev (.var 1)) .nil)))))))
 .nil))))))
def b_law : Ss := (.cons (.for_ (.nm 1) (.seq (.bin .add (.lst (.cons (.call 15 (.cons (.var 0) (.cons (.lit (.int 0)) .nil))) .nil)) (.sl (.var 0) (.so (.lit (.int 1))) (.so (.lit (.int 3))))))
 (.cons (.asg (.nm 2) (.call 16 (.cons (.var 1) .nil)))
 (.cons (.asg (.nm 3) (.call 18 (.cons (.var 2) .nil)))
 (.cons (.asg (.nm 4) (.call 19 (.cons (.var 2) (.cons (.var 3) .nil))))
 (.cons (.asg (.nm 5) (.call 20 (.cons (.var 3) (.cons (.var 4) .nil))))
 (.cons (.for_ (.nm 6) (.seq (.bin .add (.bin .add (.lst (.cons (.var 4) .nil)) (.call 29 (.cons (.var 2) (.cons (.var 3) (.cons (.var 4) .nil))))) (.lst (.cons (.call 22 (.cons (.var 2) .nil)) .nil))))
 (.cons (.asg (.nm 10) (.bi .repr (.cons (.var 6) .nil)))
 (.cons (.ite (.or (.cmp .ne (.bi .repr (.cons (.call 9 (.cons (.var 3) (.cons (.var 6) .nil))) .nil)) (.bi .repr (.cons (.call 27 (.cons (.var 3) (.cons (.var 6) .nil))) .nil))) (.cmp .ne (.bi .repr (.cons (.var 6) .nil)) (.var 10)))
 (.cons (.ret (.lit (.bool false)))
 .nil)
 .nil)
 .nil)))
 (.cons (.asg (.nm 7) (.call 21 (.cons (.var 2) (.cons (.var 5) .nil))))
 (.cons (.for_ (.nm 6) (.seq (.bin .add (.bin .add (.bin .add (.lst (.cons (.var 7) (.cons (.var 5) .nil))) (.call 30 (.cons (.var 2) (.cons (.var 7) .nil)))) (.call 30 (.cons (.var 2) (.cons (.var 5) .nil)))) (.lst (.cons (.call 22 (.cons (.var 2) .nil)) .nil))))
 (.cons (.par 10 12 (.bi .repr (.cons (.var 6) .nil)) (.call 28 (.cons (.var 5) (.cons (.var 6) .nil))))
 (.cons (.ite (.or (.cmp .ne (.bi .repr (.cons (.call 14 (.cons (.var 3) (.cons (.var 4) (.cons (.var 6) .nil)))) .nil)) (.bi .repr (.cons (.var 12) .nil))) (.cmp .ne (.bi .repr (.cons (.var 6) .nil)) (.var 10)))
 (.cons (.ret (.lit (.bool false)))
 .nil)
 .nil)
 .nil)))
 (.cons (.asg (.nm 8) (.lst (.cons (.lit .none) (.cons (.sl (.var 3) .no (.so (.lit (.int 2)))) (.cons (.bi .list (.cons (.var 3) .nil)) (.cons (.tup (.cons (.tup .nil) (.cons (.tup .nil) (.cons (.tup (.cons (.lit (.int 0)) (.cons (.lit (.int 0)) (.cons (.lit (.int 0)) .nil)))) .nil)))) (.cons (.bin .add (.var 3) (.tup (.cons (.lit (.int 0)) .nil))) .nil)))))))
 (.cons (.for_ (.nm 9) (.seq (.var 8))
 (.cons (.asg (.nm 11) (.own (.lst (.cons (.said 41 (.cons (.var 9) (.cons (.lit .none) .nil))) .nil))))
 (.cons (.ex (.mt .append (.var 11) (.cons (.said 46 (.cons (.var 9) (.cons (.lit .none) (.cons (.lit .none) .nil)))) .nil)))
 (.cons (.ite (.cmp .ne (.var 11) (.bin .mul (.lst (.cons (.tup (.cons (.lit (.str "plant")) .nil)) .nil)) (.lit (.int 2))))
 (.cons (.ret (.lit (.bool false)))
 .nil)
 .nil)
 .nil))))
 (.cons (.for_ (.nm 9) (.seq (.lst (.cons (.lit .none) (.cons (.tup (.cons (.tup .nil) (.cons (.tup .nil) .nil))) (.cons (.bi .list (.cons (.var 4) .nil)) (.cons (.sl (.var 4) .no (.so (.lit (.int 1)))) .nil))))))
 (.cons (.ite (.cmp .ne (.said 46 (.cons (.var 3) (.cons (.var 9) (.cons (.lit .none) .nil)))) (.tup (.cons (.lit (.str "story")) .nil)))
 (.cons (.ret (.lit (.bool false)))
 .nil)
 .nil)
 .nil))
 .nil)))))))))))
 (.cons (.ret (.lit (.bool true)))
 .nil))
def d_is_within : DR := ⟨"is_within", top 29, ["thing", "least", "most"], ["thing", "least", "most"], ⟨3, 3, b_is_within, false⟩, false⟩
def d_is_upto : DR := ⟨"is_upto", top 30, ["thing", "many"], ["thing", "many"], ⟨2, 2, b_is_upto, false⟩, false⟩
def d_are_within : DR := ⟨"are_within", top 31, ["thing", "bounds", "one", "least", "most"], ["thing", "bounds"], ⟨2, 5, b_are_within, false⟩, false⟩
def d_is_main : DR := ⟨"is_main", top 32, ["thing"], ["thing"], ⟨1, 1, b_is_main, false⟩, false⟩
def d_is_plant : DR := ⟨"is_plant", top 33, ["thing", "boilers", "engines", "one"], ["thing"], ⟨1, 4, b_is_plant, false⟩, false⟩
def d_is_fault : DR := ⟨"is_fault", top 34, ["many", "hours", "thing"], ["many", "hours", "thing"], ⟨3, 3, b_is_fault, false⟩, false⟩
def d_is_story_of : DR := ⟨"is_story_of", top 35, ["plant", "thing", "one"], ["plant", "thing"], ⟨2, 3, b_is_story_of, false⟩, false⟩
def d_need_plant : DR := ⟨"need_plant", top 36, ["thing"], ["thing"], ⟨1, 1, b_need_plant, false⟩, false⟩
def d_need_story : DR := ⟨"need_story", top 37, ["plant", "story"], ["plant", "story"], ⟨2, 2, b_need_story, false⟩, false⟩
def d_is_story : DR := ⟨"is_story", top 38, ["plant", "thing"], ["plant", "thing"], ⟨2, 2, b_is_story, false⟩, false⟩
def d_cap_at : DR := ⟨"cap_at", top 39, ["plant", "story", "hour", "boiler", "words", "make", "number", "word", "first", "last"], ["plant", "story", "hour", "boiler"], ⟨4, 10, b_cap_at, false⟩, false⟩
def d_caps_by : DR := ⟨"caps_by", top 40, ["plant", "story", "found", "hour", "boiler"], ["plant", "story"], ⟨2, 5, b_caps_by, false⟩, false⟩
def d_is_row_of : DR := ⟨"is_row_of", top 41, ["caps", "thing", "one", "cap"], ["caps", "thing"], ⟨2, 4, b_is_row_of, false⟩, false⟩
def d_is_firing_of : DR := ⟨"is_firing_of", top 42, ["plant", "story", "thing", "caps", "row", "one"], ["plant", "story", "thing"], ⟨3, 6, b_is_firing_of, false⟩, false⟩
def d_is_firing : DR := ⟨"is_firing", top 43, ["plant", "story", "thing"], ["plant", "story", "thing"], ⟨3, 3, b_is_firing, false⟩, false⟩
def d_law_cell : DR := ⟨"_law_cell", top 45, ["_law_script", "_law_k"], ["_law_script", "_law_k"], ⟨2, 2, b_law_cell, false⟩, false⟩
def d_law_pen : DR := ⟨"_law_pen", top 46, ["_law_cell_here", "_law_left"], ["_law_cell_here"], ⟨1, 2, b_law_pen, true⟩, false⟩
def d_law_draw : DR := ⟨"_law_draw", top 47, ["_law_pen_here", "_law_many", "_law_stir", "_law_left", "_law_got"], ["_law_pen_here", "_law_many"], ⟨2, 5, b_law_draw, false⟩, false⟩
def d_law_plant : DR := ⟨"_law_plant", top 48, ["_law_pen_here", "_law_boilers", "_law_turn", "_law_engines", "_law_low", "_law_high", "_law_make"], ["_law_pen_here"], ⟨1, 7, b_law_plant, false⟩, false⟩
def d_law_story : DR := ⟨"_law_story", top 49, ["_law_pen_here", "_law_plant_here", "_law_faults", "_law_turn", "_law_hours", "_law_most", "_law_first", "_law_last", "_law_hour"], ["_law_pen_here", "_law_plant_here"], ⟨2, 9, b_law_story, false⟩, false⟩
def d_law_caps : DR := ⟨"_law_caps", top 50, ["_law_plant_here", "_law_story_here", "_law_rows", "_law_hour", "_law_row", "_law_boiler", "_law_words", "_law_make", "_law_coal", "_law_one", "_law_word", "_law_first", "_law_last"], ["_law_plant_here", "_law_story_here"], ⟨2, 13, b_law_caps, false⟩, false⟩
def d_law_firing : DR := ⟨"_law_firing", top 51, ["_law_pen_here", "_law_caps_here", "_law_row", "_law_way", "_law_rows", "_law_cap"], ["_law_pen_here", "_law_caps_here"], ⟨2, 6, b_law_firing, false⟩, false⟩
def d_law_odd : DR := ⟨"_law_odd", top 52, ["_law_pen_here", "_law_some"], ["_law_pen_here"], ⟨1, 2, b_law_odd, false⟩, false⟩
def d_law_kind : DR := ⟨"_law_kind", top 53, ["_law_e", "_law_kinds", "_law_words", "_law_word"], ["_law_e"], ⟨1, 4, b_law_kind, false⟩, false⟩
def d_law_said : DR := ⟨"_law_said", top 54, ["_law_call", "_law_e"], ["_law_call"], ⟨1, 2, b_law_said, false⟩, false⟩
def d_law_number : DR := ⟨"_law_number", top 55, ["_law_thing", "_law_least", "_law_most"], ["_law_thing", "_law_least", "_law_most"], ⟨3, 3, b_law_number, false⟩, false⟩
def d_law_is_fault : DR := ⟨"_law_is_fault", top 56, ["_law_plant_here", "_law_hours", "_law_thing"], ["_law_plant_here", "_law_hours", "_law_thing"], ⟨3, 3, b_law_is_fault, false⟩, false⟩
def d_law_is_story : DR := ⟨"_law_is_story", top 57, ["_law_plant_here", "_law_thing", "_law_one"], ["_law_plant_here", "_law_thing"], ⟨2, 3, b_law_is_story, false⟩, false⟩
def d_law_is_firing : DR := ⟨"_law_is_firing", top 58, ["_law_caps_here", "_law_thing", "_law_row", "_law_most", "_law_one", "_law_cap"], ["_law_caps_here", "_law_thing"], ⟨2, 6, b_law_is_firing, false⟩, false⟩
def d_law_stories : DR := ⟨"_law_stories", top 59, ["_law_pen_here", "_law_plant_here", "_law_story_here", "_law_odd_here", "_law_rows", "_law_fault", "_law_near", "_law_extra", "_law_faults", "_law_at", "_law_hours", "_law_one"], ["_law_pen_here", "_law_plant_here", "_law_story_here"], ⟨3, 12, b_law_stories, false⟩, false⟩
def d_law_firings : DR := ⟨"_law_firings", top 60, ["_law_pen_here", "_law_firing_here", "_law_row", "_law_odd_here", "_law_rows", "_law_things", "_law_at", "_law_to", "_law_one"], ["_law_pen_here", "_law_firing_here"], ⟨2, 9, b_law_firings, false⟩, false⟩
def d_law : DR := ⟨"law", top 61, ["_law_script", "_law_cell_here", "_law_pen_here", "_law_plant_here", "_law_story_here", "_law_caps_here", "_law_thing", "_law_firing_here", "_law_bad", "_law_odd_here", "_law_kept", "_law_words", "_law_due"], ["_law_script"], ⟨1, 13, b_law, false⟩, true⟩
def ds : List DR := [d_is_within, d_is_upto, d_are_within, d_is_main, d_is_plant, d_is_fault, d_is_story_of, d_need_plant, d_need_story, d_is_story, d_cap_at, d_caps_by, d_is_row_of, d_is_firing_of, d_is_firing, d_law_cell, d_law_pen, d_law_draw, d_law_plant, d_law_story, d_law_caps, d_law_firing, d_law_odd, d_law_kind, d_law_said, d_law_number, d_law_is_fault, d_law_is_story, d_law_is_firing, d_law_stories, d_law_firings, d_law]
def ci : CI := ⟨ds.map (·.name), ["MOST_MAIN", "MOST_BOILERS", "MOST_ENGINES", "FAULTS", "MOST_EXTRA", "MOST_HOURS", "MOST_FAULTS"], [0, 1], false⟩
def cs : List D := [(.int 40), (.int 4), (.int 4), (.tuple [(.str "out"), (.str "scaled")]), (.int 20), (.int 8), (.int 4)]
end K02
set_option Elab.async false
set_option linter.all false
set_option maxRecDepth 100000
set_option maxHeartbeats 0
namespace K02
open PySem PySem.Spec PyProof.Rows L2 MZ MF
abbrev R : PySem.W.OpenRow := PySem.W.OpenLaw.row PySem.Challenge.rw_mainfires_k02_stories_and_firings_known
abbrev qv : Program := PySem.W.view R.prog [61]
abbrev hk : PySem.W.Hook := hookS 4 ds ci.cl (ci.cons.zip cs)
abbrev ob : PySem.W.SharedT → AlS := obS 4 ds ci.cl (ci.cons.zip cs)
def names : List PySem.Str := ("MainError" : PySem.Str) :: ("NoPlant" : PySem.Str) :: ("NoStory" : PySem.Str) :: ("NoFiring" : PySem.Str) :: ("NoHour" : PySem.Str) :: ("NoBoiler" : PySem.Str) :: ("NoPrices" : PySem.Str) :: ("NoWay" : PySem.Str) :: ("NoSet" : PySem.Str) :: ("NoTanks" : PySem.Str) :: ("NoPump" : PySem.Str) :: ("NoFeeding" : PySem.Str) :: ("NoReadings" : PySem.Str) :: ("NoStart" : PySem.Str) :: ("NoShifts" : PySem.Str) :: ("NoBook" : PySem.Str) :: ("NoAmount" : PySem.Str) :: ("NoDeed" : PySem.Str) :: ("NoLine" : PySem.Str) :: ("NoText" : PySem.Str) :: ("MOST_BOILERS" : PySem.Str) :: ("MOST_ENGINES" : PySem.Str) :: ("MOST_MAIN" : PySem.Str) :: ("MOST_HOURS" : PySem.Str) :: ("MOST_EXTRA" : PySem.Str) :: ("MOST_FAULTS" : PySem.Str) :: ("FAULTS" : PySem.Str) :: ("is_within" : PySem.Str) :: ("is_upto" : PySem.Str) :: ("are_within" : PySem.Str) :: ("is_main" : PySem.Str) :: ("is_plant" : PySem.Str) :: ("is_fault" : PySem.Str) :: ("is_story_of" : PySem.Str) :: ("need_plant" : PySem.Str) :: ("need_story" : PySem.Str) :: ("is_story" : PySem.Str) :: ("cap_at" : PySem.Str) :: ("caps_by" : PySem.Str) :: ("is_row_of" : PySem.Str) :: ("is_firing_of" : PySem.Str) :: ("is_firing" : PySem.Str) :: ("_law_cell" : PySem.Str) :: ("_law_pen" : PySem.Str) :: ("_law_draw" : PySem.Str) :: ("_law_plant" : PySem.Str) :: ("_law_story" : PySem.Str) :: ("_law_caps" : PySem.Str) :: ("_law_firing" : PySem.Str) :: ("_law_odd" : PySem.Str) :: ("_law_kind" : PySem.Str) :: ("_law_said" : PySem.Str) :: ("_law_number" : PySem.Str) :: ("_law_is_fault" : PySem.Str) :: ("_law_is_story" : PySem.Str) :: ("_law_is_firing" : PySem.Str) :: ("_law_stories" : PySem.Str) :: ("_law_firings" : PySem.Str) :: []
theorem run (w : World) : HandSHeadRun.RunEq R qv hk ob 8000 names w := by
  intro os
  kernel_rfl
end K02
set_option Elab.async false
set_option linter.all false
set_option maxRecDepth 100000
/-! the relation of the evaluator's state to the abstract heap -/
namespace MF
open PySem PySem.Spec PyProof.Rows L2

mutual
/-- the tree d stands at v: M, the addresses of what may change -/
inductive RD (K : PySem.W.Frag) (M : Addr → Prop) (H : Hp) : D → V → Prop
  | non : RD K M H .none .non
  | bl (b : Bool) : RD K M H (.bool b) (.bl b)
  | int (i : Int) : RD K M H (.int i) (.int i)
  | str (x : Str) : RD K M H (.str x) (.str x)
  | tup {a : Addr} {vs : List V} {ds : List D} : SqT K H a vs → RDs K M H ds vs → RD K M H (.tuple ds) (.ref a)
  | lst {a : Addr} {vs : List V} {ds : List D} : ¬ M a → H a = some (.lst vs) → RDs K M H ds vs → RD K M H (.list ds) (.ref a)
  | dct {a : Addr} {kv : List (Key × V)} {ds : List (D × D)} : ¬ M a → Rd H a (.dK kv) → RDk K M H ds kv → RD K M H (.dict ds) (.ref a)
inductive RDs (K : PySem.W.Frag) (M : Addr → Prop) (H : Hp) : List D → List V → Prop
  | nil : RDs K M H [] []
  | cons {d : D} {v : V} {ds : List D} {vs : List V} : RD K M H d v → RDs K M H ds vs → RDs K M H (d :: ds) (v :: vs)
inductive RDk (K : PySem.W.Frag) (M : Addr → Prop) (H : Hp) : List (D × D) → List (Key × V) → Prop
  | nil : RDk K M H [] []
  | cons {kd d : D} {k : Key} {v : V} {ds : List (D × D)} {kv : List (Key × V)} : kd = keyD k → RD K M H d v → RDk K M H ds kv → RDk K M H ((kd, d) :: ds) ((k, v) :: kv)
end
/-- from one state to another one in which no tree has changed -/
structure Kp (K : PySem.W.Frag) (M M' : Addr → Prop) (H H' : Hp) : Prop where
  tu : ∀ a vs, SqT K H a vs → SqT K H' a vs
  ls : ∀ a vs, ¬ M a → H a = some (.lst vs) → ¬ M' a ∧ H' a = some (.lst vs)
  di : ∀ a kv, ¬ M a → Rd H a (.dK kv) → ¬ M' a ∧ Rd H' a (.dK kv)
section
variable {K : PySem.W.Frag} {M M' : Addr → Prop} {H H' : Hp}
mutual
theorem RD.kp (k : Kp K M M' H H') : ∀ {d : D} {v : V}, RD K M H d v → RD K M' H' d v
  | _, _, .non => .non
  | _, _, .bl b => .bl b
  | _, _, .int i => .int i
  | _, _, .str x => .str x
  | _, _, .tup h r => .tup (k.tu _ _ h) (RDs.kp k r)
  | _, _, .lst m h r => .lst (k.ls _ _ m h).1 (k.ls _ _ m h).2 (RDs.kp k r)
  | _, _, .dct m h r => .dct (k.di _ _ m h).1 (k.di _ _ m h).2 (RDk.kp k r)
theorem RDs.kp (k : Kp K M M' H H') : ∀ {ds : List D} {vs : List V}, RDs K M H ds vs → RDs K M' H' ds vs
  | _, _, .nil => .nil
  | _, _, .cons r s => .cons (RD.kp k r) (RDs.kp k s)
theorem RDk.kp (k : Kp K M M' H H') : ∀ {ds : List (D × D)} {vs : List (Key × V)}, RDk K M H ds vs → RDk K M' H' ds vs
  | _, _, .nil => .nil
  | _, _, .cons e r s => .cons e (RD.kp k r) (RDk.kp k s)
end
theorem RDs.len : ∀ {ds : List D} {vs : List V}, RDs K M H ds vs → ds.length = vs.length
  | _, _, .nil => rfl
  | _, _, .cons _ s => by rw [List.length_cons, List.length_cons, RDs.len s]
theorem RDs.get : ∀ {ds : List D} {vs : List V} {i : Nat} {d : D}, RDs K M H ds vs → ds[i]? = some d → ∃ v, vs[i]? = some v ∧ RD K M H d v
  | _, _, _, _, .nil, e => by simp at e
  | _, _, 0, _, .cons r _, e => by simp at e; subst e; exact ⟨_, rfl, r⟩
  | _, _, i + 1, d, .cons _ s, e => by
    obtain ⟨v, h1, h2⟩ := RDs.get (i := i) (d := d) s (by simpa using e)
    exact ⟨v, by simpa using h1, h2⟩
theorem RDs.getV : ∀ {ds : List D} {vs : List V} {i : Nat} {v : V}, RDs K M H ds vs → vs[i]? = some v → ∃ d, ds[i]? = some d ∧ RD K M H d v
  | _, _, _, _, .nil, e => by simp at e
  | _, _, 0, _, .cons r _, e => by simp at e; subst e; exact ⟨_, rfl, r⟩
  | _, _, i + 1, d, .cons _ s, e => by
    obtain ⟨v, h1, h2⟩ := RDs.getV (i := i) (v := d) s (by simpa using e)
    exact ⟨v, by simpa using h1, h2⟩
theorem RDs.app : ∀ {ds es : List D} {vs ws : List V}, RDs K M H ds vs → RDs K M H es ws → RDs K M H (ds ++ es) (vs ++ ws)
  | _, _, _, _, .nil, s => s
  | _, _, _, _, .cons r t, s => .cons r (RDs.app t s)
theorem RDs.take : ∀ {ds : List D} {vs : List V} (n : Nat), RDs K M H ds vs → RDs K M H (ds.take n) (vs.take n)
  | _, _, 0, _ => .nil
  | _, _, _ + 1, .nil => .nil
  | _, _, n + 1, .cons r t => .cons r (RDs.take n t)
theorem RDs.drop : ∀ {ds : List D} {vs : List V} (n : Nat), RDs K M H ds vs → RDs K M H (ds.drop n) (vs.drop n)
  | _, _, 0, r => r
  | _, _, _ + 1, .nil => .nil
  | _, _, n + 1, .cons r t => RDs.drop n t
theorem RDs.set {d : D} {v : V} (r : RD K M H d v) : ∀ {ds : List D} {vs : List V} (i : Nat), RDs K M H ds vs → RDs K M H (ds.set i d) (vs.set i v)
  | _, _, _, .nil => .nil
  | _, _, 0, .cons _ t => .cons r t
  | _, _, i + 1, .cons q t => .cons q (RDs.set r i t)
theorem RDs.rev {ds : List D} {vs : List V} (h : RDs K M H ds vs) : RDs K M H ds.reverse vs.reverse := by
  have go : ∀ {ds : List D} {vs : List V}, RDs K M H ds vs → ∀ {es : List D} {ws : List V}, RDs K M H es ws → RDs K M H (ds.reverse ++ es) (vs.reverse ++ ws) := by
    intro ds
    induction ds with
    | nil => intro vs r es ws s; cases r; exact s
    | cons d ds ih =>
      intro vs r es ws s
      cases r with
      | cons r t =>
        rw [List.reverse_cons, List.reverse_cons, List.append_assoc, List.append_assoc]
        exact ih t (.cons r s)
  have q := go h RDs.nil
  rw [List.append_nil, List.append_nil] at q
  exact q
theorem RDs.rep {ds : List D} {vs : List V} (h : RDs K M H ds vs) : ∀ k : Nat, RDs K M H (List.replicate k ds).flatten (List.replicate k vs).flatten
  | 0 => .nil
  | k + 1 => by
    rw [List.replicate_succ, List.replicate_succ, List.flatten_cons, List.flatten_cons]
    exact h.app (RDs.rep h k)
theorem RDs.ints : ∀ {ns : List Int} {vs : List V}, RDs K M H (ns.map .int) vs → vs = ns.map V.int
  | [], _, .nil => rfl
  | n :: ns, _, .cons r s => by cases r; rw [RDs.ints (ns := ns) s]; rfl
theorem RDs.of_ints : ∀ (ns : List Int), RDs K M H (ns.map .int) (ns.map V.int)
  | [] => .nil
  | n :: ns => .cons (.int n) (RDs.of_ints ns)
theorem RDs.bools : ∀ {ns : List Bool} {vs : List V}, RDs K M H (ns.map .bool) vs → vs = ns.map V.bl
  | [], _, .nil => rfl
  | n :: ns, _, .cons r s => by cases r; rw [RDs.bools (ns := ns) s]; rfl
end
theorem intsD_eq : ∀ {ds : List D} {ns : List Int}, intsD ds = some ns → ds = ns.map .int
  | [], _, e => by simp [intsD] at e; subst e; rfl
  | .int i :: r, ns, e => by
    simp only [intsD, Option.map_eq_some_iff] at e
    obtain ⟨a, h1, h2⟩ := e
    subst h2
    rw [intsD_eq h1]; rfl
  | .none :: _, _, e => by simp [intsD] at e
  | .bool _ :: _, _, e => by simp [intsD] at e
  | .str _ :: _, _, e => by simp [intsD] at e
  | .list _ :: _, _, e => by simp [intsD] at e
  | .tuple _ :: _, _, e => by simp [intsD] at e
  | .dict _ :: _, _, e => by simp [intsD] at e
theorem boolsD_eq : ∀ {ds : List D} {ns : List Bool}, boolsD ds = some ns → ds = ns.map .bool
  | [], _, e => by simp [boolsD] at e; subst e; rfl
  | .bool i :: r, ns, e => by
    simp only [boolsD, Option.map_eq_some_iff] at e
    obtain ⟨a, h1, h2⟩ := e
    subst h2
    rw [boolsD_eq h1]; rfl
  | .none :: _, _, e => by simp [boolsD] at e
  | .int _ :: _, _, e => by simp [boolsD] at e
  | .str _ :: _, _, e => by simp [boolsD] at e
  | .list _ :: _, _, e => by simp [boolsD] at e
  | .tuple _ :: _, _, e => by simp [boolsD] at e
  | .dict _ :: _, _, e => by simp [boolsD] at e

/-! ### the state -/
def Live (φ : List Addr) (h : Hs) (a : Addr) : Prop := ∃ (k : Nat) (o : Ob), h[k]? = some o ∧ o ≠ Ob.dead ∧ φ[k]? = some a
def Mu (B : Addr → Prop) (φ : List Addr) (h : Hs) (a : Addr) : Prop := B a ∨ Live φ h a
def RKv (K : PySem.W.Frag) (M : Addr → Prop) (H : Hp) : List (Key × D) → List (Key × V) → Prop := Paired fun p q => p.1 = q.1 ∧ RD K M H p.2 q.2
def RO (K : PySem.W.Frag) (M : Addr → Prop) (H : Hp) (a : Addr) : Ob → Prop
  | .dead => True
  | .lst xs => ∃ vs, H a = some (.lst vs) ∧ RDs K M H xs vs
  | .dct l => ∃ kv, H a = some (.dK kv) ∧ RKv K M H l kv
/-- the tables of code objects that a text's lambdas fill -/
class LTab where
  l : List (Addr × Str)
theorem tabs_upd {T : List (Addr × Str)} {H : Hp} {p : Addr} {o : HO} (t : LamX.Tabs T H) (hp : H p = none ∨ (∃ xs, H p = some (.lst xs)) ∨ ∃ l, H p = some (.dK l)) : LamX.Tabs T (upd H p o) := fun q hq => by
  obtain ⟨ps, h1, h2, h3⟩ := t q hq
  have away : ∀ (a : Addr) (u : HO), H a = some u → (∀ xs, u ≠ .lst xs) → (∀ l, u ≠ .dK l) → a ≠ p := fun a u e n1 n2 z => by
    rw [z] at e
    rcases hp with g | ⟨xs, g⟩ | ⟨l, g⟩ <;> rw [e] at g <;> cases g
    · exact n1 xs rfl
    · exact n2 l rfl
  refine ⟨ps, by rw [upd_ne (away _ _ h1 (fun _ z => nomatch z) fun _ z => nomatch z)]; exact h1, h2, fun pos cv hc => ?_⟩
  obtain ⟨c, e1, e2⟩ := h3 pos cv hc
  exact ⟨c, e1, by rw [upd_ne (away _ _ e2 (fun _ z => by unfold LamX.CodeO at z; cases z) fun _ z => by unfold LamX.CodeO at z; cases z)]; exact e2⟩
structure RS [LTab] (K : PySem.W.Frag) (B : Addr → Prop) (φ : List Addr) (h : Hs) (H : Hp) : Prop where
  tb : LamX.Tabs LTab.l H
  len : φ.length = h.length
  inj : ∀ (i j : Nat) (a : Addr), φ[i]? = some a → φ[j]? = some a → (∃ o : Ob, h[i]? = some o ∧ o ≠ Ob.dead) → (∃ o : Ob, h[j]? = some o ∧ o ≠ Ob.dead) → i = j
  nb : ∀ a, B a → ¬ Live φ h a
  hb : ∀ a, B a → H a ≠ none
  ob : ∀ (k : Nat) (o : Ob) (a : Addr), h[k]? = some o → φ[k]? = some a → RO K (Mu B φ h) H a o
/-- how a state goes on -/
structure Ext (φ : List Addr) (h : Hs) (H : Hp) (φ' : List Addr) (h' : Hs) (H' : Hp) : Prop where
  pre : ∃ ψ, φ' = φ ++ ψ
  keep : ∀ a o, H a = some o → (∀ xs, o ≠ .lst xs) → (∀ l, o ≠ .dK l) → (∀ ob l, o ≠ .frz ob (.dK l)) → (∀ ps, o ≠ .tbl ps) → H' a = some o
  keepL : ∀ a xs, H a = some (.lst xs) → ¬ Live φ h a → H' a = some (.lst xs)
  keepD : ∀ a l, Rd H a (.dK l) → ¬ Live φ h a → Rd H' a (.dK l)
  keepF : ∀ a ob l, H a = some (.frz ob (.dK l)) → H' a = some (.frz ob (.dK l))
  new : ∀ a, Live φ' h' a → Live φ h a ∨ H a = none
  dom : ∀ a, H' a = none → H a = none
section
variable {φ φ' φ'' : List Addr} {h h' h'' : Hs} {H H' H'' : Hp}
theorem Ext.refl : Ext φ h H φ h H := ⟨⟨[], by simp⟩, fun _ _ e _ _ _ _ => e, fun _ _ e _ => e, fun _ _ e _ => e, fun _ _ _ e => e, fun _ e => .inl e, fun _ e => e⟩
theorem rd_some {a : Addr} {u : HO} (r : Rd H a u) : H a ≠ none := by
  rcases r with r | ⟨o, r⟩ <;> rw [r] <;> exact fun z => nomatch z
theorem Ext.trans (x : Ext φ h H φ' h' H') (y : Ext φ' h' H' φ'' h'' H'') : Ext φ h H φ'' h'' H'' where
  pre := by
    obtain ⟨a, ea⟩ := x.pre
    obtain ⟨b, eb⟩ := y.pre
    exact ⟨a ++ b, by rw [eb, ea, List.append_assoc]⟩
  keep := fun a o e h1 h2 h3 h4 => y.keep a o (x.keep a o e h1 h2 h3 h4) h1 h2 h3 h4
  keepL := fun a xs e n => y.keepL a xs (x.keepL a xs e n) fun z => (x.new a z).elim n fun q => by rw [q] at e; cases e
  keepD := fun a l e n => y.keepD a l (x.keepD a l e n) fun z => (x.new a z).elim n fun q => rd_some e q
  keepF := fun a ob l e => y.keepF a ob l (x.keepF a ob l e)
  new := fun a z => (y.new a z).elim (fun q => x.new a q) fun q => .inr (x.dom a q)
  dom := fun a z => x.dom a (y.dom a z)
theorem Ext.phi (x : Ext φ h H φ' h' H') {k : Nat} {a : Addr} (e : φ[k]? = some a) : φ'[k]? = some a := by
  obtain ⟨ψ, rfl⟩ := x.pre
  rw [List.getElem?_append_left (List.getElem?_eq_some_iff.mp e).1]
  exact e
variable {K : PySem.W.Frag} {B : Addr → Prop}
theorem Ext.kp (x : Ext φ h H φ' h' H') : Kp K (Mu B φ h) (Mu B φ' h') H H' where
  tu := fun a vs q => by
    rcases q with (q | ⟨o, q⟩) | q
    · exact .inl (.inl (x.keep _ _ q (fun _ z => nomatch z) (fun _ z => nomatch z) (fun _ _ z => nomatch z) fun _ z => nomatch z))
    · exact .inl (.inr ⟨o, x.keep _ _ q (fun _ z => nomatch z) (fun _ z => nomatch z) (fun _ _ z => nomatch z) fun _ z => nomatch z⟩)
    · exact .inr q
  ls := fun a vs m e => ⟨fun z => z.elim (fun q => m (.inl q)) fun q => (x.new a q).elim (fun q => m (.inr q)) (fun q => by rw [q] at e; cases e), x.keepL a vs e fun q => m (.inr q)⟩
  di := fun a kv m e => ⟨fun z => z.elim (fun q => m (.inl q)) fun q => (x.new a q).elim (fun q => m (.inr q)) (fun q => rd_some e q), x.keepD a kv e fun q => m (.inr q)⟩

/-- a slot's value -/
inductive RW (K : PySem.W.Frag) (φ : List Addr) (M : Addr → Prop) (H : Hp) : W → V → Prop
  | t {d : D} {v : V} : RD K M H d v → RW K φ M H (.t d) v
  | ref {k : Nat} {a : Addr} : φ[k]? = some a → RW K φ M H (.ref k) (.ref a)
  | pr {u w : W} {x y : V} {a : Addr} : SqT K H a [x, y] → RW K φ M H u x → RW K φ M H w y → RW K φ M H (.pr u w) (.ref a)
  | scr {ns : List Int} {a : Addr} : (¬ M a ∧ Rd H a (.lst (ns.map V.int))) ∨ (∀ H2, SqL K H2 a (ns.map V.int)) → RW K φ M H (.scr ns) (.ref a)
theorem RW.ext (x : Ext φ h H φ' h' H') {w : W} {v : V} (r : RW K φ (Mu B φ h) H w v) : RW K φ' (Mu B φ' h') H' w v := by
  induction r with
  | t r => exact .t (r.kp x.kp)
  | ref e => exact .ref (x.phi e)
  | pr s _ _ ih1 ih2 => exact .pr ((x.kp (K := K) (B := B)).tu _ _ s) ih1 ih2
  | scr s =>
    rcases s with ⟨m, s | ⟨o, s⟩⟩ | s
    · exact .scr (.inl ⟨((x.kp (K := K) (B := B)).ls _ _ m s).1, .inl ((x.kp (K := K) (B := B)).ls _ _ m s).2⟩)
    · refine .scr (.inl ⟨fun z => z.elim (fun q => m (.inl q)) fun q => (x.new _ q).elim (fun q => m (.inr q)) (fun q => by rw [q] at s; cases s), .inr ⟨o, x.keep _ _ s (fun _ z => nomatch z) (fun _ z => nomatch z) (fun _ _ z => nomatch z) fun _ z => nomatch z⟩⟩)
    · exact .scr (.inr s)
theorem RW.seqL {ns : List Int} {a : Addr} {M : Addr → Prop} (r : RW K φ M H (.scr ns) (.ref a)) : SqL K H a (ns.map V.int) := by
  cases r with
  | scr s => exact s.elim (fun z => .inl z.2) fun z => z H
/-- the slots -/
def RE (K : PySem.W.Frag) (φ : List Addr) (M : Addr → Prop) (H : Hp) (env : Ev) (σ : L2.St) : Prop := env.length = σ.length ∧ ∀ (i : Nat) (w : W), env[i]? = some (some w) → ∃ v, σ[i]? = some (some v) ∧ RW K φ M H w v
theorem RE.ext {env : Ev} {σ : L2.St} (x : Ext φ h H φ' h' H') (r : RE K φ (Mu B φ h) H env σ) : RE K φ' (Mu B φ' h') H' env σ :=
  ⟨r.1, fun i w e => let ⟨v, h1, h2⟩ := r.2 i w e; ⟨v, h1, h2.ext x⟩⟩
theorem RE.set {M : Addr → Prop} {env : Ev} {σ : L2.St} (r : RE K φ M H env σ) {i : Nat} {w : W} {v : V} (q : RW K φ M H w v) : RE K φ M H (env.set i (some w)) (σ.set i (some v)) := by
  refine ⟨by rw [List.length_set, List.length_set]; exact r.1, fun j u e => ?_⟩
  by_cases hj : i = j
  · subst hj
    by_cases hl : i < env.length
    · rw [List.getElem?_set_self hl] at e
      cases e
      exact ⟨v, List.getElem?_set_self (by rw [← r.1]; exact hl), q⟩
    · rw [List.getElem?_eq_none (by rw [List.length_set]; omega)] at e; cases e
  · rw [List.getElem?_set_ne hj] at e
    obtain ⟨x, h1, h2⟩ := r.2 j u e
    exact ⟨x, by rw [List.getElem?_set_ne hj]; exact h1, h2⟩
theorem RE.wipe {M : Addr → Prop} {env : Ev} {σ : L2.St} (r : RE K φ M H env σ) : ∀ vs : List Nat, RE K φ M H (wipeW env vs) (L2.wipe σ vs)
  | [] => r
  | v :: vs => by
    have q := RE.wipe r vs
    refine ⟨by unfold wipeW L2.wipe; rw [List.length_set, List.length_set]; exact q.1, fun j u e => ?_⟩
    unfold wipeW at e
    unfold L2.wipe
    by_cases hj : v = j
    · subst hj
      by_cases hl : v < (wipeW env vs).length
      · rw [List.getElem?_set_self hl] at e; cases e
      · rw [List.getElem?_eq_none (by rw [List.length_set]; omega)] at e; cases e
    · rw [List.getElem?_set_ne hj] at e ⊢
      exact q.2 j u e

/-! ### a new object; the heap's own steps -/
theorem Ext.fresh {p : Addr} {o : HO} (hp : H p = none) : Ext φ h H φ h (upd H p o) where
  pre := ⟨[], by simp⟩
  keep := fun a u e _ _ _ _ => by rw [upd_ne (ne_of_none e hp)]; exact e
  keepL := fun a xs e _ => by rw [upd_ne (ne_of_none e hp)]; exact e
  keepD := fun a l e _ => by
    rcases e with e | ⟨ob, e⟩
    · exact .inl (by rw [upd_ne (ne_of_none e hp)]; exact e)
    · exact .inr ⟨ob, by rw [upd_ne (ne_of_none e hp)]; exact e⟩
  keepF := fun a ob l e => by rw [upd_ne (ne_of_none e hp)]; exact e
  new := fun _ e => .inl e
  dom := fun a e => by
    by_cases ha : a = p
    · rw [ha]; exact hp
    · rw [upd_ne ha] at e; exact e
theorem RO.kp {M M' : Addr → Prop} (k : Kp K M M' H H') {a : Addr} {o : Ob} (r : RO K M H a o) (e : H' a = H a) : RO K M' H' a o := by
  cases o with
  | dead => trivial
  | lst xs =>
    obtain ⟨vs, h1, h2⟩ := r
    exact ⟨vs, e.trans h1, h2.kp k⟩
  | dct l =>
    obtain ⟨kv, h1, h2⟩ := r
    exact ⟨kv, e.trans h1, Paired.mapP h2 fun p q z => ⟨z.1, z.2.kp k⟩⟩
variable [LTab]
/-- a live object's address is tracked -/
theorem RS.live (r : RS K B φ h H) {a : Addr} (l : Live φ h a) : H a ≠ none := by
  obtain ⟨k, o, h1, h2, h3⟩ := l
  have q := r.ob k o a h1 h3
  cases o with
  | dead => exact absurd rfl h2
  | lst xs => obtain ⟨vs, e, _⟩ := q; rw [e]; exact fun z => nomatch z
  | dct l => obtain ⟨vs, e, _⟩ := q; rw [e]; exact fun z => nomatch z
theorem RS.fresh (r : RS K B φ h H) {p : Addr} {o : HO} (hp : H p = none) : RS K B φ h (upd H p o) := by
  refine ⟨tabs_upd r.tb (.inl hp), r.len, r.inj, r.nb, fun a b z => ?_, fun k ob a e1 e2 => ?_⟩
  · by_cases ha : a = p
    · exact absurd hp (by rw [← ha]; exact r.hb a b)
    · rw [upd_ne ha] at z; exact r.hb a b z
  · have q := r.ob k ob a e1 e2
    cases ob with
    | dead => trivial
    | lst xs => exact q.kp (Ext.fresh hp).kp (upd_ne fun z => by obtain ⟨vs, e, _⟩ := q; rw [z, hp] at e; cases e)
    | dct xs => exact q.kp (Ext.fresh hp).kp (upd_ne fun z => by obtain ⟨vs, e, _⟩ := q; rw [z, hp] at e; cases e)
theorem RS.at (r : RS K B φ h H) {k : Nat} {o : Ob} (e : h[k]? = some o) : ∃ a, φ[k]? = some a := by
  have hk := (List.getElem?_eq_some_iff.mp e).1
  exact ⟨φ[k]'(by rw [r.len]; exact hk), by rw [List.getElem?_eq_getElem (by rw [r.len]; exact hk)]⟩
/-- a new object that may change -/
theorem RS.new (r : RS K B φ h H) {p : Addr} {o : HO} {ob : Ob} (hp : H p = none) (ho : RO K (Mu B (φ ++ [p]) (h ++ [ob])) (upd H p o) p ob) :
    RS K B (φ ++ [p]) (h ++ [ob]) (upd H p o) ∧ Ext φ h H (φ ++ [p]) (h ++ [ob]) (upd H p o) := by
  have old : ∀ (k : Nat) (u : Ob) (a : Addr), (h ++ [ob])[k]? = some u → (φ ++ [p])[k]? = some a → (h[k]? = some u ∧ φ[k]? = some a) ∨ (k = h.length ∧ u = ob ∧ a = p) := fun k u a e1 e2 => by
    by_cases hk : k < h.length
    · rw [List.getElem?_append_left hk] at e1
      rw [List.getElem?_append_left (by rw [r.len]; exact hk)] at e2
      exact .inl ⟨e1, e2⟩
    · have hk' : k = h.length := by
        have := (List.getElem?_eq_some_iff.mp e1).1
        rw [List.length_append, List.length_singleton] at this
        omega
      subst hk'
      rw [List.getElem?_append_right (Nat.le_refl _)] at e1
      rw [List.getElem?_append_right (by rw [r.len]; exact Nat.le_refl _), r.len] at e2
      simp at e1 e2
      exact .inr ⟨rfl, e1.symm, e2.symm⟩
  have hlive : ∀ a, Live (φ ++ [p]) (h ++ [ob]) a → Live φ h a ∨ a = p := fun a ⟨k, u, h1, h2, h3⟩ => by
    rcases old k u a h1 h3 with ⟨q1, q2⟩ | ⟨_, _, q⟩
    · exact .inl ⟨k, u, q1, h2, q2⟩
    · exact .inr q
  have x : Ext φ h H (φ ++ [p]) (h ++ [ob]) (upd H p o) := by
    have y : Ext φ h H φ h (upd H p o) := Ext.fresh hp
    exact ⟨⟨[p], rfl⟩, y.keep, y.keepL, y.keepD, y.keepF, fun a z => (hlive a z).elim .inl fun q => .inr (by rw [q]; exact hp), y.dom⟩
  refine ⟨⟨tabs_upd r.tb (.inl hp), by rw [List.length_append, List.length_append, r.len]; rfl, fun i j a e1 e2 l1 l2 => ?_, fun a b z => ?_, fun a b z => ?_, fun k u a e1 e2 => ?_⟩, x⟩
  · obtain ⟨u1, l1, d1⟩ := l1
    obtain ⟨u2, l2, d2⟩ := l2
    rcases old i u1 a l1 e1 with ⟨q1, q2⟩ | ⟨q1, _, q2⟩ <;> rcases old j u2 a l2 e2 with ⟨q3, q4⟩ | ⟨q3, _, q4⟩
    · exact r.inj i j a q2 q4 ⟨u1, q1, d1⟩ ⟨u2, q3, d2⟩
    · exact absurd hp (by rw [← q4]; exact r.live ⟨i, u1, q1, d1, q2⟩)
    · exact absurd hp (by rw [← q2]; exact r.live ⟨j, u2, q3, d2, q4⟩)
    · rw [q1, q3]
  · rcases hlive a z with q | q
    · exact r.nb a b q
    · exact absurd hp (by rw [← q]; exact r.hb a b)
  · by_cases ha : a = p
    · exact absurd hp (by rw [← ha]; exact r.hb a b)
    · rw [upd_ne ha] at z; exact r.hb a b z
  · rcases old k u a e1 e2 with ⟨q1, q2⟩ | ⟨_, q1, q2⟩
    · have q := r.ob k u a q1 q2
      cases u with
      | dead => trivial
      | lst xs => exact q.kp x.kp (upd_ne fun z => by obtain ⟨vs, e, _⟩ := q; rw [z, hp] at e; cases e)
      | dct xs => exact q.kp x.kp (upd_ne fun z => by obtain ⟨vs, e, _⟩ := q; rw [z, hp] at e; cases e)
    · subst q1 q2
      exact ho
/-- a live object is written -/
theorem RS.write (r : RS K B φ h H) {k : Nat} {a : Addr} {u ob : Ob} {o : HO} (e : h[k]? = some u) (hu : u ≠ .dead) (ea : φ[k]? = some a) (hd : ob ≠ .dead) (ho : RO K (Mu B φ (h.set k ob)) (upd H a o) a ob) :
    RS K B φ (h.set k ob) (upd H a o) ∧ Ext φ h H φ (h.set k ob) (upd H a o) := by
  have hk := (List.getElem?_eq_some_iff.mp e).1
  have hla : Live φ h a := ⟨k, u, e, hu, ea⟩
  have hl : ∀ b, Live φ (h.set k ob) b → Live φ h b := fun b ⟨j, w, h1, h2, h3⟩ => by
    by_cases hj : k = j
    · subst hj
      rw [ea] at h3; cases h3
      exact hla
    · rw [List.getElem?_set_ne hj] at h1
      exact ⟨j, w, h1, h2, h3⟩
  have cell : ∀ b, H b ≠ none → upd H a o b ≠ none := fun b n z => by
    by_cases hb : b = a
    · rw [hb, upd_same] at z; cases z
    · rw [upd_ne hb] at z; exact n z
  have kind : (∃ xs, H a = some (.lst xs)) ∨ ∃ l, H a = some (.dK l) := by
    have q := r.ob k u a e ea
    cases u with
    | dead => exact absurd rfl hu
    | lst xs => obtain ⟨vs, e, _⟩ := q; exact .inl ⟨vs, e⟩
    | dct xs => obtain ⟨vs, e, _⟩ := q; exact .inr ⟨vs, e⟩
  have x : Ext φ h H φ (h.set k ob) (upd H a o) := by
    refine ⟨⟨[], by simp⟩, fun b w q h1 h2 h3 h4 => ?_, fun b xs q n => ?_, fun b l q n => ?_, fun b w l q => ?_, fun b z => .inl (hl b z), fun b z => ?_⟩
    · rw [upd_ne fun z => ?_]
      · exact q
      · rw [z] at q
        rcases kind with ⟨xs, q'⟩ | ⟨l, q'⟩ <;> rw [q] at q' <;> cases q'
        · exact h1 _ rfl
        · exact h2 _ rfl
    · rw [upd_ne fun z => n (by rw [z]; exact hla)]; exact q
    · have nb : b ≠ a := fun z => n (by rw [z]; exact hla)
      rcases q with q | ⟨w, q⟩
      · exact .inl (by rw [upd_ne nb]; exact q)
      · exact .inr ⟨w, by rw [upd_ne nb]; exact q⟩
    · rw [upd_ne fun z => ?_]
      · exact q
      · rw [z] at q
        rcases kind with ⟨xs, q'⟩ | ⟨l, q'⟩ <;> rw [q] at q' <;> cases q'
    · cases q : H b with
      | none => rfl
      | some w => exact absurd z (cell b (by rw [q]; exact fun z => nomatch z))
  refine ⟨⟨tabs_upd r.tb (.inr kind), by rw [List.length_set]; exact r.len, fun i j b e1 e2 l1 l2 => ?_, fun b hb z => r.nb b hb (hl b z), fun b hb => cell b (r.hb b hb), fun j w b e1 e2 => ?_⟩, x⟩
  · have lv : ∀ i : Nat, (∃ o : Ob, (h.set k ob)[i]? = some o ∧ o ≠ Ob.dead) → ∃ o : Ob, h[i]? = some o ∧ o ≠ Ob.dead := fun i hh => by
      obtain ⟨w, q1, q2⟩ := hh
      by_cases hj : k = i
      · subst hj; exact ⟨u, e, hu⟩
      · rw [List.getElem?_set_ne hj] at q1; exact ⟨w, q1, q2⟩
    exact r.inj i j b e1 e2 (lv i l1) (lv j l2)
  · by_cases hj : k = j
    · subst hj
      rw [List.getElem?_set_self hk] at e1
      cases e1
      rw [ea] at e2; cases e2
      exact ho
    · rw [List.getElem?_set_ne hj] at e1
      have q := r.ob j w b e1 e2
      by_cases hw : w = .dead
      · subst hw; trivial
      · refine q.kp x.kp (upd_ne fun z => hj ?_)
        exact r.inj k j a ea (by rw [← z]; exact e2) ⟨u, e, hu⟩ ⟨w, e1, hw⟩
/-- an object is frozen: it will not change any more -/
theorem RS.kill (r : RS K B φ h H) (k : Nat) : RS K B φ (h.set k .dead) H ∧ Ext φ h H φ (h.set k .dead) H := by
  have hl : ∀ b, Live φ (h.set k .dead) b → Live φ h b := fun b ⟨j, w, h1, h2, h3⟩ => by
    by_cases hj : k = j
    · subst hj
      by_cases hk : k < h.length
      · rw [List.getElem?_set_self hk] at h1; cases h1; exact absurd rfl h2
      · rw [List.getElem?_eq_none (by rw [List.length_set]; omega)] at h1; cases h1
    · rw [List.getElem?_set_ne hj] at h1
      exact ⟨j, w, h1, h2, h3⟩
  have x : Ext φ h H φ (h.set k .dead) H := ⟨⟨[], by simp⟩, fun _ _ e _ _ _ _ => e, fun _ _ e _ => e, fun _ _ e _ => e, fun _ _ _ e => e, fun b z => .inl (hl b z), fun _ e => e⟩
  refine ⟨⟨r.tb, by rw [List.length_set]; exact r.len, fun i j b e1 e2 l1 l2 => ?_, fun b hb z => r.nb b hb (hl b z), r.hb, fun j w b e1 e2 => ?_⟩, x⟩
  · have lv : ∀ i : Nat, (∃ o : Ob, (h.set k .dead)[i]? = some o ∧ o ≠ Ob.dead) → ∃ o : Ob, h[i]? = some o ∧ o ≠ Ob.dead := fun i hh => by
      obtain ⟨w, q1, q2⟩ := hh
      by_cases hj : k = i
      · subst hj
        have hk : k < h.length := by have := (List.getElem?_eq_some_iff.mp q1).1; rwa [List.length_set] at this
        rw [List.getElem?_set_self hk] at q1; cases q1; exact absurd rfl q2
      · rw [List.getElem?_set_ne hj] at q1; exact ⟨w, q1, q2⟩
    exact r.inj i j b e1 e2 (lv i l1) (lv j l2)
  · by_cases hj : k = j
    · subst hj
      have hk : k < h.length := by have := (List.getElem?_eq_some_iff.mp e1).1; rwa [List.length_set] at this
      rw [List.getElem?_set_self hk] at e1; cases e1
      trivial
    · rw [List.getElem?_set_ne hj] at e1
      exact (r.ob j w b e1 e2).kp x.kp rfl
/-- behind a call: the objects made within are forgotten -/
theorem Live.cut {n : Nat} {a : Addr} (l : Live (φ.take n) (h.take n) a) : Live φ h a := by
  obtain ⟨k, o, h1, h2, h3⟩ := l
  rw [List.getElem?_take] at h1 h3
  split at h1
  · rename_i hk
    rw [if_pos hk] at h3
    exact ⟨k, o, h1, h2, h3⟩
  · cases h1
theorem RS.cut (r : RS K B φ h H) (n : Nat) : RS K B (φ.take n) (h.take n) H := by
  have get : ∀ {α : Type} (l : List α) (k : Nat) (x : α), (l.take n)[k]? = some x → l[k]? = some x := fun l k x e => by
    rw [List.getElem?_take] at e
    split at e
    · exact e
    · cases e
  have kp : Kp K (Mu B φ h) (Mu B (φ.take n) (h.take n)) H H := ⟨fun _ _ e => e, fun a vs m e => ⟨fun z => z.elim (fun q => m (.inl q)) fun q => m (.inr q.cut), e⟩, fun a vs m e => ⟨fun z => z.elim (fun q => m (.inl q)) fun q => m (.inr q.cut), e⟩⟩
  refine ⟨r.tb, by rw [List.length_take, List.length_take, r.len], fun i j a e1 e2 ⟨o1, l1, d1⟩ ⟨o2, l2, d2⟩ => r.inj i j a (get _ _ _ e1) (get _ _ _ e2) ⟨o1, get _ _ _ l1, d1⟩ ⟨o2, get _ _ _ l2, d2⟩, fun a b z => r.nb a b z.cut, r.hb, fun k o a e1 e2 => ?_⟩
  exact (r.ob k o a (get _ _ _ e1) (get _ _ _ e2)).kp kp rfl
theorem Ext.cut (r : RS K B φ h H) (x : Ext φ h H φ' h' H') : Ext φ h H (φ'.take h.length) (h'.take h.length) H' := by
  obtain ⟨ψ, e⟩ := x.pre
  refine ⟨⟨[], by rw [e, ← r.len]; simp⟩, x.keep, x.keepL, x.keepD, x.keepF, fun a z => x.new a z.cut, x.dom⟩
theorem RD.cut {n : Nat} {d : D} {v : V} (r : RD K (Mu B φ h) H d v) : RD K (Mu B (φ.take n) (h.take n)) H d v :=
  r.kp ⟨fun _ _ e => e, fun a vs m e => ⟨fun z => z.elim (fun q => m (.inl q)) fun q => m (.inr q.cut), e⟩, fun a vs m e => ⟨fun z => z.elim (fun q => m (.inl q)) fun q => m (.inr q.cut), e⟩⟩

/-! ### reading and freezing -/
/-- what stands at v is read as d (it may change later) -/
def RP (K : PySem.W.Frag) (M : Addr → Prop) (H : Hp) : D → V → Prop
  | .list ds, v => ∃ a vs, v = .ref a ∧ H a = some (.lst vs) ∧ RDs K M H ds vs
  | .dict ds, v => ∃ a kv, v = .ref a ∧ Rd H a (.dK kv) ∧ RDk K M H ds kv
  | d, v => RD K M H d v
theorem RD.rp {M : Addr → Prop} {d : D} {v : V} (r : RD K M H d v) : RP K M H d v := by
  cases r with
  | lst m h s => exact ⟨_, _, rfl, h, s⟩
  | dct m h s => exact ⟨_, _, rfl, h, s⟩
  | non => exact .non
  | bl b => exact .bl b
  | int b => exact .int b
  | str b => exact .str b
  | tup h s => exact .tup h s
theorem RKv.rdk {M : Addr → Prop} : ∀ {l : List (Key × D)} {kv : List (Key × V)}, RKv K M H l kv → RDk K M H (l.map fun p => (keyD p.1, p.2)) kv
  | _, _, .nil => .nil
  | (k, d) :: l, (k', v) :: kv, .cons r s => by
    obtain ⟨e, q⟩ := r
    have e : k = k' := e
    subst e
    exact .cons rfl q (RKv.rdk s)
theorem peek_ok (r : RS K B φ h H) {w : W} {v : V} {d : D} (q : RW K φ (Mu B φ h) H w v) (e : w.peek h = some d) : RP K (Mu B φ h) H d v := by
  cases q with
  | t q => cases e; exact q.rp
  | @ref k a ea =>
    simp only [W.peek] at e
    cases hk : h[k]? with
    | none => rw [hk] at e; cases e
    | some o =>
      rw [hk] at e
      have q := r.ob k o a hk ea
      cases o with
      | dead => cases e
      | lst xs =>
        cases e
        obtain ⟨vs, h1, h2⟩ := q
        exact ⟨a, vs, rfl, h1, h2⟩
      | dct l =>
        cases e
        obtain ⟨vs, h1, h2⟩ := q
        exact ⟨a, vs, rfl, .inl h1, h2.rdk⟩
  | pr _ _ _ => cases e
  | scr _ => cases e
theorem frz_ok {w : W} : ∀ {φ : List Addr} {h h' : Hs} {v : V} {d : D}, RS K B φ h H → RW K φ (Mu B φ h) H w v → w.frz h = some (d, h') → RS K B φ h' H ∧ Ext φ h H φ h' H ∧ RD K (Mu B φ h') H d v := by
  induction w with
  | t d =>
    intro φ h h' v d r q e
    cases e
    cases q with
    | t q => exact ⟨r, Ext.refl, q⟩
  | ref k =>
    intro φ h h' v d r q e
    cases q with
    | @ref _ a ea =>
      simp only [W.frz] at e
      cases hk : h[k]? with
      | none => rw [hk] at e; cases e
      | some o =>
        rw [hk] at e
        have q := r.ob k o a hk ea
        obtain ⟨r2, x⟩ := r.kill k
        have hk' := (List.getElem?_eq_some_iff.mp hk).1
        have nm : o ≠ .dead → ¬ Mu B φ (h.set k .dead) a := fun no z => by
          rcases z with z | ⟨j, u, h1, h2, h3⟩
          · exact r.nb a z ⟨k, o, hk, no, ea⟩
          · by_cases hj : k = j
            · subst hj
              rw [List.getElem?_set_self hk'] at h1; cases h1; exact h2 rfl
            · rw [List.getElem?_set_ne hj] at h1
              exact hj (r.inj k j a ea h3 ⟨o, hk, no⟩ ⟨u, h1, h2⟩)
        cases o with
        | dead => cases e
        | lst xs =>
          cases e
          obtain ⟨vs, h1, h2⟩ := q
          exact ⟨r2, x, .lst (nm fun z => nomatch z) h1 (h2.kp x.kp)⟩
        | dct l =>
          cases e
          obtain ⟨vs, h1, h2⟩ := q
          exact ⟨r2, x, .dct (nm fun z => nomatch z) (.inl h1) (h2.rdk.kp x.kp)⟩
  | pr u w ihu ihw =>
    intro φ h h' v d r q e
    cases q with
    | @pr _ _ x y a s q1 q2 =>
      simp only [W.frz] at e
      cases e1 : u.frz h with
      | none => rw [e1] at e; cases e
      | some p =>
        obtain ⟨d1, h1⟩ := p
        rw [e1] at e
        simp only [Option.bind_some] at e
        cases e2 : w.frz h1 with
        | none => rw [e2] at e; cases e
        | some p2 =>
          obtain ⟨d2, h2⟩ := p2
          rw [e2] at e
          cases e
          obtain ⟨r1, x1, t1⟩ := ihu r q1 e1
          obtain ⟨r2, x2, t2⟩ := ihw r1 (q2.ext x1) e2
          exact ⟨r2, x1.trans x2, .tup (((x1.trans x2).kp (K := K) (B := B)).tu _ _ s) (.cons (t1.kp x2.kp) (.cons t2 .nil))⟩
  | scr ns => intro φ h h' v d r q e; cases e
def RWs (K : PySem.W.Frag) (φ : List Addr) (M : Addr → Prop) (H : Hp) : List W → List V → Prop := Paired (RW K φ M H)
theorem RWs.ext {ws : List W} {vs : List V} (x : Ext φ h H φ' h' H') (r : RWs K φ (Mu B φ h) H ws vs) : RWs K φ' (Mu B φ' h') H' ws vs := Paired.mapP r fun _ _ q => q.ext x
theorem frzs_ok : ∀ {ws : List W} {φ : List Addr} {h h' : Hs} {vs : List V} {ds : List D}, RS K B φ h H → RWs K φ (Mu B φ h) H ws vs → frzs ws h = some (ds, h') → RS K B φ h' H ∧ Ext φ h H φ h' H ∧ RDs K (Mu B φ h') H ds vs
  | [], φ, h, h', vs, ds, r, q, e => by
    cases e
    cases q
    exact ⟨r, Ext.refl, .nil⟩
  | w :: ws, φ, h, h', vs, ds, r, q, e => by
    cases q with
    | cons q1 q2 =>
      simp only [frzs] at e
      cases e1 : w.frz h with
      | none => rw [e1] at e; cases e
      | some p =>
        obtain ⟨d1, h1⟩ := p
        rw [e1] at e
        simp only [Option.bind_some] at e
        cases e2 : frzs ws h1 with
        | none => rw [e2] at e; cases e
        | some p2 =>
          obtain ⟨d2, h2⟩ := p2
          rw [e2] at e
          cases e
          obtain ⟨r1, x1, t1⟩ := frz_ok r q1 e1
          obtain ⟨r2, x2, t2⟩ := frzs_ok r1 (RWs.ext x1 q2) e2
          exact ⟨r2, x1.trans x2, .cons (t1.kp x2.kp) t2⟩
def RPs (K : PySem.W.Frag) (M : Addr → Prop) (H : Hp) : List D → List V → Prop := Paired (RP K M H)
theorem peeks_ok (r : RS K B φ h H) : ∀ {ws : List W} {vs : List V} {ds : List D}, RWs K φ (Mu B φ h) H ws vs → peeks ws h = some ds → RPs K (Mu B φ h) H ds vs
  | [], vs, ds, q, e => by
    cases e
    cases q
    exact .nil
  | w :: ws, vs, ds, q, e => by
    cases q with
    | cons q1 q2 =>
      simp only [peeks] at e
      cases e1 : w.peek h with
      | none => rw [e1] at e; cases e
      | some p =>
        rw [e1] at e
        simp only [Option.bind_some] at e
        cases e2 : peeks ws h with
        | none => rw [e2] at e; cases e
        | some p2 =>
          rw [e2] at e
          cases e
          exact .cons (peek_ok r q1 e1) (peeks_ok r q2 e2)
end
end MF

set_option Elab.async false
set_option linter.all false
set_option maxRecDepth 100000
set_option maxHeartbeats 4000000
/-! operations by values -/
namespace MF
open PySem PySem.Spec PyProof.Rows L2

/-! ### what is wanted behind a run of the evaluator -/
def Pg [LTab] {α : Type} (K : PySem.W.Frag) (B : Addr → Prop) (φ : List Addr) (h : Hs) (H : Hp) (Ex : Nat → Hp → Prop) (m : Res α) (C : List Addr → Hs → Hp → α → Prop) : Prop := match m with
  | .ok a h' => ∀ φ' H', Ext φ h H φ' h' H' → RS K B φ' h' H' → C φ' h' H' a
  | .exc c _ h' => ∀ φ' H', Ext φ h H φ' h' H' → RS K B φ' h' H' → Ex c H'
  | .bad => False
section
variable [LTab]
variable {α β : Type} {K : PySem.W.Frag} {B : Addr → Prop} {φ φ1 : List Addr} {h h1 : Hs} {H H1 : Hp} {Ex : Nat → Hp → Prop} {m : Res α} {f : α → Hs → Res β} {C : List Addr → Hs → Hp → α → Prop}
theorem Pg.mono {C' : List Addr → Hs → Hp → α → Prop} (p : Pg K B φ h H Ex m C) (g : ∀ φ' h' H' a, Ext φ h H φ' h' H' → RS K B φ' h' H' → C φ' h' H' a → C' φ' h' H' a) : Pg K B φ h H Ex m C' := by
  cases m with
  | ok a h' => exact fun φ' H' x r => g φ' h' H' a x r (p φ' H' x r)
  | exc c d h' => exact p
  | bad => exact p
theorem Pg.rebase (x : Ext φ h H φ1 h1 H1) (p : Pg K B φ h H Ex m C) : Pg K B φ1 h1 H1 Ex m C := by
  cases m with
  | ok a h' => exact fun φ' H' y r => p φ' H' (x.trans y) r
  | exc c d h' => exact fun φ' H' y r => p φ' H' (x.trans y) r
  | bad => exact p
theorem Pg.bind {C : List Addr → Hs → Hp → β → Prop} (p : Pg K B φ h H Ex (m.bind f) C) : Pg K B φ h H Ex m (fun φ1 h1 H1 a => Pg K B φ1 h1 H1 Ex (f a h1) C) := by
  cases m with
  | ok a h' => exact fun φ' H' x r => Pg.rebase x p
  | exc c d h' => exact p
  | bad => exact p
/-- an outcome that is known -/
theorem Pg.opt {o : Option α} {C : List Addr → Hs → Hp → α → Prop} (r : RS K B φ h H) (p : Pg K B φ h H Ex (Res.opt o h) C) : ∃ a, o = some a ∧ C φ h H a := by
  cases o with
  | none => exact p.elim
  | some a => exact ⟨a, rfl, p φ H Ext.refl r⟩
theorem Pg.optBind {o : Option α} {f : α → Hs → Res β} {C : List Addr → Hs → Hp → β → Prop} (p : Pg K B φ h H Ex ((Res.opt o h).bind f) C) : ∃ a, o = some a ∧ Pg K B φ h H Ex (f a h) C := by
  cases o with
  | none => exact p.elim
  | some a => exact ⟨a, rfl, p⟩
theorem Pg.okv {a : α} {C : List Addr → Hs → Hp → α → Prop} (r : RS K B φ h H) (p : Pg K B φ h H Ex (.ok a h) C) : C φ h H a := p φ H Ext.refl r
end
/-- a slot's value goes on -/
def CV (K : PySem.W.Frag) (B : Addr → Prop) (Q : VK) : List Addr → Hs → Hp → W → Prop := fun φ' h' H' w => ∀ v, RW K φ' (Mu B φ' h') H' w v → Q v H'
/-- a tree goes on, the heap's objects as they stand -/
def Yd [LTab] (K : PySem.W.Frag) (B : Addr → Prop) (φ : List Addr) (h : Hs) (H : Hp) (r : D) (Q : VK) : Prop := ∀ H' v, Ext φ h H φ h H' → RS K B φ h H' → RD K (Mu B φ h) H' r v → Q v H'
section
variable [LTab]
variable {K : PySem.W.Frag} {B : Addr → Prop} {φ : List Addr} {h : Hs} {H : Hp} {r : D} {Q : VK}
theorem Yd.of {Ex : Nat → Hp → Prop} (p : Pg K B φ h H Ex (.ok (.t r) h) (CV K B Q)) : Yd K B φ h H r Q := fun H' v x r d => p φ H' x r v (.t d)
theorem Yd.same (y : Yd K B φ h H r Q) (s : RS K B φ h H) {v : V} (d : RD K (Mu B φ h) H r v) : Q v H := y H v Ext.refl s d
theorem RS.notMu (s : RS K B φ h H) {p : Addr} (hp : H p = none) : ¬ Mu B φ h p := fun z => z.elim (fun b => s.hb p b hp) fun l => s.live l hp
theorem Yd.tup {ds : List D} {vs : List V} (y : Yd K B φ h H (.tuple ds) Q) (s : RS K B φ h H) (d : RDs K (Mu B φ h) H ds vs) : ∀ p, H p = none → Q (.ref p) (upd H p (.tup vs)) := fun p hp =>
  y _ _ (Ext.fresh hp) (s.fresh hp) (.tup (SqT.of upd_same) (d.kp (Ext.fresh hp).kp))
theorem Yd.lst {ds : List D} {vs : List V} (y : Yd K B φ h H (.list ds) Q) (s : RS K B φ h H) (d : RDs K (Mu B φ h) H ds vs) : ∀ p, H p = none → Q (.ref p) (upd H p (.lst vs)) := fun p hp =>
  y _ _ (Ext.fresh hp) (s.fresh hp) (.lst (s.notMu hp) upd_same (d.kp (Ext.fresh hp).kp))
end
/-! what is read, by shapes -/
section
variable {K : PySem.W.Frag} {M : Addr → Prop} {H : Hp} {v : V}
theorem RP.int {i : Int} (r : RP K M H (.int i) v) : v = .int i := by
  have r : RD K M H (.int i) v := r
  cases r; rfl
theorem RP.str {i : Str} (r : RP K M H (.str i) v) : v = .str i := by
  have r : RD K M H (.str i) v := r
  cases r; rfl
theorem RP.bl {i : Bool} (r : RP K M H (.bool i) v) : v = .bl i := by
  have r : RD K M H (.bool i) v := r
  cases r; rfl
theorem RP.non (r : RP K M H .none v) : v = .non := by
  have r : RD K M H .none v := r
  cases r; rfl
theorem RP.tup {ds : List D} (r : RP K M H (.tuple ds) v) : ∃ a vs, v = .ref a ∧ SqT K H a vs ∧ RDs K M H ds vs := by
  have r : RD K M H (.tuple ds) v := r
  cases r with
  | tup s q => exact ⟨_, _, rfl, s, q⟩
mutual
theorem RD.dp : ∀ {d : D} {v : V}, RD K M H d v → d.hasDict = false → Dp K H v d
  | _, _, .non, _ => .non
  | _, _, .bl b, _ => .bl b
  | _, _, .int i, _ => .int i
  | _, _, .str x, _ => .str x
  | _, _, .tup s r, e => .tup s (RDs.dp r (by simpa [PyData.hasDict] using e))
  | _, _, .lst _ s r, e => .lst (SqL.of s) (RDs.dp r (by simpa [PyData.hasDict] using e))
  | _, _, .dct _ _ _, e => by simp [PyData.hasDict] at e
theorem RDs.dp : ∀ {ds : List D} {vs : List V}, RDs K M H ds vs → PyData.hasDictAll ds = false → DpAll K H vs ds
  | _, _, .nil, _ => .nil
  | _, _, .cons r s, e => by
    simp only [PyData.hasDictAll, Bool.or_eq_false_iff] at e
    exact .cons (RD.dp r e.1) (RDs.dp s e.2)
end
theorem RP.dp {d : D} (r : RP K M H d v) (e : d.hasDict = false) : Dp K H v d := by
  cases d with
  | list ds =>
    obtain ⟨a, vs, rfl, h, s⟩ := r
    exact .lst (SqL.of h) (s.dp (by simpa [PyData.hasDict] using e))
  | dict ds => simp [PyData.hasDict] at e
  | none => exact RD.dp r e
  | bool b => exact RD.dp r e
  | int b => exact RD.dp r e
  | str b => exact RD.dp r e
  | tuple b => exact RD.dp r e
theorem shaped_nd {d : D} (e : SeqAt.shaped d = true) : d.hasDict = false := PyData.hasDict_of_canLay d (SeqAt.canLay_of_shaped e)
end
theorem lim_line {n : Nat} (h : n ≤ lim) : n ≤ sizeLine := by rw [sizeLine_eq]; unfold lim at h; omega

/-! ### a * 1 of a tuple -/
section
theorem tuple_mul1 (l : Addr) (items : Array Value) (n : Nat) (dd : Option Addr) (sl : Array (Option Value)) (u : Tok) :
    Meets (Builtin.«tuple.__mul__» ⟨[.ref l, .int 1 u], []⟩) (fun _ R s => s.heap.get? l = some { cls := .type "tuple", dict := dd, data := .seq items n, slots := sl } ∧ R (.ok (.ret (Value.ref l))) s) :=
  .of_wp fun prog w A R s h => by
    obtain ⟨hp, g, d, tk, os⟩ := s
    obtain ⟨hl, h⟩ := h
    have f1 := AutoSeq1.idx_int
    wp_walk using wpAny_loadPart' hl
    repeat (first
      | (refine wpAny_ite_false (decide_eq_false (by decide)) ?_; wp_walk using wpAny_loadPart' hl)
      | (refine wpAny_ite_true (decide_eq_true (by simp)) ?_; wp_walk using wpAny_loadPart' hl))
    exact ⟨_, rfl, h⟩
end
end MF

set_option Elab.async false
set_option linter.all false
set_option maxRecDepth 100000
/-! a dict is no tuple -/
namespace MF
open PySem PySem.Spec PySem.SeqAt PyProof.Rows L2
open AutoSeq1 (wpAny_loadPart')
open MeetsSeq
section
variable {prog : Program} {w : World} {A : Around} {s : Shared}
theorem tuple_eq_declines_dict (l b : Addr) (items : Array Value) (n : Nat) (dd : Option Addr) (sl : Array (Option Value)) (o : Obj) :
    Meets (Builtin.«tuple.__eq__» ⟨[.ref l, .ref b], []⟩) (fun _ R s => s.heap.get? l = some { cls := .type "tuple", dict := dd, data := .seq items n, slots := sl } ∧ s.heap.get? b = some o ∧ o.cls = .type "dict" ∧ R (.ok (.ret .notImplemented)) s) :=
  .of_wp fun prog w A R s h => by
    obtain ⟨hp, g, d, tk, os⟩ := s
    obtain ⟨hl, hb, hc, h⟩ := h
    obtain ⟨c, dd2, da, sl2⟩ := o
    simp only at hc
    subst hc
    have f1 := F.sub_dict_tuple
    wp_walk using wpAny_loadPart' hl, wpAny_loadPart' hb
    exact ⟨_, rfl, h⟩
theorem dict_declines_tuple (l b : Addr) {E : Value → Shared → Prop} {Q : Value → Shared → Prop} (hd : s.TypeIs (.ref b) "dict") (ht : s.TypeIs (.ref l) "tuple") (h : Q .notImplemented s) :
    wpAny (model prog w) A (call (.builtin "dict.__eq__") [.ref b, .ref l]) Q E s := by
  refine wpAny_call_entry PySem.F.slot_dict_eq hd PySem.F.entry_dict_eq ?_ (PySem.F.args_dict_eq_2 _ _)
  show wpAny _ _ (Builtin.Dict.dictSlotArgs "__eq__" ⟨[.ref b, .ref l], []⟩ >>= _) _ _ s
  refine wpAny_bind ?_
  unfold Builtin.Dict.dictSlotArgs
  refine wpAny_bind (wpAny_notOrdered_dict hd ?_)
  show wpAny _ _ (pure (Value.ref b, Value.ref l)) _ _ s
  refine wpAny_pure ?_
  refine wpAny_bind (wpAny_isInstance (T := "tuple") ht PySem.F.sub_tuple_dict ?_)
  simp only [Bool.not_false, if_true]
  exact wpAny_bind (wpAny_rule (wpAny_pure ⟨_, rfl, h⟩))
theorem ne_of_dict_tuple {l b : Addr} {items : Array Value} (hl : s.heap.IsTuple l items) (hb : s.TypeIs (.ref b) "dict") : b ≠ l := fun e => by
  subst e
  obtain ⟨o, ho, hc, _⟩ := hl
  obtain ⟨o2, ho2, hc2⟩ := hb
  rw [ho] at ho2
  cases ho2
  rw [hc] at hc2
  exact absurd hc2 (by simp)
theorem RcAt_dict_tuple {l b : Addr} {items : Array Value} (hb : s.TypeIs (.ref b) "dict") (hl : s.heap.IsTuple l items) (hu : A.units < cLine) : RcAt A s (.ref b) (.ref l) false := fun prog w E Q h => by
  have hne := ne_of_dict_tuple hl hb
  obtain ⟨⟨cls, dd, data, sl⟩, ho, hc, n, hd⟩ := id hl
  obtain ⟨o2, ho2, hc2⟩ := id hb
  simp only at hc hd
  subst hc hd
  exact (rc_eq_decline_or (k := false) hb ⟨_, ho, rfl⟩ (by decide) F.sub_tuple_dict F.slot_dict_eq F.slot_tuple_eq_refl
    (fun _ hq => dict_declines_tuple l b hb ⟨_, ho, rfl⟩ hq)
    (fun _ hq => call_meets F.slot_tuple_eq_refl ⟨_, ho, rfl⟩ F.entry_tuple_eq (F.args_tuple_eq_2 _ _) (tuple_eq_declines_dict l b items n dd sl o2) ⟨ho, ho2, hc2, hq⟩)
    (fun _ hq => wpAny_isSame_ref_other hne ho2 ho (by rw [hc2]; simp) hq) (.inr hu) h)
end
section
variable {X : Cx}
theorem op_eq_dt (hu : X.A.units + 64 < cLine) : OpR X (compareOp .Eq) (fun x y H Q => ∃ a b kv vs, x = .ref a ∧ y = .ref b ∧ Rd H a (.dK kv) ∧ SqT X.K H b vs ∧ Q (.bl false) H) := by
  intro pins s σ H x y v u Q I rx ry h
  obtain ⟨a, b, kv, vs, rfl, rfl, h1, h2, q⟩ := h
  obtain rfl : v = Value.ref a := rx
  obtain rfl : u = Value.ref b := ry
  obtain ⟨_, ya, va, ra, da⟩ := (show ObjOk X.prog X.w H s.heap a (.dK kv) from h1.ok I.hok)
  obtain ⟨its, rv, hl, _⟩ := I.tuple h2
  exact RcAt_dict_tuple (da.typeIs) hl (by omega) X.prog X.w _ _ ⟨.bl false, H, I, rfl, q⟩
end
end MF

set_option Elab.async false
set_option linter.all false
set_option maxRecDepth 100000
set_option maxHeartbeats 4000000
/-! two-place operations, comparisons, truth, subscripts -/
namespace MF
open PySem PySem.Spec PyProof.Rows L2
variable [LTab]

def opOf : Op2 → Operator
  | .add => .Add | .sub => .Sub | .mul => .Mult | .fdiv => .FloorDiv | .mod => .Mod | .pow => .Pow
def cpOf : Cp → CmpOp
  | .eq => .Eq | .ne => .NotEq | .lt => .Lt | .le => .LtE | .gt => .Gt | .ge => .GtE | .isin => .In | .nin => .NotIn | .isn => .Is | .isnn => .IsNot
def rBin (K : PySem.W.Frag) (f : D → D → Option D) : R2 := fun x y H Q => ∃ (B : Addr → Prop) (φ : List Addr) (h : Hs) (d e r : D), RS K B φ h H ∧ RP K (Mu B φ h) H d x ∧ RP K (Mu B φ h) H e y ∧ f d e = some r ∧ Yd K B φ h H r Q
section
variable {X : Cx}
theorem op_mul1 : OpR X (binaryOp .Mult) (fun x y H Q => ∃ l xs, x = .ref l ∧ y = .int 1 ∧ SqT X.K H l xs ∧ Q (.ref l) H) := by
  intro pins s σ H x y v u Q I rx ry h
  obtain ⟨l, xs, rfl, rfl, hT, q⟩ := h
  cases rx
  obtain ⟨t, rfl⟩ := ry
  obtain ⟨its, r, ⟨⟨cls, dd, data, sl⟩, ho, hc, n, hd⟩, hs⟩ := I.tuple hT
  simp only at hc hd
  subst hc hd
  exact wpAny_binaryOp_repeat_ref (T := "tuple") (U := "int") (by decide) ⟨_, ho, rfl⟩ (fun s' => typeIs_int s' 1 t) noFill_tuple_mul F.fills_int_mul F.slot_int_rmul repeat_tuple F.slot_int_index.lookup
    (call_meets F.slot_int_rmul (typeIs_int s 1 t) F.entry_int_rmul (F.args_int_rmul_2 _ _) (int_rmul_tuple 1 t l its.toArray n dd sl)
      ⟨ho, rfl, ⟨_, ho, rfl⟩, call_meets F.slot_tuple_mul ⟨_, ho, rfl⟩ F.entry_tuple_mul (F.args_tuple_mul_2 _ _) (tuple_mul1 l its.toArray n dd sl t) ⟨ho, ⟨.ref l, H, I, rfl, q⟩⟩⟩)
theorem op_bin (o : Op2) : OpR X (binaryOp (opOf o)) (rBin X.K (binD o)) := by
  intro pins s σ H x y v u Q I rx ry ⟨B, φ, h, d, e, r, S, p1, p2, eq, yd⟩
  cases o with
  | add =>
    cases d <;> cases e <;> simp only [binD] at eq <;> try (cases eq)
    · obtain rfl := p1.int
      obtain rfl := p2.int
      exact op_add pins s σ H _ _ v u Q I rx ry ⟨_, _, rfl, rfl, yd.same S (.int _)⟩
    · obtain rfl := p1.str
      obtain rfl := p2.str
      split at eq
      · cases eq
        exact op_add_str pins s σ H _ _ v u Q I rx ry ⟨_, _, rfl, rfl, lim_line (by assumption), yd.same S (.str _)⟩
      · cases eq
    · obtain ⟨a, vs, rfl, h1, d1⟩ := p1
      obtain ⟨b, ws, rfl, h2, d2⟩ := p2
      split at eq
      · rename_i hz
        cases eq
        exact op_cat pins s σ H _ _ v u Q I rx ry ⟨a, b, vs, ws, rfl, rfl, h1, h2, by rw [← d1.len, ← d2.len]; exact lim_line hz, yd.lst S (d1.app d2)⟩
      · cases eq
    · obtain ⟨a, vs, rfl, h1, d1⟩ := p1.tup
      obtain ⟨b, ws, rfl, h2, d2⟩ := p2.tup
      split at eq
      · rename_i hz
        cases eq
        refine op_catA pins s σ H _ _ v u Q I rx ry ⟨a, b, vs, ws, rfl, rfl, h1, h2, by rw [← d1.len, ← d2.len]; exact lim_line hz, fun e1 => ?_, fun _ e1 => ?_, fun _ _ => yd.tup S (d1.app d2)⟩
        · subst e1
          cases d1
          exact yd.same S (.tup h2 d2)
        · subst e1
          cases d2
          exact yd.same S (.tup h1 (by rw [List.append_nil]; exact d1))
      · cases eq
  | sub =>
    cases d <;> cases e <;> simp only [binD] at eq <;> try (cases eq)
    obtain rfl := p1.int
    obtain rfl := p2.int
    exact op_sub pins s σ H _ _ v u Q I rx ry ⟨_, _, rfl, rfl, yd.same S (.int _)⟩
  | mul =>
    cases d <;> cases e <;> simp only [binD] at eq <;> try (cases eq)
    · obtain rfl := p1.int
      obtain rfl := p2.int
      split at eq
      · rename_i hz
        cases eq
        exact op_mul pins s σ H _ _ v u Q I rx ry ⟨_, _, rfl, rfl, (by unfold fitMul at hz; unfold CMul; exact of_decide_eq_true hz), yd.same S (.int _)⟩
      · cases eq
    · obtain ⟨a, vs, rfl, h1, d1⟩ := p1
      obtain rfl := p2.int
      split at eq
      · rename_i hz
        cases eq
        refine op_rep pins s σ H _ _ v u Q I rx ry ⟨a, _, vs, rfl, rfl, h1, by omega, by omega, ?_, yd.lst S (d1.rep _)⟩
        have a1 : vs.length * (‹Int›).toNat ≤ 1000 * 1000 := Nat.mul_le_mul (by rw [← d1.len]; exact hz.1) (by omega)
        rw [sizeLine_eq]
        omega
      · cases eq
    · obtain ⟨a, vs, rfl, h1, d1⟩ := p1.tup
      obtain rfl := p2.int
      rename_i i
      split at eq
      · rename_i hz
        cases eq
        by_cases hi : i = 1
        · subst hi
          refine op_mul1 pins s σ H _ _ v u Q I rx ry ⟨a, vs, rfl, rfl, h1, yd.same S ?_⟩
          refine .tup h1 ?_
          have q := d1.rep 1
          unfold repD
          simpa using d1
        · refine op_repT pins s σ H _ _ v u Q I rx ry ⟨a, _, vs, rfl, rfl, h1, ?_, by omega, by omega, by rw [← d1.len]; exact hz.1, yd.tup S (d1.rep _)⟩
          intro e
          subst e
          cases d1
          exact hz.2.1 rfl
      · cases eq
  | fdiv =>
    cases d <;> cases e <;> simp only [binD] at eq <;> try (cases eq)
    obtain rfl := p1.int
    obtain rfl := p2.int
    split at eq
    · rename_i hz
      cases eq
      exact op_fdiv pins s σ H _ _ v u Q I rx ry ⟨_, _, rfl, rfl, hz, yd.same S (.int _)⟩
    · cases eq
  | mod =>
    cases d <;> cases e <;> simp only [binD] at eq <;> try (cases eq)
    obtain rfl := p1.int
    obtain rfl := p2.int
    split at eq
    · rename_i hz
      cases eq
      exact op_mod pins s σ H _ _ v u Q I rx ry ⟨_, _, rfl, rfl, hz, yd.same S (.int _)⟩
    · cases eq
  | pow =>
    cases d <;> cases e <;> simp only [binD] at eq <;> try (cases eq)
    obtain rfl := p1.int
    obtain rfl := p2.int
    split at eq
    · rename_i hz
      cases eq
      exact op_pow pins s σ H _ _ v u Q I rx ry ⟨_, _, rfl, rfl, hz, yd.same S (.int _)⟩
    · cases eq
theorem op_negD : UnR X (unaryOp .USub) (fun x H Q => ∃ i, x = .int i ∧ Q (.int (-i)) H) := un_neg

/-! ### comparisons -/
theorem flat_v {K : PySem.W.Frag} {M : Addr → Prop} {H : Hp} {d : D} {v : V} (r : RD K M H d v) (f : flatD d = true) : flatV v = true := by
  cases r <;> first | rfl | (simp [flatD] at f)
theorem flat_vs {K : PySem.W.Frag} {M : Addr → Prop} {H : Hp} : ∀ {ds : List D} {vs : List V}, RDs K M H ds vs → ds.all flatD = true → vs.all flatV = true
  | _, _, .nil, _ => rfl
  | _, _, .cons r s, f => by
    rw [List.all_cons, Bool.and_eq_true] at f
    rw [List.all_cons, flat_v r f.1, flat_vs s f.2]; rfl
theorem eqv_v {K : PySem.W.Frag} {M : Addr → Prop} {H : Hp} {d e : D} {v w : V} (r : RD K M H d v) (q : RD K M H e w) (f : flatD d = true) (g : flatD e = true) : PyData.eqv d e = eqV v w := by
  cases r <;> first | (simp [flatD] at f; done) | (cases q <;> first | (simp [flatD] at g; done) | rfl | (simp [PyData.eqv, eqV]))
theorem any_v {K : PySem.W.Frag} {M : Addr → Prop} {H : Hp} {e : D} {w : V} (q : RD K M H e w) (g : flatD e = true) : ∀ {ds : List D} {vs : List V}, RDs K M H ds vs → ds.all flatD = true → (ds.any fun y => PyData.eqv y e) = inV w vs
  | _, _, .nil, _ => rfl
  | _, _, .cons r s, f => by
    rw [List.all_cons, Bool.and_eq_true] at f
    unfold inV
    rw [List.any_cons, List.any_cons, eqv_v r q f.1 g, any_v q g s f.2]
    rfl
theorem rp_flat {K : PySem.W.Frag} {M : Addr → Prop} {H : Hp} {d : D} {v : V} (r : RP K M H d v) (f : flatD d = true) : RD K M H d v := by
  cases d <;> first | exact r | (simp [flatD] at f)
theorem getK_v {K : PySem.W.Frag} {M : Addr → Prop} {H : Hp} (k : Key) : ∀ {ds : List (D × D)} {kv : List (Key × V)} {l : List (Key × D)}, RDk K M H ds kv → kvsOf ds = some l →
    (∃ d v, getK l k = some d ∧ valV kv k = some v ∧ RD K M H d v) ∨ (getK l k = none ∧ valV kv k = none)
  | _, _, _, .nil, e => by simp [kvsOf] at e; subst e; exact .inr ⟨rfl, rfl⟩
  | _, _, l, .cons (k := k') (ds := ds) (v := v) (kv := kv) e r s, q => by
    subst e
    have hk : keyOf (keyD k') = some k' := by cases k' <;> rfl
    simp only [kvsOf, hk, Option.bind_some] at q
    cases q2 : kvsOf ds with
    | none => rw [q2] at q; cases q
    | some l2 =>
      rw [q2] at q
      cases q
      by_cases hkk : k' = k
      · subst hkk
        exact .inl ⟨_, v, by simp [getK], by simp [valV], r⟩
      · have h2 : valV ((k', v) :: kv) k = valV kv k := by simp [valV, hkk]
        rw [h2]
        simp only [getK, if_neg hkk]
        exact getK_v k s q2
theorem keyOf_v {K : PySem.W.Frag} {M : Addr → Prop} {H : Hp} {d : D} {k : Key} {v : V} (r : RP K M H d v) (e : keyOf d = some k) : v = kV k := by
  cases d <;> simp only [keyOf] at e <;> first | (cases e; done) | (cases e; first | exact r.int | exact r.str)
/-- a member, or none -/
theorem op_mem (hu : X.A.units + 64 < cLine) (neg : Bool) : OpR X (compareOp (if neg then .NotIn else .In)) (fun x y H Q => ∃ (B : Addr → Prop) (φ : List Addr) (h : Hs) (d e : D) (r : Bool), RP X.K (Mu B φ h) H d x ∧ RP X.K (Mu B φ h) H e y ∧ memD d e = some r ∧ Q (.bl (if neg then !r else r)) H) := by
  intro pins s σ H x y v u Q I rx ry ⟨B, φ, h, d, e, r, p1, p2, eq, q⟩
  have seq : ∀ {p : Addr} {ds : List D} {vs : List V}, y = .ref p → (SqL X.K H p vs ∨ SqT X.K H p vs) → RDs X.K (Mu B φ h) H ds vs → inD d ds = some r → wpAny (model X.prog X.w) X.A (compareOp (if neg then .NotIn else .In) v u) (EP X pins σ Q) X.xe s := by
    intro p ds vs hy hs hd he
    unfold inD at he
    split at he
    · rename_i hf
      cases he
      have fd := rp_flat p1 hf.1
      have e2 := any_v fd hf.1 hd hf.2
      cases neg with
      | true => exact op_notIn_seq pins s σ H _ _ v u Q I rx ry ⟨p, vs, hy, hs, flat_v fd hf.1, flat_vs hd hf.2, by simpa [e2] using q⟩
      | false => exact op_in_seq pins s σ H _ _ v u Q I rx ry ⟨p, vs, hy, hs, flat_v fd hf.1, flat_vs hd hf.2, by simpa [e2] using q⟩
    · cases he
  cases e with
  | list ds =>
    obtain ⟨a, vs, hy, h1, d1⟩ := p2
    refine seq hy (.inl (SqL.of h1)) d1 ?_
    cases d <;> exact eq
  | tuple ds =>
    have eq' : inT d ds = some r := by cases d <;> exact eq
    unfold inT at eq'
    split at eq'
    · rename_i z hz
      cases eq'
      obtain ⟨a, vs, hy, h1, d1⟩ := p2.tup
      exact seq hy (.inr h1) d1 hz
    · unfold inDeep at eq'
      split at eq'
      · rename_i hs
        cases eq'
        have lt : PyData.canLay0 (.tuple ds) = true := by rw [PyData.canLay0]; exact hs.2.2
        have hd := p1.dp (shaped_nd hs.1)
        have he := p2.dp (PyData.hasDict_of_canLay _ lt)
        obtain ⟨as, r1⟩ := Dp.reads I d x v hd rx
        obtain ⟨bs, r2⟩ := Dp.reads I (.tuple ds) y u he ry
        have room : X.A.units + 1 + min (PyData.depthAll ds) d.depth < cLine := by
          have := Nat.min_le_right (PyData.depthAll ds) d.depth
          omega
        cases neg with
        | true => exact SeqAt.notIn_tuple_reads r2 r1 hs.2.2 (SeqAt.canLay_of_shaped hs.1) room ⟨.bl _, H, I, rfl, by simpa using q⟩
        | false => exact SeqAt.in_tuple_reads r2 r1 hs.2.2 (SeqAt.canLay_of_shaped hs.1) room ⟨.bl _, H, I, rfl, by simpa using q⟩
      · cases eq'
  | str z =>
    cases d with
    | str c =>
      simp only [memD] at eq
      obtain rfl := p1.str
      obtain rfl := p2.str
      split at eq
      · rename_i s1 hs1
        cases eq
        have hc : c = ⟨#[s1]⟩ := by
          cases c with
          | mk cps =>
            have : cps = #[s1] := by
              apply Array.ext'
              simpa using hs1
            rw [this]
        subst hc
        cases neg with
        | true => exact op_notIn_sign pins s σ H _ _ v u Q I rx ry ⟨s1, z, rfl, rfl, q⟩
        | false => exact op_in_sign pins s σ H _ _ v u Q I rx ry ⟨s1, z, rfl, rfl, q⟩
      · cases eq
    | _ => cases eq
  | dict kvs =>
    obtain ⟨a, kv, rfl, h1, d1⟩ := p2
    have eq' : ((keyOf d).bind fun k => (kvsOf kvs).map fun l => (getK l k).isSome) = some r := by cases d <;> exact eq
    obtain ⟨k, hk, eq2⟩ := Option.bind_eq_some_iff.mp eq'
    obtain ⟨l, hl, rfl⟩ := Option.map_eq_some_iff.mp eq2
    obtain rfl := keyOf_v p1 hk
    have g : DGet H a (kV k) (valV kv k) := .inl ⟨kv, k, h1, rfl, rfl⟩
    have hs : (valV kv k).isSome = (getK l k).isSome := by
      rcases getK_v k d1 hl with ⟨d, v, e1, e2, _⟩ | ⟨e1, e2⟩ <;> rw [e1, e2] <;> rfl
    obtain rfl : u = Value.ref a := ry
    cases neg with
    | true => exact d_notIn (by omega) I g rx fun s' I' => ⟨.bl _, H, I', rfl, by rw [hs]; exact q⟩
    | false => exact d_in (by omega) I g rx fun s' I' => ⟨.bl _, H, I', rfl, by rw [hs]; exact q⟩
  | none => cases d <;> cases eq
  | bool b => cases d <;> cases eq
  | int b => cases d <;> cases eq
theorem nonD_v {K : PySem.W.Frag} {M : Addr → Prop} {H : Hp} {d : D} {v : V} (r : RP K M H d v) : decide (v = .non) = nonD d := by
  cases d with
  | none => obtain rfl := r.non; rfl
  | bool b => obtain rfl := r.bl; rfl
  | int b => obtain rfl := r.int; rfl
  | str b => obtain rfl := r.str; rfl
  | tuple ds => obtain ⟨a, vs, rfl, _⟩ := r.tup; rfl
  | list ds => obtain ⟨a, vs, rfl, _⟩ := r; rfl
  | dict ds => obtain ⟨a, vs, rfl, _⟩ := r; rfl
def rCmp (K : PySem.W.Frag) (o : Cp) : R2 := fun x y H Q => ∃ (B : Addr → Prop) (φ : List Addr) (h : Hs) (d e : D) (r : Bool), RP K (Mu B φ h) H d x ∧ RP K (Mu B φ h) H e y ∧ cmpD o d e = some r ∧ Q (.bl r) H
theorem strsD_eq {d e : D} {r : Bool} (h : strsD d e = some r) : ∃ x y, d = .str x ∧ e = .str y ∧ r = (x == y) := by
  unfold strsD at h
  split at h
  · cases h; exact ⟨_, _, rfl, rfl, rfl⟩
  · cases h
theorem RDk.len {K : PySem.W.Frag} {M : Addr → Prop} {H : Hp} : ∀ {ds : List (D × D)} {kv : List (Key × V)}, RDk K M H ds kv → ds.length = kv.length
  | _, _, .nil => rfl
  | _, _, .cons _ _ s => by rw [List.length_cons, List.length_cons, RDk.len s]
theorem bb_eq {a b : Bool} : (a == b) = decide (a = b) := by cases a <;> cases b <;> rfl
theorem cmpD_ne {d e : D} {r : Bool} (eq : cmpD .ne d e = some r) : (∃ kvs, d = .dict kvs ∧ e = .dict [] ∧ r = !kvs.isEmpty) ∨ (eqD d e).map (!·) = some r := by
  cases d <;> cases e <;> first | exact .inr eq | skip
  rename_i kvs kvs2
  cases kvs2 with
  | nil => exact .inl ⟨_, rfl, rfl, (Option.some.inj eq).symm⟩
  | cons _ _ => exact .inr eq
theorem op_cmp (hu : X.A.units + 64 < cLine) (o : Cp) : OpR X (compareOp (cpOf o)) (rCmp X.K o) := by
  intro pins s σ H x y v u Q I rx ry ⟨B, φ, h, d, e, r, p1, p2, eq, q⟩
  have iints : ∀ {f : Int → Int → Bool} {g : CmpOp}, OpR X (compareOp g) (rI0 fun i j => .bl (f i j)) → (∀ d e, cmpD o d e = match d, e with | .int i, .int j => some (f i j) | _, _ => none) → wpAny (model X.prog X.w) X.A (compareOp g v u) (EP X pins σ Q) X.xe s := by
    intro f g hg hc
    rw [hc] at eq
    split at eq
    · cases eq
      obtain rfl := p1.int
      obtain rfl := p2.int
      exact hg pins s σ H _ _ v u Q I rx ry ⟨_, _, rfl, rfl, q⟩
    · cases eq
  cases o with
  | eq =>
    simp only [cmpD, eqT] at eq
    split at eq
    · rename_i z hz0
      cases eq
      simp only [eqD] at hz0
      split at hz0
      · rename_i z hz
        cases hz0
        obtain ⟨x', y', rfl, rfl, rfl⟩ := strsD_eq hz
        obtain rfl := p1.str
        obtain rfl := p2.str
        exact op_eq pins s σ H _ _ v u Q I rx ry ⟨rfl, by rw [dec_str]; exact q⟩
      split at hz0
      · rename_i hs
        cases hz0
        exact op_eqD hu pins s σ H _ _ v u Q I rx ry ⟨d, e, p1.dp (shaped_nd hs.1), p2.dp (shaped_nd hs.2), hs.1, hs.2, q⟩
      · cases hz0
    split at eq
    · rename_i hs
      cases eq
      cases d <;> simp only [isDct, Bool.false_eq_true, false_and] at hs
      cases e <;> simp only [isTup, Bool.false_eq_true, and_false] at hs
      obtain ⟨a, kv, rfl, h1, -⟩ := p1
      obtain ⟨b, vs, rfl, h2, -⟩ := p2.tup
      exact op_eq_dt hu pins s σ H _ _ v u Q I rx ry ⟨a, b, kv, vs, rfl, rfl, h1, h2, q⟩
    · cases eq
  | ne =>
    rcases cmpD_ne eq with ⟨kvs, rfl, rfl, rfl⟩ | eq
    · obtain ⟨a, kv, rfl, h1, d1⟩ := p1
      obtain ⟨b, kv2, rfl, h2, d2⟩ := p2
      cases d2
      obtain rfl : v = Value.ref a := rx
      obtain rfl : u = Value.ref b := ry
      obtain ⟨-, na, ea, ra, da⟩ := dk_rd I.hok h1
      obtain ⟨-, nb, eb, rb, db⟩ := dk_rd I.hok h2
      cases rb
      have len : ea.length = kvs.length := by
        have l1 := ra.length
        have l2 := d1.len
        omega
      refine PySem.W.keq_ne (knd := mixKind X.prog X.w) (r := true) na nb da db (by omega) (fun hl => ?_) ⟨.bl _, H, I, rfl, ?_⟩
      · have : ea = [] := List.length_eq_zero_iff.mp (by simpa using hl)
        subst this
        cases ra
        exact hits_all .nil .nil (fun p hp => by simp at hp)
      · have : (!(ea.length == ([] : List (Key × Value)).length && true)) = !kvs.isEmpty := by
          rw [Bool.and_true, len]
          cases kvs <;> simp
        rw [this]; exact q
    simp only [eqD] at eq
    split at eq
    · rename_i z hz
      cases eq
      obtain ⟨x', y', rfl, rfl, rfl⟩ := strsD_eq hz
      obtain rfl := p1.str
      obtain rfl := p2.str
      exact op_ne pins s σ H _ _ v u Q I rx ry ⟨rfl, by rw [dec_str]; exact q⟩
    split at eq
    · rename_i hs
      cases eq
      exact op_neD hu pins s σ H _ _ v u Q I rx ry ⟨d, e, p1.dp (shaped_nd hs.1), p2.dp (shaped_nd hs.2), hs.1, hs.2, q⟩
    · cases eq
  | lt => exact iints op_lt fun d e => by cases d <;> cases e <;> rfl
  | le => exact iints op_le fun d e => by cases d <;> cases e <;> rfl
  | gt => exact iints op_gt fun d e => by cases d <;> cases e <;> rfl
  | ge => exact iints op_ge fun d e => by cases d <;> cases e <;> rfl
  | isin =>
    have eq' : memD d e = some r := by simpa [cmpD] using eq
    exact op_mem hu false pins s σ H _ _ v u Q I rx ry ⟨B, φ, h, d, e, r, p1, p2, eq', q⟩
  | nin =>
    have eq' : (memD d e).map (!·) = some r := by simpa [cmpD] using eq
    obtain ⟨r', h1, rfl⟩ := Option.map_eq_some_iff.mp eq'
    exact op_mem hu true pins s σ H _ _ v u Q I rx ry ⟨B, φ, h, d, e, r', p1, p2, h1, q⟩
  | isn =>
    cases e <;> simp only [cmpD] at eq <;> try (cases eq)
    rotate_left
    · cases d <;> simp only at eq <;> try (cases eq)
      obtain rfl := p1.bl
      obtain rfl := p2.bl
      exact op_isBl pins s σ H _ _ v u Q I rx ry ⟨_, _, rfl, rfl, by rw [← bb_eq]; exact q⟩
    obtain rfl := p2.non
    exact op_isN pins s σ H _ _ v u Q I rx ry ⟨rfl, by rw [nonD_v p1]; exact q⟩
  | isnn =>
    cases e <;> simp only [cmpD] at eq <;> try (cases eq)
    rotate_left
    · cases d <;> simp only at eq <;> try (cases eq)
      obtain rfl := p1.bl
      obtain rfl := p2.bl
      exact op_notBl pins s σ H _ _ v u Q I rx ry ⟨_, _, rfl, rfl, by rw [← bb_eq]; exact q⟩
    obtain rfl := p2.non
    exact op_notN pins s σ H _ _ v u Q I rx ry ⟨rfl, by rw [nonD_v p1]; exact q⟩

/-! ### truth -/
theorem tru_d {K : PySem.W.Frag} {M : Addr → Prop} {H : Hp} {d : D} {v : V} {k : Bool} (r : RP K M H d v) (e : truD d = some k) : TruV K v H k ∨ ∃ a kv, v = .ref a ∧ Rd H a (.dK kv) ∧ k = !kv.isEmpty := by
  cases d with
  | none => obtain rfl := r.non; cases e; exact .inl rfl
  | bool b => obtain rfl := r.bl; cases e; exact .inl rfl
  | int b => obtain rfl := r.int; cases e; exact .inl rfl
  | str b =>
    obtain rfl := r.str
    simp only [truD] at e
    split at e
    · cases e; exact .inl ⟨lim_line (by assumption), rfl⟩
    · cases e
  | tuple ds =>
    obtain ⟨a, vs, rfl, h1, d1⟩ := r.tup
    cases e
    refine .inl (.inr (.inl ⟨vs, h1, ?_⟩))
    cases d1 <;> rfl
  | list ds =>
    obtain ⟨a, vs, rfl, h1, d1⟩ := r
    cases e
    refine .inl (.inl ⟨vs, SqL.of h1, ?_⟩)
    cases d1 <;> rfl
  | dict ds =>
    obtain ⟨a, vs, rfl, h1, d1⟩ := r
    cases e
    refine .inr ⟨a, vs, rfl, h1, ?_⟩
    cases d1 <;> rfl
theorem tru_dict : TruR X (fun x H Q => ∃ a kv, x = .ref a ∧ Rd H a (.dK kv) ∧ Q (!kv.isEmpty) H) := by
  intro pins s σ H x v Q I rx ⟨a, kv, ex, hd, q⟩
  subst ex
  obtain rfl : v = Value.ref a := rx
  obtain ⟨hz, hS, vs, r, m⟩ : kv.length ≤ sizeLine ∧ (a == sysModules) = false ∧ ∃ vs, KV kv vs ∧ s.heap.DictOf (mixKind X.prog X.w) a vs := hd.ok I.hok
  have hlen : kv.length = vs.length := Paired.length r
  have hl := line63
  exact wpAny_truthy_dict hS m (by omega) ⟨H, I.tok _, by rw [isEmpty_kv r]; exact q⟩
theorem tru_D : TruR X (fun x H Q => ∃ (B : Addr → Prop) (φ : List Addr) (h : Hs) (d : D) (k : Bool), RP X.K (Mu B φ h) H d x ∧ truD d = some k ∧ Q k H) := by
  intro pins s σ H x v Q I rx ⟨B, φ, h, d, k, p, e, q⟩
  rcases tru_d p e with z | ⟨a, kv, ex, hd, ek⟩
  · exact tru_ok pins s σ H x v Q I rx ⟨k, z, q⟩
  · exact tru_dict pins s σ H x v Q I rx ⟨a, kv, ex, hd, by rw [← ek]; exact q⟩

/-! ### subscripts -/
theorem atI_v {K : PySem.W.Frag} {M : Addr → Prop} {H : Hp} {ds : List D} {vs : List V} {i : Int} {d : D} (r : RDs K M H ds vs) (e : atI ds i = some d) : ∃ v, atI vs i = some v ∧ RD K M H d v := by
  unfold atI at e ⊢
  rw [r.len] at e
  obtain ⟨j, h1, h2⟩ := Option.bind_eq_some_iff.mp e
  obtain ⟨v, h3, h4⟩ := r.get h2
  exact ⟨v, by rw [h1]; exact h3, h4⟩
def rIxD (K : PySem.W.Frag) : R2 := rBin K ixD
theorem ix_D (hu : X.A.units + 64 < cLine) : IxR X (rIxD X.K) := by
  intro value slice pins s σ H x y v u Q I rx ry ⟨B, φ, h, d, e, r, S, p1, p2, eq, yd⟩ hs
  cases d with
  | list ds =>
    cases e <;> simp only [ixD] at eq <;> try (cases eq)
    obtain ⟨a, vs, rfl, h1, d1⟩ := p1
    obtain rfl := p2.int
    obtain ⟨w, e1, e2⟩ := atI_v d1 eq
    exact ix_list value slice pins s σ H _ _ v u Q I rx ry ⟨a, vs, _, w, rfl, rfl, SqL.of h1, e1, yd.same S e2⟩ hs
  | tuple ds =>
    cases e <;> simp only [ixD] at eq <;> try (cases eq)
    obtain ⟨a, vs, rfl, h1, d1⟩ := p1.tup
    obtain rfl := p2.int
    obtain ⟨w, e1, e2⟩ := atI_v d1 eq
    exact ix_tup value slice pins s σ H _ _ v u Q I rx ry ⟨a, vs, _, w, rfl, rfl, h1, e1, yd.same S e2⟩ hs
  | dict ds =>
    obtain ⟨a, kv, rfl, h1, d1⟩ := p1
    have eq' : ((keyOf e).bind fun k => (kvsOf ds).bind fun l => getK l k) = some r := by cases e <;> exact eq
    obtain ⟨k, hk, eq2⟩ := Option.bind_eq_some_iff.mp eq'
    obtain ⟨l, hl, eq3⟩ := Option.bind_eq_some_iff.mp eq2
    obtain rfl := keyOf_v p2 hk
    rcases getK_v k d1 hl with ⟨d, w, e1, e2, e3⟩ | ⟨e1, e2⟩
    · rw [e1] at eq3; cases eq3
      have g : DGet H a (kV k) (some w) := .inl ⟨kv, k, h1, rfl, e2.symm⟩
      obtain rfl : v = Value.ref a := rx
      exact tail_any (dict_typeIs I g) PySem.F.slot_dict_getitem.lookup (d_getItem (by omega) I g ry fun w' s' I' r' => ⟨w, H, I', r', yd.same S e3⟩) hs
    · rw [e1] at eq3; cases eq3
  | none => cases e <;> cases eq
  | bool b => cases e <;> cases eq
  | int b => cases e <;> cases eq
  | str b => cases e <;> cases eq
theorem ix_scr : IxR X (fun x y H Q => ∃ p ns i n, x = .ref p ∧ y = .int i ∧ SqL X.K H p (ns.map V.int) ∧ atI ns i = some n ∧ Q (.int n) H) := by
  intro value slice pins s σ H x y v u Q I rx ry ⟨p, ns, i, n, ex, ey, h1, e, q⟩ hs
  subst ex ey
  refine ix_list value slice pins s σ H _ _ v u Q I rx ry ⟨p, _, i, .int n, rfl, rfl, h1, ?_, q⟩ hs
  unfold atI at e ⊢
  rw [List.length_map]
  obtain ⟨j, h1, h2⟩ := Option.bind_eq_some_iff.mp e
  rw [h1, Option.bind_some, List.getElem?_map, h2]
  rfl
theorem ix_pr : IxR X (fun x y H Q => ∃ p a b i, x = .ref p ∧ y = .int i ∧ SqT X.K H p [a, b] ∧ ((i = 0 ∧ Q a H) ∨ (i = 1 ∧ Q b H))) := by
  intro value slice pins s σ H x y v u Q I rx ry ⟨p, a, b, i, ex, ey, h1, q⟩ hs
  subst ex ey
  rcases q with ⟨rfl, q⟩ | ⟨rfl, q⟩
  · exact ix_tup value slice pins s σ H _ _ v u Q I rx ry ⟨p, _, _, _, rfl, rfl, h1, rfl, q⟩ hs
  · exact ix_tup value slice pins s σ H _ _ v u Q I rx ry ⟨p, _, _, _, rfl, rfl, h1, rfl, q⟩ hs
def rSlD (K : PySem.W.Frag) : V → Option Int → Option Int → Hp → VK → Prop := fun x lo hi H Q => ∃ (B : Addr → Prop) (φ : List Addr) (h : Hs) (d r : D), RS K B φ h H ∧ RP K (Mu B φ h) H d x ∧ slD d lo hi = some r ∧ Yd K B φ h H r Q
theorem RDs.cutV {K : PySem.W.Frag} {M : Addr → Prop} {H : Hp} {ds : List D} {vs : List V} (r : RDs K M H ds vs) (lo hi : Option Int) : RDs K M H (cutD ds lo hi) (L2.cutV vs lo hi) := by
  unfold cutD L2.cutV
  rw [r.len]
  exact (r.drop _).take _
theorem sl_D : SlR X (rSlD X.K) := by
  intro pins s σ H x v vl vu lo hi sl Q I rx hs pl pu ⟨B, φ, h, d, r, S, p1, eq, yd⟩
  cases d <;> simp only [slD] at eq <;> try (cases eq)
  · obtain ⟨a, vs, rfl, h1, d1⟩ := p1
    exact sl_list pins s σ H _ v vl vu lo hi sl Q I rx hs pl pu ⟨a, vs, rfl, SqL.of h1, yd.lst S (d1.cutV lo hi)⟩
  · obtain ⟨a, vs, rfl, h1, d1⟩ := p1.tup
    refine sl_tupA pins s σ H _ v vl vu lo hi sl Q I rx hs pl pu ⟨a, vs, rfl, h1, fun hw => yd.same S ?_, fun _ => yd.tup S (d1.cutV lo hi)⟩
    refine .tup h1 ?_
    have q := d1.cutV lo hi
    have e : L2.cutV vs lo hi = vs := by
      unfold L2.cutV
      rw [hw.1, hw.2]
      simp
    rw [e] at q
    exact q
theorem sl_scr : SlR X (fun x lo hi H Q => ∃ a ns, x = .ref a ∧ SqL X.K H a (ns.map V.int) ∧ ∀ p, H p = none → Q (.ref p) (upd H p (.lst ((cutD ns lo hi).map V.int)))) := by
  intro pins s σ H x v vl vu lo hi sl Q I rx hs pl pu ⟨a, ns, ex, h1, q⟩
  subst ex
  refine sl_list pins s σ H _ v vl vu lo hi sl Q I rx hs pl pu ⟨a, _, rfl, h1, fun p hp => ?_⟩
  have e : L2.cutV (ns.map V.int) lo hi = (cutD ns lo hi).map V.int := by
    unfold L2.cutV cutD
    rw [List.length_map, List.map_take, List.map_drop]
  rw [e]
  exact q p hp
end
end MF

set_option Elab.async false
set_option linter.all false
set_option maxRecDepth 100000
set_option maxHeartbeats 4000000
/-! built-in functions by values -/
namespace MF
open PySem PySem.Spec PyProof.Rows L2

/-! ### what stands, as the library reads it -/
section
variable {X : Cx} {pins : List (Addr × Obj)} {σ : L2.St} {H : Hp} {s : Shared} {M : Addr → Prop}
theorem sm_free (I : Inv X pins σ H s) (hm : ∃ o, X.base.get? sysModules = some o) : H sysModules = none := by
  obtain ⟨o, e⟩ := hm
  exact (I.bs _ _ e).2
theorem reads_app {h : Heap} : ∀ {vs ws : List Value} {ds es : List PyData} {as bs : List Addr}, ReadsAll h vs ds as → ReadsAll h ws es bs → ∃ cs, ReadsAll h (vs ++ ws) (ds ++ es) cs
  | [], _, _, _, _, _, .nil, s => ⟨_, s⟩
  | _ :: _, _, _, _, _, _, .cons r t, s => by
    obtain ⟨cs, q⟩ := reads_app t s
    exact ⟨_, .cons r q⟩
theorem key_reads {h : Heap} {k : Key} {u : Value} (e : keyIs k u = true) : Reads h u (keyD k) [] := by
  rcases keyIs_shape e with ⟨i, t, rfl, rfl⟩ | ⟨x, t, rfl, rfl⟩
  · exact .int i t
  · exact .str x t
theorem keys_reads {h : Heap} : ∀ {es : List DictEntry} {kvs : List (Key × Value)} {ds : List (D × D)} {kv : List (Key × V)}, Pairs (mixKind X.prog X.w) es kvs → KV kv kvs → RDk X.K M H ds kv → ReadsAll h (es.map (·.key)) (ds.map (·.1)) []
  | _, _, _, _, .nil, .nil, .nil => .nil
  | _, _, _, _, .cons a b c, .cons r1 r2, .cons e1 e2 e3 => by
    subst e1
    have e : _ = _ := r1.1
    rw [← e] at a
    exact .cons (key_reads a) (keys_reads c r2 e3)
mutual
theorem RD.reads (I : Inv X pins σ H s) (hm : ∃ o, X.base.get? sysModules = some o) : ∀ {d : D} {v : V} {u : Value}, RD X.K M H d v → RelV v u → ∃ as, Reads s.heap u d as ∧ sysModules ∉ as
  | _, _, _, .non, r => by cases r; exact ⟨_, .none, by simp⟩
  | _, _, _, .bl b, r => by cases r; exact ⟨_, .bool b, by simp⟩
  | _, _, _, .int i, r => by obtain ⟨t, rfl⟩ := r; exact ⟨_, .int i t, by simp⟩
  | _, _, _, .str x, r => by obtain ⟨t, rfl⟩ := r; exact ⟨_, .str x t, by simp⟩
  | _, _, _, .tup h q, r => by
    cases r
    obtain ⟨its, rv, ⟨o, ho, hc, n, hd⟩, _⟩ := I.tuple h
    obtain ⟨as, hr, hn⟩ := RDs.reads I hm q rv
    exact ⟨_, .tuple ho hc hd hr, hn⟩
  | _, _, _, .lst (a := a) _ h q, r => by
    cases r
    obtain ⟨its, rv, ⟨o, n, ho, hc, _, hd⟩, _⟩ := I.list (SqL.of h)
    obtain ⟨as, hr, hn⟩ := RDs.reads I hm q rv
    refine ⟨_, .list ho hc hd hr, fun z => ?_⟩
    rcases List.mem_cons.mp z with z | z
    · have q := sm_free I hm
      rw [z, h] at q
      cases q
    · exact hn z
  | _, _, _, .dct (a := a) _ h q, r => by
    cases r
    obtain ⟨hz, hS, vs, rel, o, es, ep, ho, ⟨hc, _⟩, hd, _, hp, _⟩ := h.ok I.hok
    obtain ⟨bs, hb, hn⟩ := RDk.reads I hm q rel hp
    refine ⟨_, .dict ho hc hd (keys_reads hp rel q) hb, fun z => ?_⟩
    simp only [List.append_nil, List.cons_append, List.nil_append, List.mem_cons] at z
    rcases z with z | z
    · rw [← z] at hS
      simp at hS
    · exact hn z
theorem RDs.reads (I : Inv X pins σ H s) (hm : ∃ o, X.base.get? sysModules = some o) : ∀ {ds : List D} {vs : List V} {us : List Value}, RDs X.K M H ds vs → Vals vs us → ∃ as, ReadsAll s.heap us ds as ∧ sysModules ∉ as
  | _, _, _, .nil, r => by cases r; exact ⟨_, .nil, by simp⟩
  | _, _, _, .cons q1 q2, r => by
    cases r with
    | cons r1 r2 =>
      obtain ⟨as, h1, n1⟩ := RD.reads I hm q1 r1
      obtain ⟨bs, h2, n2⟩ := RDs.reads I hm q2 r2
      exact ⟨_, .cons h1 h2, fun z => (List.mem_append.mp z).elim n1 n2⟩
theorem RDk.reads (I : Inv X pins σ H s) (hm : ∃ o, X.base.get? sysModules = some o) : ∀ {ds : List (D × D)} {kv : List (Key × V)} {kvs : List (Key × Value)} {es : List DictEntry}, RDk X.K M H ds kv → KV kv kvs → Pairs (mixKind X.prog X.w) es kvs →
    ∃ as, ReadsAll s.heap (es.map (·.val)) (ds.map (·.2)) as ∧ sysModules ∉ as
  | _, _, _, _, .nil, .nil, .nil => ⟨_, .nil, by simp⟩
  | _, _, _, _, .cons e1 e2 e3, .cons r1 r2, .cons a b c => by
    obtain ⟨as, h1, n1⟩ := RD.reads I hm e2 r1.2
    rw [← b] at h1
    obtain ⟨bs, h2, n2⟩ := RDk.reads I hm e3 r2 c
    exact ⟨_, .cons h1 h2, fun z => (List.mem_append.mp z).elim n1 n2⟩
end
/-- what is read may be a list that is to change -/
theorem RP.reads (I : Inv X pins σ H s) (hm : ∃ o, X.base.get? sysModules = some o) {d : D} {v : V} {u : Value} (p : RP X.K M H d v) (r : RelV v u) : ∃ as, Reads s.heap u d as ∧ sysModules ∉ as := by
  cases d with
  | list ds =>
    obtain ⟨a, vs, rfl, h, q⟩ := p
    cases r
    obtain ⟨its, rv, ⟨o, n, ho, hc, _, hd⟩, _⟩ := I.list (SqL.of h)
    obtain ⟨as, hr, hn⟩ := RDs.reads I hm q rv
    refine ⟨_, .list ho hc hd hr, fun z => ?_⟩
    rcases List.mem_cons.mp z with z | z
    · have q := sm_free I hm
      rw [z, h] at q
      cases q
    · exact hn z
  | dict ds =>
    obtain ⟨a, kv, rfl, h, q⟩ := p
    cases r
    obtain ⟨hz, hS, vs, rel, o, es, ep, ho, ⟨hc, _⟩, hd, _, hp, _⟩ := h.ok I.hok
    obtain ⟨bs, hb, hn⟩ := RDk.reads I hm q rel hp
    refine ⟨_, .dict ho hc hd (keys_reads hp rel q) hb, fun z => ?_⟩
    simp only [List.append_nil, List.cons_append, List.nil_append, List.mem_cons] at z
    rcases z with z | z
    · rw [← z] at hS
      simp at hS
    · exact hn z
  | none => exact RD.reads I hm (show RD X.K M H _ v from p) r
  | bool b => exact RD.reads I hm (show RD X.K M H _ v from p) r
  | int b => exact RD.reads I hm (show RD X.K M H _ v from p) r
  | str b => exact RD.reads I hm (show RD X.K M H _ v from p) r
  | tuple b => exact RD.reads I hm (show RD X.K M H _ v from p) r
end
section
variable {X : Cx} {M : Addr → Prop}
/-- what the context gives beyond the hand layer's -/
structure Ctx0 (X : Cx) : Prop where
  calm : X.calm = true
  un : X.A.units + 150 < cLine
  gu : X.A.guards = some []
  md : ∃ o, X.base.get? sysModules = some o
theorem call_repr (G : Ctx0 X) : CallR X (.builtin "repr") (fun xs H Q => ∃ (B : Addr → Prop) (φ : List Addr) (h : Hs) (d : D) (x : V), xs = [x] ∧ RP X.K (Mu B φ h) H d x ∧ repOk d = true ∧ Q (.str d.shown) H) := by
  intro pins s σ H xs us Q I r ⟨B, φ, h, d, x, ex, p, hk, q⟩
  subst ex
  obtain ⟨u, rfl, rx⟩ := vals1 r
  unfold repOk at hk
  simp only [Bool.and_eq_true, decide_eq_true_eq] at hk
  obtain ⟨⟨hs, hd⟩, hz⟩ := hk
  have hz := lim_line hz
  have un := G.un
  obtain ⟨as, rd, hn⟩ := p.reads I G.md rx
  have big : ∀ {a : Addr}, u = .ref a → wpAny (model X.prog X.w) X.A (call (.builtin "repr") [u]) (EP X pins σ Q) X.xe s := fun e => by
    subst e
    exact repr_of_reads' rd hs (fun _ => hn) G.gu (by omega) (fun _ _ e => e) (fun h' u tk hk => ⟨.str d.shown, H, I.kept hk, ⟨u, rfl⟩, q⟩) hz
  cases rd with
  | none => exact PySem.P.repr_of_none ⟨.str _, H, I.tok _, ⟨_, rfl⟩, q⟩
  | bool b => exact PySem.P.repr_of_bool ⟨.str (PyData.shown (.bool b)), H, I.tok _, ⟨s.toks, by cases b <;> rfl⟩, q⟩
  | int i t => exact PySem.P.repr_of_int (by simpa [PyData.showable] using hs) ⟨.str _, H, I.tok _, ⟨_, rfl⟩, q⟩
  | str x t => exact PySem.P.repr_of_str ⟨.str _, H, I.tok _, ⟨_, rfl⟩, q⟩ hz
  | list _ _ _ _ => exact big rfl
  | tuple _ _ _ _ => exact big rfl
  | dict _ _ _ _ _ => exact big rfl
/-- sum of a tuple -/
theorem sum_tup (G : Ctx0 X) : CallR X (.builtin "sum") (fun vs H Q => ∃ (a : Addr) (ns : List Int), vs = [V.ref a] ∧ SqT X.K H a (ns.map V.int) ∧ Q (.int ns.sum) H) := by
  intro pins s σ H vs us Q I r ⟨a, ns, ev, hs, q⟩
  subst ev
  rw [Vals.ref1 r]
  obtain ⟨its, rv, ht, _⟩ := I.tuple hs
  obtain ⟨xs, e⟩ := rv.ints.allInts.items
  have hn : numsOf (intItems xs).toList = ns := by rw [← e]; exact rv.ints.numsOf
  rw [nums_intItems] at hn
  rw [e] at ht
  have hlt : a < s.heap.objs.size := ht.lt
  refine call_sum_walkG (wpAny_pyIter_tuple (show s.heap.IsTuple a (intItems xs) from ht) ?_)
  have hI : (s.heap.push { cls := .type "tuple_iterator", data := .fields #[.ref a, .int 0 0] }).IsTupleIter s.heap.objs.size a 0 := ⟨_, Heap.get?_push_size _ rfl, rfl, rfl⟩
  have ht2 : (s.heap.push { cls := .type "tuple_iterator", data := .fields #[.ref a, .int 0 0] }).IsTuple a (intItems xs) := by
    obtain ⟨o, h1, h2⟩ := ht
    exact ⟨o, Heap.get?_push_of_some _ h1, h2⟩
  refine ⟨_, _, _, _, _, _, numAt xs, rfl, Walks.tuple (A := X.A.in1) (I.ok.hd G.calm) s.heap.objs.size a (Nat.ne_of_lt hlt) (intItems xs), ⟨hI, ht2⟩, fun b hb => ?_, fun _ _ => intItems_at, fun h' tk t' hk => ?_⟩
  · rw [Heap.size_push]
    simp only [List.mem_cons, List.not_mem_nil, or_false] at hb
    rcases hb with z | z
    · rw [z]; exact Nat.lt_succ_self _
    · rw [z]; exact Nat.lt_succ_of_lt hlt
  · have k : ∀ b o, s.heap.get? b = some o → h'.get? b = some o := fun b o e => by
      refine hk b o (fun z => ?_) (Heap.get?_push_of_some _ e)
      simp only [List.mem_cons, List.not_mem_nil, or_false] at z
      rw [z] at e
      exact absurd (Heap.lt_size e) (Nat.lt_irrefl _)
    refine ⟨.int ns.sum, H, I.kept k, ⟨t', ?_⟩, q⟩
    have hsz : (intItems xs).size = xs.size := by simp [intItems]
    rw [hsz, preSum_eq, List.take_of_length_le (by simp), hn]

theorem maxI_spec : ∀ (r : List Int) (a : Int), maxI a r ∈ a :: r ∧ ∀ y ∈ a :: r, y ≤ maxI a r
  | [], a => ⟨by simp [maxI], fun y hy => by simp at hy; subst hy; exact Int.le_refl _⟩
  | b :: r, a => by
    obtain ⟨h1, h2⟩ := maxI_spec r (if b > a then b else a)
    have h3 := h2 _ List.mem_cons_self
    simp only [maxI]
    by_cases hc : b > a
    · simp only [if_pos hc] at h1 h2 h3 ⊢
      refine ⟨List.mem_cons_of_mem _ h1, fun y hy => ?_⟩
      rcases List.mem_cons.mp hy with rfl | hy
      · omega
      · exact h2 y hy
    · simp only [if_neg hc] at h1 h2 h3 ⊢
      refine ⟨?_, fun y hy => ?_⟩
      · rcases List.mem_cons.mp h1 with h1 | h1
        · rw [h1]; exact List.mem_cons_self
        · exact List.mem_cons_of_mem _ (List.mem_cons_of_mem _ h1)
      · simp only [List.mem_cons] at hy
        rcases hy with rfl | rfl | hy
        · exact h3
        · omega
        · exact h2 y (List.mem_cons_of_mem _ hy)
theorem minI_spec : ∀ (r : List Int) (a : Int), minI a r ∈ a :: r ∧ ∀ y ∈ a :: r, minI a r ≤ y
  | [], a => ⟨by simp [minI], fun y hy => by simp at hy; subst hy; exact Int.le_refl _⟩
  | b :: r, a => by
    obtain ⟨h1, h2⟩ := minI_spec r (if b < a then b else a)
    have h3 := h2 _ List.mem_cons_self
    simp only [minI]
    by_cases hc : b < a
    · simp only [if_pos hc] at h1 h2 h3 ⊢
      refine ⟨List.mem_cons_of_mem _ h1, fun y hy => ?_⟩
      rcases List.mem_cons.mp hy with rfl | hy
      · omega
      · exact h2 y hy
    · simp only [if_neg hc] at h1 h2 h3 ⊢
      refine ⟨?_, fun y hy => ?_⟩
      · rcases List.mem_cons.mp h1 with h1 | h1
        · rw [h1]; exact List.mem_cons_self
        · exact List.mem_cons_of_mem _ (List.mem_cons_of_mem _ h1)
      · simp only [List.mem_cons] at hy
        rcases hy with rfl | rfl | hy
        · exact h3
        · omega
        · exact h2 y (List.mem_cons_of_mem _ hy)
/-! ### isinstance -/
theorem tyX_of {K : PySem.W.Frag} {H : Hp} {d : D} {v : V} (p : RP K M H d v) : TyX K H v (.type (tyD d)) := by
  cases d with
  | none => obtain rfl := p.non; exact .base .non
  | bool b => obtain rfl := p.bl; exact .base (.bl b)
  | int b => obtain rfl := p.int; exact .base (.int b)
  | str b => obtain rfl := p.str; exact .base (.str b)
  | list ds => obtain ⟨a, vs, rfl, h, _⟩ := p; exact .base (.lst h)
  | tuple ds =>
    obtain ⟨a, vs, rfl, h, _⟩ := p.tup
    rcases h with (h | ⟨o, h⟩) | ⟨o, its, n, hk, hc, _⟩
    · exact .base (.tup h)
    · exact .fTuple h
    · exact .kTuple hk hc
  | dict ds =>
    obtain ⟨a, kv, rfl, h, _⟩ := p
    rcases h with h | ⟨o, h⟩
    · exact .base (.dK h)
    · exact .fDict h
theorem tyD_mem (d : D) : tyD d ∈ ["NoneType", "bool", "int", "str", "list", "tuple", "dict"] := by cases d <;> simp [tyD]
theorem kit_all : ∀ T ∈ ["int", "bool", "tuple", "list", "str", "dict"], ∀ t ∈ ["NoneType", "bool", "int", "str", "list", "tuple", "dict"], kitB t T = some (isS T t) := by decide +kernel
def tyNames : List String := ["int", "bool", "tuple", "list", "str", "dict"]
theorem kit_D {T : String} (hT : T ∈ tyNames) (d : D) : kitB (tyD d) T = some (isD T d) := kit_all T hT _ (tyD_mem d)
theorem call_isD {T : String} (hT : T ∈ tyNames) : CallR X (.builtin "isinstance") (fun xs H Q => ∃ (B : Addr → Prop) (φ : List Addr) (h : Hs) (d : D) (x : V), xs = [x, .ty T] ∧ RP X.K (Mu B φ h) H d x ∧ Q (.bl (isD T d)) H) := by
  intro pins s σ H xs us Q I r ⟨B, φ, h, d, x, ex, p, q⟩
  subst ex
  exact call_isi pins s σ H _ us Q I r ⟨x, .ty T, _, _, _, rfl, .ty T, tyX_of p, kit_ty (kit_D hT d), q⟩
end
end MF

set_option Elab.async false
set_option linter.all false
set_option maxRecDepth 100000
set_option maxHeartbeats 4000000
/-! sorted, dict, min, by values -/
namespace MF
open PySem PySem.Spec PyProof.Rows L2
variable [LTab]

theorem RKv.any {K : PySem.W.Frag} {M : Addr → Prop} {H : Hp} {q : Key} : ∀ {l : List (Key × D)} {kv : List (Key × V)}, RKv K M H l kv → (l.any fun p => decide (p.1 = q)) = kv.any fun p => decide (p.1 = q)
  | _, _, .nil => rfl
  | (k1, d) :: l, (k2, v) :: kv, .cons r s => by
    obtain ⟨e, _⟩ := r
    have e : k1 = k2 := e
    subst e
    rw [List.any_cons, List.any_cons, RKv.any s]
theorem RKv.mp {K : PySem.W.Frag} {M : Addr → Prop} {H : Hp} {q : Key} {y : D} {v : V} (r : RD K M H y v) : ∀ {l : List (Key × D)} {kv : List (Key × V)}, RKv K M H l kv → RKv K M H (l.map fun p => if p.1 = q then (p.1, y) else p) (kv.map fun p => if p.1 = q then (p.1, v) else p)
  | _, _, .nil => .nil
  | (k1, d) :: l, (k2, w) :: kv, .cons h t => by
    obtain ⟨e, hd⟩ := h
    have e : k1 = k2 := e
    subst e
    refine .cons ?_ (RKv.mp r t)
    show (if k1 = q then (k1, y) else (k1, d)).1 = (if k1 = q then (k1, v) else (k1, w)).1 ∧ RD K M H (if k1 = q then (k1, y) else (k1, d)).2 (if k1 = q then (k1, v) else (k1, w)).2
    by_cases hq : k1 = q
    · rw [if_pos hq, if_pos hq]
      exact ⟨rfl, r⟩
    · rw [if_neg hq, if_neg hq]
      exact ⟨rfl, hd⟩
theorem RKv.app {K : PySem.W.Frag} {M : Addr → Prop} {H : Hp} : ∀ {a c : List (Key × D)} {b d : List (Key × V)}, RKv K M H a b → RKv K M H c d → RKv K M H (a ++ c) (b ++ d)
  | _, _, _, _, .nil, h2 => h2
  | _ :: _, _, _ :: _, _, .cons h t, h2 => .cons h (RKv.app t h2)
theorem RKv.put {K : PySem.W.Frag} {M : Addr → Prop} {H : Hp} {q : Key} {y : D} {v : V} (r : RD K M H y v) {l : List (Key × D)} {kv : List (Key × V)} (s : RKv K M H l kv) : RKv K M H (putKD l q y) (L2.putK kv q v) := by
  unfold putKD L2.putK
  rw [s.any]
  split
  · exact RKv.mp r s
  · exact RKv.app s (.cons ⟨rfl, r⟩ .nil)
theorem RKv.kp {K : PySem.W.Frag} {M M' : Addr → Prop} {H H' : Hp} (k : Kp K M M' H H') {l : List (Key × D)} {kv : List (Key × V)} (s : RKv K M H l kv) : RKv K M' H' l kv := Paired.mapP s fun p q z => ⟨z.1, z.2.kp k⟩
theorem RKv.len {K : PySem.W.Frag} {M : Addr → Prop} {H : Hp} {l : List (Key × D)} {kv : List (Key × V)} (s : RKv K M H l kv) : l.length = kv.length := Paired.length s

theorem RKv.merge {K : PySem.W.Frag} {M : Addr → Prop} {H : Hp} : ∀ {m : List (Key × D)} {n : List (Key × V)} {l : List (Key × D)} {kv : List (Key × V)}, RKv K M H m n → RKv K M H l kv → RKv K M H (mergeD l m) (L2.mergeK kv n)
  | [], [], _, _, _, s => s
  | (k1, d) :: m, (k2, w) :: n, l, kv, h, s => by
    cases h with
    | cons h t =>
      obtain ⟨e, hd⟩ := h
      have e : k1 = k2 := e
      subst e
      exact RKv.merge (m := m) (n := n) t (RKv.put hd s)
  | [], _ :: _, _, _, h, _ => by cases h
  | _ :: _, [], _, _, h, _ => by cases h
theorem insI_perm (x : Int) : ∀ l : List Int, (insI x l).Perm (x :: l)
  | [] => .refl _
  | y :: r => by
    unfold insI
    split
    · exact .refl _
    · exact (List.Perm.cons y (insI_perm x r)).trans (.swap x y r)
theorem srtI_perm : ∀ l : List Int, (srtI l).Perm l
  | [] => .refl _
  | x :: r => (insI_perm x _).trans (.cons x (srtI_perm r))
theorem insI_pw (x : Int) : ∀ l : List Int, l.Pairwise (· ≤ ·) → (insI x l).Pairwise (· ≤ ·)
  | [], _ => List.pairwise_singleton ..
  | y :: r, h => by
    unfold insI
    have hh := List.pairwise_cons.mp h
    split
    · rename_i hxy
      refine List.pairwise_cons.mpr ⟨fun z hz => ?_, h⟩
      rcases List.mem_cons.mp hz with rfl | hz
      · exact hxy
      · exact Int.le_trans hxy (hh.1 z hz)
    · rename_i hxy
      refine List.pairwise_cons.mpr ⟨fun z hz => ?_, insI_pw x r hh.2⟩
      rcases List.mem_cons.mp ((insI_perm x r).mem_iff.mp hz) with rfl | hz
      · omega
      · exact hh.1 z hz
theorem srtI_pw : ∀ l : List Int, (srtI l).Pairwise (· ≤ ·)
  | [] => .nil
  | x :: r => insI_pw x _ (srtI_pw r)
theorem srt_uniq {l m : List Int} (h : m.Perm l) (p : m.Pairwise (· ≤ ·)) : m = srtI l :=
  List.Perm.eq_of_pairwise (fun _ _ _ _ a b => Int.le_antisymm a b) p (srtI_pw l) (h.trans (srtI_perm l).symm)
/-! ### insertion by codes -/
theorem insT_perm (x : List Int) : ∀ l : List (List Int), (insT x l).Perm (x :: l)
  | [] => .refl _
  | y :: r => by
    unfold insT
    split
    · exact .refl _
    · exact ((insT_perm x r).cons y).trans (.swap x y r)
theorem srtT_perm : ∀ l : List (List Int), (srtT l).Perm l
  | [] => .nil
  | x :: r => (insT_perm x _).trans (.cons x (srtT_perm r))
theorem insT_pw (x : List Int) : ∀ l : List (List Int), l.Pairwise (fun a b => codeT a ≤ codeT b) → (insT x l).Pairwise (fun a b => codeT a ≤ codeT b)
  | [], _ => List.pairwise_singleton _ _
  | y :: r, h => by
    unfold insT
    rw [List.pairwise_cons] at h
    split
    · rename_i c
      refine List.pairwise_cons.mpr ⟨fun z hz => ?_, List.pairwise_cons.mpr h⟩
      rcases List.mem_cons.mp hz with rfl | hz
      · exact c
      · exact Int.le_trans c (h.1 z hz)
    · rename_i c
      refine List.pairwise_cons.mpr ⟨fun z hz => ?_, insT_pw x r h.2⟩
      rcases List.mem_cons.mp ((insT_perm x r).mem_iff.mp hz) with rfl | hz
      · omega
      · exact h.1 z hz
theorem srtT_pw : ∀ l : List (List Int), (srtT l).Pairwise (fun a b => codeT a ≤ codeT b)
  | [] => .nil
  | x :: r => insT_pw x _ (srtT_pw r)
theorem codeT_eq : ∀ r : List Int, codeT r = TS.code 64 r
  | [] => rfl
  | d :: r => by
    show d * 64 ^ r.length + codeT r = d * 64 ^ r.length + TS.code 64 r
    rw [codeT_eq r]
theorem code_inj : ∀ {n m : List Int}, n.length = m.length → TS.Bd 64 n → TS.Bd 64 m → codeT n = codeT m → n = m
  | [], [], _, _, _, _ => rfl
  | [], _ :: _, h, _, _, _ => by simp at h
  | _ :: _, [], h, _, _, _ => by simp at h
  | d :: r, e :: q, h, b1, b2, c => by
    have hl : r.length = q.length := by simpa using h
    rw [codeT_eq, codeT_eq] at c
    rcases Int.lt_trichotomy d e with l | l | l
    · have := TS.code_lt hl b1.tail b2.tail l; omega
    · subst l
      have c2 : TS.code 64 r = TS.code 64 q := by
        rcases Int.lt_trichotomy (TS.code 64 r) (TS.code 64 q) with z | z | z
        · have := (TS.code_same (d := d) hl).mpr z; omega
        · exact z
        · have := (TS.code_same (d := d) hl.symm).mpr z; omega
      rw [code_inj hl b1.tail b2.tail (by rw [codeT_eq, codeT_eq]; exact c2)]
    · have := TS.code_lt hl.symm b2.tail b1.tail l; omega
theorem par_perm {α β : Type} {T : α → β → Prop} {ys vs : List β} (p : ys.Perm vs) : ∀ {rs : List α}, Paired T rs vs → ∃ rs', rs'.Perm rs ∧ Paired T rs' ys := by
  induction p with
  | nil => intro rs h; exact ⟨rs, .refl _, h⟩
  | cons x _ ih =>
    intro rs h
    cases h with
    | cons a t =>
      obtain ⟨rs', q1, q2⟩ := ih t
      exact ⟨_ :: rs', .cons _ q1, .cons a q2⟩
  | swap x y l =>
    intro rs h
    cases h with
    | cons a t =>
      cases t with
      | cons b t => exact ⟨_, .swap _ _ _, .cons b (.cons a t)⟩
  | trans _ _ ih1 ih2 =>
    intro rs h
    obtain ⟨r1, q1, q2⟩ := ih2 h
    obtain ⟨r2, q3, q4⟩ := ih1 q2
    exact ⟨r2, q3.trans q1, q4⟩
theorem tupsI_eq : ∀ {xs : List D} {rs : List (List Int)}, tupsI xs = some rs → xs = rs.map tupD
  | [], _, e => by simp [tupsI] at e; subst e; rfl
  | .tuple ds :: r, rs, e => by
    simp only [tupsI, Option.bind_eq_some_iff, Option.map_eq_some_iff] at e
    obtain ⟨x, h1, t, h2, rfl⟩ := e
    rw [tupsI_eq h2, intsD_eq h1]; rfl
  | .none :: _, _, e => by simp [tupsI] at e
  | .bool _ :: _, _, e => by simp [tupsI] at e
  | .int _ :: _, _, e => by simp [tupsI] at e
  | .str _ :: _, _, e => by simp [tupsI] at e
  | .list _ :: _, _, e => by simp [tupsI] at e
  | .dict _ :: _, _, e => by simp [tupsI] at e
section
variable {K : PySem.W.Frag} {M : Addr → Prop} {H : Hp}
theorem RDs.paired : ∀ {rs : List (List Int)} {vs : List V}, RDs K M H (rs.map tupD) vs → Paired (fun r v => RD K M H (tupD r) v) rs vs
  | [], _, .nil => .nil
  | r :: rs, _, .cons a t => .cons a (RDs.paired t)
theorem RDs.of_paired : ∀ {rs : List (List Int)} {vs : List V}, Paired (fun r v => RD K M H (tupD r) v) rs vs → RDs K M H (rs.map tupD) vs
  | [], _, .nil => .nil
  | r :: rs, _, .cons a t => .cons a (RDs.of_paired t)
theorem RD.tupI {r : List Int} {v : V} (h : RD K M H (tupD r) v) : TupI K H v r := by
  unfold tupD at h
  cases h with
  | tup q rs =>
    obtain rfl := rs.ints
    exact ⟨_, rfl, q⟩
theorem keysI_v : ∀ {ds : List (D × D)} {kv : List (Key × V)} {ns : List Int}, RDk K M H ds kv → keysI ds = some ns → kv.map (·.1) = ns.map Sum.inl
  | _, _, _, .nil, e => by simp [keysI] at e; subst e; rfl
  | _, _, ns, .cons (k := k) (ds := ds) (kv := kv) e0 r s, e => by
    subst e0
    cases k with
    | inl i =>
      simp only [keyD, keysI, Option.map_eq_some_iff] at e
      obtain ⟨t, h1, rfl⟩ := e
      rw [List.map_cons, List.map_cons, keysI_v s h1]
    | inr x => simp [keyD, keysI] at e
end
theorem paired_mem {α β : Type} {R : α → β → Prop} {l : List α} {m : List β} (h : Paired R l m) : ∀ a ∈ l, ∃ b ∈ m, R a b := by
  induction h with
  | nil => intro a ha; simp at ha
  | @cons a b l m r _ ih =>
    intro z hz
    rcases List.mem_cons.mp hz with rfl | hz
    · exact ⟨b, List.mem_cons_self, r⟩
    · obtain ⟨y, hy, q⟩ := ih z hz
      exact ⟨y, List.mem_cons_of_mem _ hy, q⟩
theorem pw_par {K : PySem.W.Frag} {M : Addr → Prop} {H : Hp} {rs : List (List Int)} {ys : List V} (q : Paired (fun r v => RD K M H (tupD r) v) rs ys) (hw : ys.Pairwise (fun x y => ∀ n m, TupI K H x n → TupI K H y m → TS.code 64 n ≤ TS.code 64 m)) : rs.Pairwise (fun a b => codeT a ≤ codeT b) := by
  induction q with
  | nil => exact .nil
  | @cons r y rs ys a t ih =>
    rw [List.pairwise_cons] at hw
    refine List.pairwise_cons.mpr ⟨fun b hb => ?_, ih hw.2⟩
    obtain ⟨z, hz, rb⟩ := paired_mem t b hb
    rw [codeT_eq, codeT_eq]
    exact hw.1 z hz r b a.tupI rb.tupI
theorem pairs_v {K : PySem.W.Frag} {M : Addr → Prop} {H : Hp} : ∀ {xs : List D} {vs : List V} {l : List (Key × D)}, RDs K M H xs vs → pairsD xs = some l → ∃ (ps : List Addr) (kv : List (Key × V)), vs = ps.map V.ref ∧ Paired (fun p kv => SqT K H p [kV kv.1, kv.2]) ps kv ∧ RKv K M H l kv
  | [], _, _, .nil, e => by simp [pairsD] at e; subst e; exact ⟨[], [], rfl, .nil, .nil⟩
  | .tuple [k, v] :: r, _, l, .cons a t, e => by
    simp only [pairsD, Option.bind_eq_some_iff, Option.map_eq_some_iff] at e
    obtain ⟨k', hk, m, hm, rfl⟩ := e
    obtain ⟨ps, kv, ev, hp, rk⟩ := pairs_v t hm
    cases a with
    | @tup p us _ q rs =>
      cases rs with
      | @cons _ uk _ _ r1 rs =>
        cases rs with
        | @cons _ uv _ _ r2 rs =>
          cases rs
          obtain rfl := keyOf_v r1.rp hk
          exact ⟨p :: ps, (k', uv) :: kv, by rw [ev]; rfl, .cons q hp, .cons ⟨rfl, r2⟩ rk⟩
  | .none :: _, _, _, _, e => by simp [pairsD] at e
  | .bool _ :: _, _, _, _, e => by simp [pairsD] at e
  | .int _ :: _, _, _, _, e => by simp [pairsD] at e
  | .str _ :: _, _, _, _, e => by simp [pairsD] at e
  | .list _ :: _, _, _, _, e => by simp [pairsD] at e
  | .dict _ :: _, _, _, _, e => by simp [pairsD] at e
  | .tuple [] :: _, _, _, _, e => by simp [pairsD] at e
  | .tuple [_] :: _, _, _, _, e => by simp [pairsD] at e
  | .tuple (_ :: _ :: _ :: _) :: _, _, _, _, e => by simp [pairsD] at e
theorem Yd.dct {K : PySem.W.Frag} {B : Addr → Prop} {φ : List Addr} {h : Hs} {H : Hp} {Q : VK} {l : List (Key × D)} {kv : List (Key × V)} (y : Yd K B φ h H (dctD l) Q) (s : RS K B φ h H) (d : RKv K (Mu B φ h) H l kv) : ∀ p, H p = none → Q (.ref p) (upd H p (.dK kv)) := fun p hp =>
  y _ _ (Ext.fresh hp) (s.fresh hp) (.dct (s.notMu hp) (.inl upd_same) ((RKv.rdk d).kp (Ext.fresh hp).kp))
section
variable {X : Cx}
/-- sorted(t), t a tuple of fewer than 64 ints -/
theorem cr_sortTup : CallR X (.builtin "sorted") (fun vs H Q => ∃ (a : Addr) (ns : List Int), vs = [V.ref a] ∧ SqT X.K H a (ns.map V.int) ∧ ns.length < 64 ∧ ∀ (ys : List Int) (p : Addr), ys.Perm ns → ys.Pairwise (· ≤ ·) → H p = none → Q (.ref p) (upd H p (.lst (ys.map V.int)))) := by
  intro pins s σ H vs us Q I r hq; obtain ⟨a, ns, e, ht, few, q⟩ := hq; subst e
  rw [Vals.ref1 r]
  obtain ⟨its, rv, ⟨o, ho, hc, n, hd⟩, hz⟩ := I.tuple ht
  have ln : its.length = ns.length := by
    have := rv.length
    rw [List.length_map] at this
    omega
  have hi := rv.ints
  rw [List.length_map] at hz
  refine Calls.call_function_entry kind_sorted plain_sorted entry_sorted (args_sorted1 _) ?_; unfold Builtin.«sorted»; refine wpAny_bind (m := checkCount "sorted" 1 1 _) (wpAny_pure ?_)
  refine wpAny_bind (PySem.wpAny_collect_seq a (.inr rfl) ho hc hd (fun h1 keep => ?_) (by rw [List.size_toArray]; omega))
  have I1 := I.kept (t' := s.toks) keep
  have back : its.toArray.toList = its := by simp
  rw [back]
  refine wpAny_bind (wpAny_newList ?_ (by omega))
  have mid : (h1.push (seqObj "list" its.toArray 0)).get? h1.objs.size = some (seqObj "list" its.toArray 0) := Heap.get?_push_size _ rfl
  show wpAny _ _ _ _ _ { s with heap := h1.push (seqObj "list" its.toArray 0) }
  refine wpAny_bind (wpAny_holding (wpAny_call_entry slot_list_sort ⟨_, mid, rfl⟩ entry_list_sort
    (list_sort_tree (s := { s with heap := h1.push (seqObj "list" its.toArray 0) }) mid hi (by omega) fun out ys g1 g2 g3 => ⟨_, rfl, ?_⟩) (args_list_sort _)))
  obtain ⟨w, hw⟩ := sortedHeap_at (vs := its) (out := out) mid
  have hl : (ys.map V.int).length ≤ sizeLine := by
    rw [List.length_map, g2.length_eq]; exact hz
  have kp : ∀ b u, h1.get? b = some u → (sortedHeap (h1.push (seqObj "list" its.toArray 0)) h1.objs.size its out).get? b = some u := fun b u hb => by
    have lt := Heap.lt_size hb
    rw [sortedHeap_old (Nat.ne_of_lt lt) (by rw [size_push']; exact Nat.lt_succ_of_lt lt)]
    exact (Heap.get?_push_of_some _) hb
  refine wpAny_pure ⟨_, rfl, .ref h1.objs.size, upd H h1.objs.size (.lst (ys.map V.int)), I1.laid (t' := s.toks) kp (Nat.le_refl _) ⟨hl, out.toList, w, vals_of_ints g1, by rw [Array.toArray_toList]; exact hw⟩, rfl, q ys _ g2 g3 (I1.hok.fresh (Nat.le_refl _))⟩
/-- sorted by values -/
theorem cr_srt (hcalm : X.calm = true) : CallR X (.builtin "sorted") (fun vs H Q => ∃ (M : Addr → Prop) (d : D) (xs : List D) (x : V), vs = [x] ∧ RP X.K M H d x ∧ srtD d = some xs ∧ ∀ us p, RDs X.K M H xs us → H p = none → Q (.ref p) (upd H p (.lst us))) := by
  intro pins s σ H vs us Q I rx ⟨M, d, xs, x, ev, rp, e, q⟩
  subst ev
  cases d <;> simp only [srtD] at e <;> try (cases e; done)
  · rename_i ds
    obtain ⟨a, vs, rfl, h1, d1⟩ := rp
    cases hn : intsD ds with
    | some ns =>
      rw [hn] at e
      cases e
      have e1 := intsD_eq hn
      subst e1
      obtain rfl := d1.ints
      refine cr_sortedI pins s σ H _ us Q I rx ⟨a, ns, rfl, SqL.of h1, fun ns' p h1 h2 hp => ?_⟩
      rw [srt_uniq h1 h2]
      exact q _ p (RDs.of_ints _) hp
    | none =>
      rw [hn] at e
      obtain ⟨rs, h2, e⟩ := Option.bind_eq_some_iff.mp e
      split at e
      · rename_i ok
        cases e
        obtain rfl := tupsI_eq h2
        have pr := d1.paired
        cases rs with
        | nil => cases ok
        | cons r0 rs0 =>
          unfold okT at ok
          simp only [Bool.and_eq_true, decide_eq_true_eq, List.all_eq_true] at ok
          obtain ⟨⟨o1, o2⟩, o3⟩ := ok
          have len : vs.length = (r0 :: rs0).length := (Paired.length pr).symm
          have bd : ∀ r ∈ r0 :: rs0, r.length = r0.length ∧ TS.Bd 64 r := fun r hr => ⟨(o3 r hr).1, fun m hm => (o3 r hr).2 m hm⟩
          refine cr_sortT (d := r0.length) (B := 64) o1 pins s σ H _ us Q I rx ⟨a, vs, rfl, SqL.of h1, by omega, fun x hx => ?_, fun ys p hp hw hn => ?_⟩
          · obtain ⟨i, hi, rfl⟩ := List.getElem_of_mem hx
            obtain ⟨d, hd, rd⟩ := d1.getV (List.getElem?_eq_getElem hi)
            rw [List.getElem?_map] at hd
            obtain ⟨r, hr, rfl⟩ := Option.map_eq_some_iff.mp hd
            have := bd r (List.mem_of_getElem? hr)
            exact ⟨r, rd.tupI, this.1, this.2⟩
          · obtain ⟨rs', q1, q2⟩ := par_perm hp pr
            have pw := pw_par q2 hw
            have eq : rs' = srtT (r0 :: rs0) := by
              refine List.Perm.eq_of_pairwise (fun a b ha hb h1 h2 => ?_) pw (srtT_pw _) (q1.trans (srtT_perm _).symm)
              have ha := q1.mem_iff.mp ha
              have hb := (srtT_perm _).mem_iff.mp hb
              exact code_inj (by rw [(bd a ha).1, (bd b hb).1]) (bd a ha).2 (bd b hb).2 (Int.le_antisymm h1 h2)
            refine q _ p ?_ hn
            rw [← eq]
            exact RDs.of_paired q2
      · cases e
  · rename_i ds
    obtain ⟨ns, hn, e⟩ := Option.bind_eq_some_iff.mp e
    split at e
    · rename_i hl
      cases e
      cases (show RD _ _ _ _ _ from rp)
      rename_i a vs h1 d1
      have e1 := intsD_eq hn
      subst e1
      obtain rfl := d1.ints
      refine cr_sortTup pins s σ H _ us Q I rx ⟨a, ns, rfl, h1, hl, fun ys p h1 h2 hp => ?_⟩
      rw [srt_uniq h1 h2]
      exact q _ p (RDs.of_ints _) hp
    · cases e
  · rename_i ds
    obtain ⟨a, kv, rfl, h1, d1⟩ := rp
    obtain ⟨ns, hn, e⟩ := Option.bind_eq_some_iff.mp e
    split at e
    · rename_i hl
      cases e
      refine call_sortedDI hcalm pins s σ H _ us Q I rx ⟨a, kv, ns, rfl, h1, keysI_v d1 hn, hl, fun ys p h1 h2 hp => ?_⟩
      rw [srt_uniq h1 h2]
      exact q _ p (RDs.of_ints _) hp
    · cases e
end
end MF

set_option Elab.async false
set_option linter.all false
set_option maxRecDepth 100000
set_option maxHeartbeats 4000000
/-! max and min with a default; a list's copy by a slice -/
namespace MF
open PySem PySem.Spec PyProof.Rows L2
variable [LTab]

def biMx (mx : Bool) : String := if mx then "max" else "min"
theorem ints_reads {h : Heap} : ∀ {ns : List Int} {us : List Value}, Vals (ns.map V.int) us → ReadsAll h us (ns.map .int) []
  | [], _, .nil => .nil
  | n :: ns, _, .cons ⟨t, e⟩ r => by
    subst e
    exact .cons (.int n t) (ints_reads r)
theorem alike_ints (ns : List Int) : PySem.W.AlikeAll (ns.map PyData.int) := by
  refine ⟨fun x hx y hy => ?_, fun x hx z => ?_⟩
  · obtain ⟨i, -, rfl⟩ := List.mem_map.mp hx
    obtain ⟨j, -, rfl⟩ := List.mem_map.mp hy
    rfl
  · obtain ⟨i, -, rfl⟩ := List.mem_map.mp hx
    cases z
theorem depth_ints (ns : List Int) : PyData.depthAll (ns.map PyData.int) = 0 := by
  induction ns with
  | nil => rfl
  | cons n ns ih => rw [List.map_cons, PyData.depthAll, ih]; rfl
theorem fold_max : ∀ (l : List Int) (a : Int), l.foldl max a = maxI a l
  | [], _ => rfl
  | b :: r, a => by
    rw [List.foldl_cons, maxI, fold_max r]
    congr 1
    split <;> omega
theorem fold_min : ∀ (l : List Int) (a : Int), l.foldl min a = minI a l
  | [], _ => rfl
  | b :: r, a => by
    rw [List.foldl_cons, minI, fold_min r]
    congr 1
    split <;> omega
theorem reads_int {h : Heap} {v : Value} {i : Int} {as : List Addr} (r : Reads h v (.int i) as) : RelV (.int i) v := by
  cases r with
  | int _ t => exact ⟨t, rfl⟩
section
variable {X : Cx}
theorem cr_mxd (hcalm : X.calm = true) (hu : X.A.units + 64 < cLine) (mx : Bool) : CallRK X (.builtin (biMx mx)) [Str.ofString "default"] (fun vs zs H Q => ∃ (a : Addr) (ns : List Int) (d : V), vs = [.ref a] ∧ zs = [d] ∧ H a = some (.lst (ns.map V.int)) ∧ (ns = [] → Q d H) ∧ ∀ n r, ns = n :: r → Q (.int (mxI mx n r)) H) := by
  intro pins s σ H xs zs us ws Q I rx rz ⟨a, ns, d, ex, ez, hH, q0, q1⟩
  subst ex ez
  obtain ⟨u, eu, ru⟩ := vals1 rx
  obtain ⟨w, ew, rw'⟩ := vals1 rz
  subst eu ew
  obtain rfl : u = Value.ref a := ru
  obtain ⟨its, rv, pl, hz⟩ := I.list (SqL.of hH)
  have rd := ints_reads (h := s.heap) rv
  have al := alike_ints ns
  have dp : X.A.units + 1 + PyData.depthAll (ns.map PyData.int) < cLine := by rw [depth_ints]; omega
  show wpAny _ _ (call (.builtin (biMx mx)) [.ref a] [(Str.ofString "default", w)]) _ _ s
  cases mx with
  | true =>
    refine PySem.W.max_list_default (I.ok.hd hcalm) pl.isList (by simpa using rd) al dp (fun e h' tk hk => ⟨d, H, I.kept hk, rw', q0 (List.map_eq_nil_iff.mp e)⟩) fun y ys i v h' tk bs e hv r hk => ?_
    cases ns with
    | nil => cases e
    | cons n ns =>
      cases e
      rw [PySem.W.maxD_ints, fold_max] at r
      exact ⟨.int _, H, I.kept hk, reads_int r, q1 n ns rfl⟩
  | false =>
    refine PySem.W.min_list_default (I.ok.hd hcalm) pl.isList (by simpa using rd) al dp (fun e h' tk hk => ⟨d, H, I.kept hk, rw', q0 (List.map_eq_nil_iff.mp e)⟩) fun y ys i v h' tk bs e hv r hk => ?_
    cases ns with
    | nil => cases e
    | cons n ns =>
      cases e
      rw [PySem.W.minD_ints, fold_min] at r
      exact ⟨.int _, H, I.kept hk, reads_int r, q1 n ns rfl⟩
/-- max of a tuple of ints; min likewise -/
theorem mx_tup (hcalm : X.calm = true) (hu : X.A.units + 64 < cLine) (mx : Bool) : CallR X (.builtin (biMx mx)) (fun vs H Q => ∃ (a : Addr) (n : Int) (r : List Int), vs = [.ref a] ∧ SqT X.K H a ((n :: r).map V.int) ∧ Q (.int (mxI mx n r)) H) := by
  intro pins s σ H vs us Q I rx ⟨a, n, r, ev, hs, q⟩
  subst ev
  rw [Vals.ref1 rx]
  obtain ⟨its, rv, ht, _⟩ := I.tuple hs
  have rd := ints_reads (h := s.heap) rv
  have al := alike_ints (n :: r)
  have dp : X.A.units + 1 + PyData.depthAll ((n :: r).map PyData.int) < cLine := by rw [depth_ints]; omega
  cases mx with
  | true =>
    refine PySem.W.max_tuple_data (I.ok.hd hcalm) ht (by simpa using rd) al dp fun i v h' tk bs hv r hk => ?_
    rw [PySem.W.maxD_ints, fold_max] at r
    exact ⟨.int _, H, I.kept hk, reads_int r, q⟩
  | false =>
    refine PySem.W.min_tuple_data (I.ok.hd hcalm) ht (by simpa using rd) al dp fun i v h' tk bs hv r hk => ?_
    rw [PySem.W.minD_ints, fold_min] at r
    exact ⟨.int _, H, I.kept hk, reads_int r, q⟩
/-- min of a dict's int keys, the dict as it is read -/
theorem mn_dct (hcalm : X.calm = true) : CallR X (.builtin "min") (fun vs H Q => ∃ (a : Addr) (kv : List (Key × V)) (n : Int) (r : List Int), vs = [.ref a] ∧ Rd H a (.dK kv) ∧ kv.map (·.1) = (n :: r).map Sum.inl ∧ Q (.int (minI n r)) H) := by
  intro pins s σ H vs us Q I rx ⟨a, kv, n, r, ev, hd, hk, q⟩
  subst ev
  rw [Vals.ref1 rx]
  obtain ⟨-, nsys, ws, rel, dof⟩ := dk_rd I.hok hd
  obtain ⟨ep, at0⟩ := dof.dictAt
  have old : a < s.heap.objs.size := by
    obtain ⟨o, _, ho, _⟩ := id at0
    exact Heap.lt_size ho
  have ks : ws.map (·.1) = (n :: r).map Sum.inl := (KV.keys rel).symm.trans hk
  have ln : ws.length = r.length + 1 := by simpa using congrArg List.length ks
  have vals : ∀ (i : Nat) (v : Value), (∃ k x, ws[i]? = some (k, x) ∧ (mixKind X.prog X.w).is k v = true) → ∃ t, v = Value.int ((n :: r).getD i 0) t := by
    rintro i v ⟨k, x, e, hkv⟩
    have e1 : ((n :: r).map (Sum.inl : Int → Key))[i]? = some k := by rw [← ks, List.getElem?_map, e]; rfl
    rw [List.getElem?_map] at e1
    obtain ⟨y, ey, rfl⟩ := Option.map_eq_some_iff.mp e1
    obtain ⟨t, et⟩ := Value.isInt_shape (k := y) (v := v) hkv
    exact ⟨t, by rw [et, List.getD_eq_getElem?_getD, ey]; rfl⟩
  have walk := Walks.dictKeys (knd := mixKind X.prog X.w) (A := X.A.in1) (I.ok.hd hcalm) s.heap.objs.size a (Nat.ne_of_lt old) ws ep
  refine call_min_walk (wpAny_pyIter_dict (knd := mixKind X.prog X.w) nsys at0 ⟨_, _, _, _, _, _, _, rfl, walk, ⟨⟨_, Heap.get?_push_size _ rfl, rfl, rfl⟩, at0.keep fun b u e => Heap.get?_push_of_some _ e⟩, ?_, ?_, CmpOf.ints_lt (fun i => (n :: r).getD i 0) vals, ?_⟩)
  · intro b hb
    show b < (s.heap.push _).objs.size
    rw [Heap.size_push]
    simp only [List.mem_cons, List.not_mem_nil, or_false] at hb
    exact hb.elim (fun e => e ▸ Nat.lt_succ_self _) fun e => e ▸ Nat.lt_succ_of_lt old
  · omega
  · intro v h' tk hp hkeep
    obtain ⟨t, rfl⟩ := vals _ v hp
    obtain ⟨c1, c2⟩ := argBest_lt (fun i => (n :: r).getD i 0) (ws.length - 1)
    have eqm : (n :: r).getD (argBest (fun i j => decide ((n :: r).getD i 0 < (n :: r).getD j 0)) (ws.length - 1)) 0 = minI n r := by
      obtain ⟨g1, g2⟩ := minI_spec r n
      refine Int.le_antisymm ?_ (g2 _ ?_)
      · obtain ⟨i, hi, ei⟩ := List.mem_iff_getElem.mp g1
        have e3 : (n :: r).getD i 0 = minI n r := by rw [List.getD_eq_getElem?_getD, List.getElem?_eq_getElem hi, ei]; rfl
        rw [← e3]
        exact c2 i (by simp at hi; omega)
      · have hb : argBest (fun i j => decide ((n :: r).getD i 0 < (n :: r).getD j 0)) (ws.length - 1) < (n :: r).length := by rw [List.length_cons]; omega
        rw [List.getD_eq_getElem?_getD, List.getElem?_eq_getElem hb]
        exact List.getElem_mem hb
    refine ⟨.int (minI n r), H, I.kept (t' := tk) (fun b u e => hkeep b u (fun z => ?_) (Heap.get?_push_of_some _ e)), ⟨t, by rw [eqm]⟩, q⟩
    exact Nat.lt_irrefl _ ((List.mem_singleton.mp z) ▸ Heap.lt_size e)
theorem pick_one (items : Array Value) : slicePick items none none (some 1) = items := by
  have b : sliceBounds none none (some 1) items.size = (0, (items.size : Int), 1) := by
    first
    | rfl
    | simp [sliceBounds]
  have r : sliceRange 0 (items.size : Int) 1 = List.range items.size := by
    unfold sliceRange
    have c : (if (1 : Int) > 0 then (if (0 : Int) < (items.size : Int) then ((items.size : Int) - 0 + 1 - 1) / 1 else 0) else (if (0 : Int) > (items.size : Int) then (0 - (items.size : Int) - 1 - 1) / (-1) else 0)) = (items.size : Int) := by
      rw [if_pos (by decide : (1 : Int) > 0)]
      split <;> omega
    simp only [c, Int.toNat_natCast]
    have id : ∀ k : Nat, ((0 : Int) + 1 * (k : Int)).toNat = k := fun k => by omega
    simp only [id, List.map_id']
  unfold slicePick
  rw [b]
  show ((sliceRange 0 (items.size : Int) 1).filterMap (items[·]?)).toArray = items
  rw [r, PySem.W.krv_all]
/-- xs[::1] of a list -/
def tCpyL (K : PySem.W.Frag) (te : TE) : TE := fun σ H Q => te σ H fun x H1 => ∃ a xs, x = .ref a ∧ SqL K H1 a xs ∧ ∀ p, H1 p = none → Q (.ref p) (upd H1 p (.lst xs))
theorem pe_cpyL {e : Expr} {te : TE} {k : Nat} {p1 p3 pos : Pos} (he : PE X e te) : PE X (.Subscript e (.Slice none none (some (.Constant (.int 1) k p1)) p3) pos) (tCpyL X.K te) := by
  refine ⟨fun pins s σ H Q I h => Subscript_ (thn (he.run pins s σ H _ I h) fun v s1 ⟨x, H1, I1, r1, q1⟩ => ?_)⟩
  obtain ⟨a, xs, ex, hx, q⟩ := q1
  subst ex
  cases r1
  have one : PO X (some (.Constant (.int 1) k p1)) (tPart (tC (.int 1))) := po_some pe_int
  refine wpAny_Slice (thn (po_none.run pins s1 σ H1 (fun o H2 => o = none ∧ H2 = H1) I1 ⟨rfl, rfl⟩) fun wl s2 ⟨l, H2, I2, pl, el, e2⟩ => ?_)
  subst el e2
  refine thn (po_none.run pins s2 σ H2 (fun o H3 => o = none ∧ H3 = H2) I2 ⟨rfl, rfl⟩) fun wu s3 ⟨u, H3, I3, pu, eu, e3⟩ => ?_
  subst eu e3
  refine thn (one.run pins s3 σ H3 (fun o H4 => o = some 1 ∧ H4 = H3) I3 ⟨1, rfl, rfl, rfl⟩) fun ws s4 ⟨o, H4, I4, ps, eo, e4⟩ => ?_
  subst eo e4
  have I5 : Inv X pins σ H4 { s4 with heap := s4.heap.push { cls := .type "slice", data := .fields #[wl, wu, ws] } } := I4.kept (t' := s4.toks) fun b ob q => Heap.get?_push_of_some _ q
  obtain ⟨its, r, ht, hz⟩ := I5.list hx
  have hl := r.length
  refine tail_any (ops := [.ref a, .ref s4.heap.objs.size]) ht.isList.typeIs (PySem.slot_list_getitem.lookup) ?_ (by with_unfolding_all rfl)
  refine wpAny_getItem_list_slice ht.isList (Heap.IsSliceOf.new _ wl wu ws) pl pu ps (by decide) ?_ (by rw [List.size_toArray]; omega)
  rw [pick_one]
  refine ⟨.ref _, _, I5.laid (t' := s4.toks) (o := .lst xs) (fun b ob q => Heap.get?_push_of_some _ q) (Nat.le_refl _) ?_, rfl, q _ (I5.hok.fresh (Nat.le_refl _))⟩
  exact ⟨hz, _, 0, r, Heap.get?_push_size _ rfl⟩
end
end MF

set_option Elab.async false
set_option linter.all false
set_option maxRecDepth 100000
set_option maxHeartbeats 4000000
/-! calls of built-in functions and types -/
namespace MF
open PySem PySem.Spec PyProof.Rows L2
variable [LTab]

def biVal : Bi → Value
  | .len => .builtin "len" | .sum => .builtin "sum" | .all => .builtin "all" | .any => .builtin "any" | .max2 => .builtin "max" | .min2 => .builtin "min" | .maxl => .builtin "max" | .minl => .builtin "min"
  | .int => .type "int" | .str => .type "str" | .abs => .builtin "abs" | .repr => .builtin "repr" | .tuple => .type "tuple" | .list => .type "list" | .divmod => .builtin "divmod" | .sorted => .builtin "sorted" | .dict => .type "dict"
def rBi (K : PySem.W.Frag) (b : Bi) : List V → Hp → VK → Prop := fun xs H Q => ∃ (B : Addr → Prop) (φ : List Addr) (h : Hs) (ds : List D) (r : D), RS K B φ h H ∧ RPs K (Mu B φ h) H ds xs ∧ biD b ds = some r ∧ Yd K B φ h H r Q
section
variable {X : Cx}
theorem RPs.one {K : PySem.W.Frag} {M : Addr → Prop} {H : Hp} {d : D} {xs : List V} (p : RPs K M H [d] xs) : ∃ x, xs = [x] ∧ RP K M H d x := by
  cases p with
  | cons a b => cases b; exact ⟨_, rfl, a⟩
theorem RPs.two {K : PySem.W.Frag} {M : Addr → Prop} {H : Hp} {d e : D} {xs : List V} (p : RPs K M H [d, e] xs) : ∃ x y, xs = [x, y] ∧ RP K M H d x ∧ RP K M H e y := by
  cases p with
  | cons a b =>
    cases b with
    | cons c e => cases e; exact ⟨_, _, rfl, a, c⟩
/-- the arguments' number is the function's -/
theorem bi_args {b : Bi} {ds : List D} {r : D} (e : biD b ds = some r) : (∃ d, ds = [d]) ∨ ∃ d e, ds = [d, e] := by
  match ds, e with
  | [d], _ => exact .inl ⟨d, rfl⟩
  | [d, e], _ => exact .inr ⟨d, e, rfl⟩
  | [], e => cases b <;> cases e
  | _ :: _ :: _ :: _, e => cases b <;> simp [biD] at e
theorem call_bi (G : Ctx0 X) (b : Bi) : CallR X (biVal b) (rBi X.K b) := by
  intro pins s σ H xs us Q I rx ⟨B, φ, h, ds, r, S, p, eq, yd⟩
  rcases bi_args eq with ⟨d, rfl⟩ | ⟨d, e, rfl⟩
  · obtain ⟨x, ex, p0⟩ := p.one
    subst ex
    clear p
    have p := p0
    clear p0
    cases b with
    | len =>
      cases d <;> simp only [biD] at eq <;> try (cases eq)
      · split at eq
        · rename_i hz
          cases eq
          obtain rfl := p.str
          exact call_len_str pins s σ H _ us Q I rx ⟨_, rfl, lim_line hz, yd.same S (.int _)⟩
        · cases eq
      · obtain ⟨a, vs, rfl, h1, d1⟩ := p
        exact call_len_seq pins s σ H _ us Q I rx ⟨a, vs, rfl, .inl (SqL.of h1), by rw [← d1.len]; exact yd.same S (.int _)⟩
      · obtain ⟨a, vs, rfl, h1, d1⟩ := p.tup
        exact call_len_seq pins s σ H _ us Q I rx ⟨a, vs, rfl, .inr h1, by rw [← d1.len]; exact yd.same S (.int _)⟩
    | sum =>
      cases d <;> simp only [biD] at eq <;> try (cases eq)
      · obtain ⟨ns, hn, rfl⟩ := Option.map_eq_some_iff.mp eq
        obtain ⟨a, vs, rfl, h1, d1⟩ := p
        have e1 := intsD_eq hn
        subst e1
        obtain rfl := d1.ints
        exact cr_sum G.calm pins s σ H _ us Q I rx ⟨a, ns, rfl, SqL.of h1, yd.same S (.int _)⟩
      · obtain ⟨ns, hn, rfl⟩ := Option.map_eq_some_iff.mp eq
        obtain ⟨a, vs, rfl, h1, d1⟩ := p.tup
        have e1 := intsD_eq hn
        subst e1
        obtain rfl := d1.ints
        exact sum_tup G pins s σ H _ us Q I rx ⟨a, ns, rfl, h1, yd.same S (.int _)⟩
    | all =>
      cases d <;> simp only [biD] at eq <;> try (cases eq)
      obtain ⟨ns, hn, rfl⟩ := Option.map_eq_some_iff.mp eq
      obtain ⟨a, vs, rfl, h1, d1⟩ := p
      have e1 := boolsD_eq hn
      subst e1
      obtain rfl := d1.bools
      exact cr_all G.calm pins s σ H _ us Q I rx ⟨a, ns, rfl, SqL.of h1, yd.same S (.bl _)⟩
    | any =>
      cases d <;> simp only [biD] at eq <;> try (cases eq)
      obtain ⟨ns, hn, rfl⟩ := Option.map_eq_some_iff.mp eq
      obtain ⟨a, vs, rfl, h1, d1⟩ := p
      have e1 := boolsD_eq hn
      subst e1
      obtain rfl := d1.bools
      exact cr_any G.calm pins s σ H _ us Q I rx ⟨a, ns, rfl, SqL.of h1, yd.same S (.bl _)⟩
    | maxl =>
      cases d <;> simp only [biD] at eq <;> try (cases eq)
      · obtain ⟨ns, hn, hm⟩ := Option.bind_eq_some_iff.mp eq
        obtain ⟨a, vs, rfl, h1, d1⟩ := p
        have e1 := intsD_eq hn
        subst e1
        obtain rfl := d1.ints
        cases ns with
        | nil => cases hm
        | cons n ns =>
          cases hm
          refine cr_max G.calm pins s σ H _ us Q I rx ⟨a, _, rfl, SqL.of h1, by simp, fun m hm hx => ?_⟩
          obtain ⟨q1, q2⟩ := maxI_spec ns n
          have : m = maxI n ns := Int.le_antisymm (q2 _ hm) (hx _ q1)
          rw [this]
          exact yd.same S (.int _)
      · obtain ⟨ns, hn, hm⟩ := Option.bind_eq_some_iff.mp eq
        obtain ⟨a, vs, rfl, h1, d1⟩ := p.tup
        have e1 := intsD_eq hn
        subst e1
        obtain rfl := d1.ints
        cases ns with
        | nil => cases hm
        | cons n ns =>
          cases hm
          exact mx_tup G.calm (Nat.lt_trans (Nat.add_lt_add_left (by decide) _) G.un) true pins s σ H _ us Q I rx ⟨a, n, ns, rfl, h1, yd.same S (.int _)⟩
    | minl =>
      cases d <;> simp only [biD] at eq <;> try (cases eq)
      · obtain ⟨ns, hn, hm⟩ := Option.bind_eq_some_iff.mp eq
        obtain ⟨a, vs, rfl, h1, d1⟩ := p
        have e1 := intsD_eq hn
        subst e1
        obtain rfl := d1.ints
        cases ns with
        | nil => cases hm
        | cons n ns =>
          cases hm
          refine cr_min G.calm pins s σ H _ us Q I rx ⟨a, _, rfl, SqL.of h1, by simp, fun m hm hx => ?_⟩
          obtain ⟨q1, q2⟩ := minI_spec ns n
          have : m = minI n ns := Int.le_antisymm (hx _ q1) (q2 _ hm)
          rw [this]
          exact yd.same S (.int _)
      · obtain ⟨ns, hn, hm⟩ := Option.bind_eq_some_iff.mp eq
        obtain ⟨a, vs, rfl, h1, d1⟩ := p.tup
        have e1 := intsD_eq hn
        subst e1
        obtain rfl := d1.ints
        cases ns with
        | nil => cases hm
        | cons n ns =>
          cases hm
          exact mx_tup G.calm (Nat.lt_trans (Nat.add_lt_add_left (by decide) _) G.un) false pins s σ H _ us Q I rx ⟨a, n, ns, rfl, h1, yd.same S (.int _)⟩
      · obtain ⟨ns, hn, hm⟩ := Option.bind_eq_some_iff.mp eq
        obtain ⟨a, kv, rfl, h1, d1⟩ := p
        cases ns with
        | nil => cases hm
        | cons n ns =>
          cases hm
          exact mn_dct G.calm pins s σ H _ us Q I rx ⟨a, kv, n, ns, rfl, h1, keysI_v d1 hn, yd.same S (.int _)⟩
    | int =>
      cases d <;> simp only [biD] at eq <;> try (cases eq)
      · obtain rfl := p.bl
        exact call_int1 pins s σ H _ us Q I rx (.inr ⟨_, rfl, yd.same S (.int _)⟩)
      · obtain rfl := p.int
        exact call_int1 pins s σ H _ us Q I rx (.inl ⟨_, rfl, yd.same S (.int _)⟩)
    | abs =>
      cases d <;> simp only [biD] at eq <;> try (cases eq)
      obtain rfl := p.int
      exact call_abs pins s σ H _ us Q I rx ⟨_, rfl, yd.same S (.int _)⟩
    | repr =>
      simp only [biD] at eq
      split at eq
      · rename_i hk
        cases eq
        exact call_repr G pins s σ H _ us Q I rx ⟨B, φ, h, d, x, rfl, p, hk, yd.same S (.str _)⟩
      · cases eq
    | tuple =>
      cases d <;> simp only [biD] at eq <;> try (cases eq)
      · obtain ⟨a, vs, rfl, h1, d1⟩ := p
        exact call_tuple_of pins s σ H _ us Q I rx ⟨a, vs, rfl, .inl ⟨SqL.of h1, yd.tup S d1⟩⟩
      · obtain ⟨a, vs, rfl, h1, d1⟩ := p.tup
        exact call_tuple_of pins s σ H _ us Q I rx ⟨a, vs, rfl, .inr ⟨h1, yd.same S (.tup h1 d1)⟩⟩
    | list =>
      cases d <;> simp only [biD] at eq <;> try (cases eq)
      · obtain ⟨a, vs, rfl, h1, d1⟩ := p
        exact call_list_of pins s σ H _ us Q I rx ⟨a, vs, rfl, .inl (SqL.of h1), yd.lst S d1⟩
      · obtain ⟨a, vs, rfl, h1, d1⟩ := p.tup
        exact call_list_of pins s σ H _ us Q I rx ⟨a, vs, rfl, .inr h1, yd.lst S d1⟩
    | max2 => cases d <;> simp [biD] at eq
    | min2 => cases d <;> simp [biD] at eq
    | str =>
      cases d <;> simp only [biD] at eq <;> try (cases eq)
      split at eq
      · rename_i hz
        cases eq
        obtain rfl := p.int
        exact call_str_int pins s σ H _ us Q I rx ⟨_, rfl, hz, yd.same S (.str _)⟩
      · cases eq
    | divmod => cases d <;> simp [biD] at eq
    | sorted =>
      simp only [biD] at eq
      obtain ⟨xs, hx, rfl⟩ := Option.map_eq_some_iff.mp eq
      exact cr_srt G.calm pins s σ H _ us Q I rx ⟨_, d, xs, x, rfl, p, hx, fun us p rd hp => yd.lst S rd p hp⟩
    | dict =>
      cases d <;> simp only [biD] at eq <;> try (cases eq)
      obtain ⟨l, hl, rfl⟩ := Option.map_eq_some_iff.mp eq
      obtain ⟨a, vs, rfl, h1, d1⟩ := p
      obtain ⟨ps, kv, ev, hp, rk⟩ := pairs_v d1 hl
      subst ev
      exact call_dictP G.calm pins s σ H _ us Q I rx ⟨a, ps, kv, rfl, SqL.of h1, hp, yd.dct S (RKv.merge rk .nil)⟩
  · obtain ⟨x, y, rfl, p1, p2⟩ := p.two
    have ii : ∀ {f : Int → Int → Option D}, (∀ d e, biD b [d, e] = match d, e with | .int i, .int j => f i j | _, _ => none) → ∃ i j, x = .int i ∧ y = .int j ∧ f i j = some r := by
      intro f hf
      rw [hf] at eq
      split at eq
      · exact ⟨_, _, p1.int, p2.int, eq⟩
      · cases eq
    cases b with
    | max2 =>
      obtain ⟨i, j, rfl, rfl, hr⟩ := ii (f := fun i j => some (.int (if j > i then j else i))) fun d e => by cases d <;> cases e <;> rfl
      cases hr
      exact call_max2 G.calm pins s σ H _ us Q I rx ⟨i, j, rfl, yd.same S (.int _)⟩
    | min2 =>
      obtain ⟨i, j, rfl, rfl, hr⟩ := ii (f := fun i j => some (.int (if j < i then j else i))) fun d e => by cases d <;> cases e <;> rfl
      cases hr
      exact call_min2 G.calm pins s σ H _ us Q I rx ⟨i, j, rfl, yd.same S (.int _)⟩
    | divmod =>
      obtain ⟨i, j, rfl, rfl, hr⟩ := ii (f := fun i j => if 0 < j ∧ j < 1073741824 then some (.tuple [.int (i / j), .int (i % j)]) else none) fun d e => by cases d <;> cases e <;> rfl
      split at hr
      · rename_i hc
        cases hr
        exact call_divmod pins s σ H _ us Q I rx ⟨i, j, rfl, hc, yd.tup S (.cons (.int _) (.cons (.int _) .nil))⟩
      · cases hr
    | len => cases d <;> cases e <;> simp [biD] at eq
    | sum => cases d <;> cases e <;> simp [biD] at eq
    | all => cases d <;> cases e <;> simp [biD] at eq
    | any => cases d <;> cases e <;> simp [biD] at eq
    | maxl => cases d <;> cases e <;> simp [biD] at eq
    | minl => cases d <;> cases e <;> simp [biD] at eq
    | int => cases d <;> cases e <;> simp [biD] at eq
    | abs => cases d <;> cases e <;> simp [biD] at eq
    | repr => cases d <;> cases e <;> simp [biD] at eq
    | tuple => cases d <;> cases e <;> simp [biD] at eq
    | list => cases d <;> cases e <;> simp [biD] at eq
    | str => cases d <;> cases e <;> simp [biD] at eq
    | sorted => cases d <;> cases e <;> simp [biD] at eq
    | dict => cases d <;> cases e <;> simp [biD] at eq
theorem call_len_scr : CallR X (.builtin "len") (fun xs H Q => ∃ (a : Addr) (ns : List Int), xs = [.ref a] ∧ SqL X.K H a (ns.map V.int) ∧ Q (.int ns.length) H) := by
  intro pins s σ H xs us Q I rx ⟨a, ns, ex, h1, q⟩
  subst ex
  exact call_len_seq pins s σ H _ us Q I rx ⟨a, _, rfl, .inl h1, by rw [List.length_map]; exact q⟩
end
end MF

set_option Elab.async false
set_option linter.all false
set_option maxRecDepth 100000
set_option maxHeartbeats 4000000
/-! the forms against the text; readings; targets -/
namespace MF
open PySem PySem.Spec PyProof.Rows L2

/-! ### what stands in the text -/
/-- lambdas are handed on here -/
def CI.lam (ci : CI) : Bool := !ci.cl.isEmpty
def visB (sc : Scope) (x : Str) : Bool := match sc.names.lookup x with
  | some .local => true
  | some .cell => true
  | some .free => true
  | _ => false
def locB (sc : Scope) (x : Str) : Bool := match sc.names.lookup x with
  | some .local => true
  | some .cell => true
  | _ => false
def glB (sc : Scope) (x : Str) : Bool := match sc.names.lookup x with
  | some .globalImplicit => true
  | _ => false
def okNm (x : Str) : Bool := !(x == ("__debug__" : Str)) && !(x == ("__classdict__" : Str)) && !(x == ("__name__" : Str))
def litB : D → Const → Bool
  | .none, .none => true
  | .bool a, .bool b => a == b
  | .int a, .int b => a == b
  | .str a, .str b => decide (a = b)
  | _, _ => false
def biNm : Bi → Str
  | .len => "len" | .sum => "sum" | .all => "all" | .any => "any" | .max2 => "max" | .min2 => "min" | .maxl => "max" | .minl => "min"
  | .int => "int" | .str => "str" | .abs => "abs" | .repr => "repr" | .tuple => "tuple" | .list => "list" | .divmod => "divmod" | .sorted => "sorted" | .dict => "dict"
def opB : Op2 → Operator → Bool
  | .add, .Add => true | .sub, .Sub => true | .mul, .Mult => true | .fdiv, .FloorDiv => true | .mod, .Mod => true | .pow, .Pow => true
  | _, _ => false
def cpB : Cp → CmpOp → Bool
  | .eq, .Eq => true | .ne, .NotEq => true | .lt, .Lt => true | .le, .LtE => true | .gt, .Gt => true | .ge, .GtE => true | .isin, .In => true | .nin, .NotIn => true | .isn, .Is => true | .isnn, .IsNot => true
  | _, _ => false
theorem opB_eq {o : Op2} {p : Operator} (h : opB o p = true) : p = opOf o := by cases o <;> cases p <;> first | rfl | (cases h)
theorem cpB_eq {o : Cp} {p : CmpOp} (h : cpB o p = true) : p = cpOf o := by cases o <;> cases p <;> first | rfl | (cases h)
def mtNm : Mt → Str
  | .append => "append" | .extend => "extend" | .get1 => "get" | .get2 => "get" | .index => "index" | .count => "count" | .clear => "clear"
mutual
def chkT (lk : Str → Bool) (N : List Str) : Tg → Expr → Bool
  | .nm i, .Name x _ => decide (N[i]? = some x) && lk x
  | .tup l, .Tuple es _ _ => chkTs lk N l es
  | _, _ => false
def chkTs (lk : Str → Bool) (N : List Str) : List Tg → List Expr → Bool
  | [], [] => true
  | t :: ts, e :: es => chkT lk N t e && chkTs lk N ts es
  | _, _ => false
end
mutual
def tgIn (own : List Nat) : Tg → Bool
  | .nm i => own.contains i
  | .tup l => tgsIn own l
def tgsIn (own : List Nat) : List Tg → Bool
  | [] => true
  | t :: ts => tgIn own t && tgsIn own ts
end
def freshE : E → Bool
  | .lst _ => true
  | .comp .. => true
  | .dnew => true
  | .bi .list _ => true
  | .bi .sorted _ => true
  | .bin .mul (.lst _) _ => true
  | _ => false
/-! what an expression is, one form at a time -/
def dName : Expr → Option Str
  | .Name x _ => some x
  | _ => none
def dConst : Expr → Option Const
  | .Constant c _ _ => some c
  | _ => none
def dBin : Expr → Option (Expr × Operator × Expr)
  | .BinOp l p r _ => some (l, p, r)
  | _ => none
def dNeg : Expr → Option Expr
  | .UnaryOp .USub x _ => some x
  | _ => none
def dNot : Expr → Option Expr
  | .UnaryOp .Not x _ => some x
  | _ => none
def dCmp : Expr → Option (Expr × CmpOp × Expr)
  | .Compare l [p] [r] _ => some (l, p, r)
  | _ => none
def dChain : Expr → Option (Expr × CmpOp × CmpOp × Expr × Expr)
  | .Compare l [o, p] [m, r] _ => some (l, o, p, m, r)
  | _ => none
def dAnd : Expr → Option (Expr × Expr)
  | .BoolOp .And [x, y] _ => some (x, y)
  | .BoolOp .And (x :: y :: z :: r) p => some (x, .BoolOp .And (y :: z :: r) p)
  | _ => none
def dOr : Expr → Option (Expr × Expr)
  | .BoolOp .Or [x, y] _ => some (x, y)
  | .BoolOp .Or (x :: y :: z :: r) p => some (x, .BoolOp .Or (y :: z :: r) p)
  | _ => none
def dIf : Expr → Option (Expr × Expr × Expr)
  | .IfExp t x y _ => some (t, x, y)
  | _ => none
def dTup : Expr → Option (List Expr)
  | .Tuple xs _ _ => some xs
  | _ => none
def dLst : Expr → Option (List Expr)
  | .List xs _ => some xs
  | _ => none
def dIx : Expr → Option (Expr × Expr)
  | .Subscript x y _ => some (x, y)
  | _ => none
def dSl : Expr → Option (Expr × Option Expr × Option Expr)
  | .Subscript x (.Slice l u none _) _ => some (x, l, u)
  | _ => none
def dRev : Expr → Option Expr
  | .Subscript x (.Slice none none (some (.UnaryOp .USub (.Constant (.int 1) _ _) _)) _) _ => some x
  | _ => none
def dCpy : Expr → Option Expr
  | .Subscript x (.Slice none none (some (.Constant (.int 1) _ _)) _) _ => some x
  | _ => none
/-- f(r(y, ..)) -/
def dLrg : Expr → Option (Str × Str × Expr × List Expr)
  | .Call (.Name n _) [.Call (.Name r _) (y :: ys) [] _] [] _ => some (n, r, y, ys)
  | _ => none
def lrgN (tp : Bool) : String := if tp then "tuple" else "list"
/-- f(x, k=y) -/
def dKw1 : Expr → Option (Str × Expr × Str × Expr)
  | .Call (.Name n _) [x] [⟨some k, y, _⟩] _ => some (n, x, k, y)
  | _ => none
/-- zip(reversed(x), reversed(y)), by the names -/
def dZipR : Expr → Option (Str × Str × Expr × Str × Expr)
  | .Call (.Name n _) [.Call (.Name r _) [x] [] _, .Call (.Name q _) [y] [] _] [] _ => some (n, r, x, q, y)
  | _ => none
def dCall : Expr → Option (Str × Expr × List Expr)
  | .Call (.Name x _) (y :: ys) [] _ => some (x, y, ys)
  | _ => none
/-- o.f(z), one argument -/
def dMeth : Expr → Option (Str × Expr × Expr)
  | .Call (.Attribute (.Name n p) f ap) [z] [] cp => if (ap.endLine == cp.line) = true then some (f, .Name n p, z) else none
  | _ => none
/-- o.f() -/
def dMeth0 : Expr → Option (Str × Expr)
  | .Call (.Attribute (.Name n p) f ap) [] [] cp => if (ap.endLine == cp.line) = true then some (f, .Name n p) else none
  | _ => none
def esNil : Es → Bool
  | .nil => true
  | _ => false
/-- o.f(x, y) -/
def dMeth2 : Expr → Option (Str × Expr × Expr × Expr)
  | .Call (.Attribute (.Name n p) f ap) [z, u] [] cp => if (ap.endLine == cp.line) = true then some (f, .Name n p, z, u) else none
  | _ => none
/-- f(zip(x, y)) -/
def dOfZip : Expr → Option (Str × Str × Expr × Expr)
  | .Call (.Name f _) [.Call (.Name z _) [x, y] [] _] [] _ => some (f, z, x, y)
  | _ => none
theorem dOfZip_eq {a x y : Expr} {f z : Str} (h : dOfZip a = some (f, z, x, y)) : ∃ p p1 pos1 pos, a = .Call (.Name f p) [.Call (.Name z p1) [x, y] [] pos1] [] pos := by
  unfold dOfZip at h
  split at h <;> cases h
  exact ⟨_, _, _, _, rfl⟩
def mtG : Mt → Bool
  | .get2 => true
  | _ => false
/-- {x: c} -/
def dDsp : Expr → Option (Str × Int)
  | .Dict [some (.Name x _)] [.Constant (.int c) _ _] _ => some (x, c)
  | _ => none
/-- f(o.m()) -/
def dView : Expr → Option (Str × Str × Str)
  | .Call (.Name f _) [.Call (.Attribute (.Name n _) m ap) [] [] cp] [] _ => if (ap.endLine == cp.line) = true then some (f, n, m) else none
  | _ => none
def dVar : E → Option Nat
  | .var i => some i
  | _ => none
def mtC : Mt → Bool
  | .clear => true
  | _ => false
def dComp : Expr → Option (Expr × Expr × Expr × List Expr × Scope)
  | .ListComp x [⟨t, i, ifs, 0⟩] scope _ => some (x, t, i, ifs, scope)
  | _ => none
def dDict : Expr → Bool
  | .Dict [] [] _ => true
  | _ => false
def mtB : Mt → Bool
  | .append => true
  | .extend => true
  | _ => false
/-- {a: b}, two numbers -/
def dDict1 : Expr → Option (Int × Int)
  | .Dict [some (.Constant (.int a) _ _)] [.Constant (.int b) _ _] _ => some (a, b)
  | _ => none
def isDict1 (d : D) (x y : Int) : Bool := match d with
  | .dict [(.int u, .int v)] => decide (u = x) && decide (v = y)
  | _ => false
def dSet : Expr → Bool
  | .Set .. => true
  | _ => false
/-- no parameters -/
def noPrm : Arguments → Bool
  | ⟨[], [], none, [], [], none, []⟩ => true
  | _ => false
theorem noPrm_eq {a : Arguments} (h : noPrm a = true) : a = ⟨[], [], none, [], [], none, []⟩ := by
  unfold noPrm at h
  split at h
  · rfl
  · cases h
/-- _law_said(lambda: f(y, ..)) -/
def dSaid : Expr → Option (Arguments × Str × Expr × List Expr × Scope)
  | .Call (.Name x _) [.Lambda prm (.Call (.Name n _) (y :: ys) [] _) sc _] [] _ => if x = "_law_said" then some (prm, n, y, ys, sc) else none
  | _ => none
theorem dSaid_eq {a y : Expr} {prm : Arguments} {n : Str} {ys : List Expr} {sc : Scope} (h : dSaid a = some (prm, n, y, ys, sc)) : ∃ p p2 p3 p4 p5, a = .Call (.Name "_law_said" p) [.Lambda prm (.Call (.Name n p2) (y :: ys) [] p3) sc p4] [] p5 := by
  unfold dSaid at h
  split at h
  · split at h
    · rename_i z
      subst z
      cases h
      exact ⟨_, _, _, _, _, rfl⟩
    · cases h
  · cases h
section
mutual
def chkE (ci : CI) (sc : Scope) (N : List Str) : E → Expr → Bool
  | .var i, a => match dName a with
    | some x => decide (N[i]? = some x) && visB sc x && okNm x
    | none => false
  | .con j, a => match dName a with
    | some x => decide (ci.cons[j]? = some x) && glB sc x && okNm x
    | none => false
  | .lit d, a => match dConst a with
    | some c => litB d c
    | none => match dDict1 a with
      | some (x, y) => isDict1 d x y
      | none => false
  | .bin o a b, x => match dBin x with
    | some (l, p, r) => opB o p && chkE ci sc N a l && chkE ci sc N b r
    | none => false
  | .neg a, x => match dNeg x with
    | some y => chkE ci sc N a y
    | none => false
  | .cmp o a b, x => match dCmp x with
    | some (l, p, r) => cpB o p && !(behindInMarks p r) && chkE ci sc N a l && chkE ci sc N b r
    | none => false
  | .chain o p a b c, x => match dChain x with
    | some (l, o', p', m, r) => cpB o o' && cpB p p' && !(lastMarks [o', p'] [m, r]) && chkE ci sc N a l && chkE ci sc N b m && chkE ci sc N c r
    | none => false
  | .and a b, x => match dAnd x with
    | some (l, r) => chkE ci sc N a l && chkE ci sc N b r
    | none => false
  | .or a b, x => match dOr x with
    | some (l, r) => chkE ci sc N a l && chkE ci sc N b r
    | none => false
  | .not a, x => match dNot x with
    | some y => chkE ci sc N a y
    | none => false
  | .ife c a b, x => match dIf x with
    | some (t, y, z) => chkE ci sc N c t && chkE ci sc N a y && chkE ci sc N b z
    | none => false
  | .tup es, x => match dTup x with
    | some xs => chkEs ci sc N es xs && decide (xs.length ≤ 1000)
    | none => false
  | .lst es, x => match dLst x with
    | some xs => chkEs ci sc N es xs && decide (xs.length ≤ 1000)
    | none => false
  | .own e, a => freshE e && chkE ci sc N e a
  | .ix a b, x => match dIx x with
    | some (y, z) => chkE ci sc N a y && chkE ci sc N b z
    | none => false
  | .sl a lo hi, x => match dSl x with
    | some (y, l, u) => chkE ci sc N a y && chkO ci sc N lo l && chkO ci sc N hi u
    | none => false
  | .rev a, x => match dRev x with
    | some y => chkE ci sc N a y
    | none => false
  | .isi a T, x => match dCall x with
    | some (f, y, [z]) => decide (f = ("isinstance" : Str)) && glB sc f && chkE ci sc N a y && tyNames.contains T && (match dName z with
      | some n => glB sc n && decide (n = Str.ofString T)
      | none => false)
    | _ => false
  | .call f es, x => match dCall x with
    | some (n, y, ys) => decide (ci.fns[f]? = some n) && glB sc n && okNm n && chkEs ci sc N es (y :: ys)
    | none => false
  | .bi b es, x => match dCall x with
    | some (n, y, ys) => decide (n = biNm b) && glB sc n && chkEs ci sc N es (y :: ys)
    | none => false
  | .mt m o es, x => match dMeth x with
    | some (f, y, z) => mtB m && decide (f = mtNm m) && chkE ci sc N o y && chkEs ci sc N es [z]
    | none => match dMeth0 x with
      | some (f, y) => mtC m && decide (f = "clear") && esNil es && chkE ci sc N o y
      | none => match dMeth2 x with
        | some (f, y, z, u) => mtG m && decide (f = "get") && chkE ci sc N o y && chkEs ci sc N es [z, u]
        | none => false
  | .dsp i c, x => match dDsp x with
    | some (n, c') => decide (c' = c) && decide (N[i]? = some n) && visB sc n && okNm n
    | none => false
  | .vls a, x => match dView x, dVar a with
    | some (f, n, m), some i => decide (f = ("list" : Str)) && decide (m = ("values" : Str)) && glB sc f && decide (N[i]? = some n) && visB sc n && okNm n
    | _, _ => false
  | .mnv a, x => match dView x, dVar a with
    | some (f, n, m), some i => decide (f = ("min" : Str)) && decide (m = ("values" : Str)) && glB sc f && decide (N[i]? = some n) && visB sc n && okNm n
    | _, _ => false
  | .comp elt tg own it c, a => match dComp a with
    | some (x, t, i, ifs, scope) =>
      blkC N sc scope (own.filterMap fun k => (N[k]?).map fun n => (n, k)) && decide ((own.filterMap fun k => (N[k]?).map fun n => (n, k)).map (·.2) = own) && tgIn own tg && chkT (locB scope) N tg t && !(dSet i) && chkI ci sc N it i t && chkE ci (relS scope sc) N elt x && chkC ci (relS scope sc) N c ifs
    | none => false
  | .dnew, a => dDict a
  | .mxd mx a d, x => match dKw1 x with
    | some (n, y, k, z) => decide (n = Str.ofString (biMx mx)) && decide (k = Str.ofString "default") && glB sc n && chkE ci sc N a y && chkE ci sc N d z
    | none => false
  | .cpy a, x => match dCpy x with
    | some y => chkE ci sc N a y
    | none => false
  | .cat a b, x => match dBin x with
    | some (l, p, r) => opB .add p && chkE ci sc N a l && chkE ci sc N b r
    | none => false
  | .srs a, x => match dLrg x with
    | some (n, r, y, []) => decide (n = ("sorted" : Str)) && decide (r = ("set" : Str)) && glB sc n && glB sc r && chkE ci sc N a y
    | _ => false
  | .said f es, x => match dSaid x with
    | some (prm, n, y, ys, scope) => ci.lam && ci.lm && decide (ci.fns.length ≤ f) && decide (ci.fns[f - ci.fns.length]? = some n) && noPrm prm && LamX.lamSB sc scope && glB sc "_law_said" && glB scope n && okNm n && chkEs ⟨[], ci.cons, [], false⟩ scope N es (y :: ys)
    | none => false
  | .lzp es, x => match dOfZip x with
    | some (f, z, y, u) => decide (f = ("list" : Str)) && decide (z = ("zip" : Str)) && glB sc f && glB sc z && chkEs ci sc N es [y, u]
    | none => false
  | .lrg1 tp a, x => match dLrg x with
    | some (n, r, y, []) => decide (n = Str.ofString (lrgN tp)) && decide (r = ("range" : Str)) && glB sc n && glB sc r && chkE ci sc N a y
    | _ => false
  | .lrg3 a b c, x => match dLrg x with
    | some (n, r, y, [z, u]) => decide (n = ("list" : Str)) && decide (r = ("range" : Str)) && glB sc n && glB sc r && chkE ci sc N a y && chkE ci sc N b z && chkE ci sc N c u
    | _ => false
def chkEs (ci : CI) (sc : Scope) (N : List Str) : Es → List Expr → Bool
  | .nil, [] => true
  | .cons e es, a :: as => chkE ci sc N e a && chkEs ci sc N es as
  | _, _ => false
def chkO (ci : CI) (sc : Scope) (N : List Str) : Eo → Option Expr → Bool
  | .no, none => true
  | .so e, some a => chkE ci sc N e a
  | _, _ => false
def chkC (ci : CI) (sc : Scope) (N : List Str) : Eo → List Expr → Bool
  | .no, [] => true
  | .so e, [a] => chkE ci sc N e a
  | _, _ => false
def chkI (ci : CI) (sc : Scope) (N : List Str) : I → Expr → Expr → Bool
  | .seq e, a, _ => chkE ci sc N e a
  | .rng1 e, x, _ => match dCall x with
    | some (n, a, []) => decide (n = ("range" : Str)) && glB sc n && chkE ci sc N e a
    | _ => false
  | .rng2 e f, x, _ => match dCall x with
    | some (n, a, [b]) => decide (n = ("range" : Str)) && glB sc n && chkE ci sc N e a && chkE ci sc N f b
    | _ => false
  | .rng3 e f g, x, _ => match dCall x with
    | some (n, a, [b, c]) => decide (n = ("range" : Str)) && glB sc n && chkE ci sc N e a && chkE ci sc N f b && chkE ci sc N g c
    | _ => false
  | .enm e, x, t => match dCall x, dTup t with
    | some (n, a, []), some _ => decide (n = ("enumerate" : Str)) && glB sc n && chkE ci sc N e a
    | _, _ => false
  | .zipr a b, x, t => match dZipR x, dTup t with
    | some (n, r, y, q, z), some _ => decide (n = ("zip" : Str)) && decide (r = ("reversed" : Str)) && decide (q = ("reversed" : Str)) && glB sc n && glB sc r && chkE ci sc N a y && chkE ci sc N b z
    | _, _ => false
  | .ezp es, x, t => match dOfZip x, dTup t with
    | some (f, z, y, u), some _ => decide (f = ("enumerate" : Str)) && decide (z = ("zip" : Str)) && glB sc f && glB sc z && chkEs ci sc N es [y, u]
    | _, _ => false
  | .itm e, x, t => match dMeth0 x, dTup t, dVar e with
    | some (f, y), some _, some i => decide (f = ("items" : Str)) && (match dName y with
      | some n => decide (N[i]? = some n) && visB sc n && okNm n
      | none => false)
    | _, _, _ => false
  | .zip rv es, x, t => match dCall x, dTup t with
    | some (n, a, as), some _ => !rv && decide (n = ("zip" : Str)) && glB sc n && chkEs ci sc N es (a :: as) && (decide (as.length = 1) || (decide (as.length = 2) || decide (as.length = 3)))
    | _, _ => false
end
end
theorem dName_eq {a : Expr} {x : Str} (h : dName a = some x) : ∃ p, a = .Name x p := by unfold dName at h; split at h <;> cases h; exact ⟨_, rfl⟩
theorem dConst_eq {a : Expr} {x : Const} (h : dConst a = some x) : ∃ j p, a = .Constant x j p := by unfold dConst at h; split at h <;> cases h; exact ⟨_, _, rfl⟩
theorem dBin_eq {a l r : Expr} {o : Operator} (h : dBin a = some (l, o, r)) : ∃ p, a = .BinOp l o r p := by unfold dBin at h; split at h <;> cases h; exact ⟨_, rfl⟩
theorem dNeg_eq {a x : Expr} (h : dNeg a = some x) : ∃ p, a = .UnaryOp .USub x p := by unfold dNeg at h; split at h <;> cases h; exact ⟨_, rfl⟩
theorem dNot_eq {a x : Expr} (h : dNot a = some x) : ∃ p, a = .UnaryOp .Not x p := by unfold dNot at h; split at h <;> cases h; exact ⟨_, rfl⟩
theorem dCmp_eq {a l r : Expr} {o : CmpOp} (h : dCmp a = some (l, o, r)) : ∃ p, a = .Compare l [o] [r] p := by unfold dCmp at h; split at h <;> cases h; exact ⟨_, rfl⟩
theorem dChain_eq {a l m r : Expr} {o o' : CmpOp} (h : dChain a = some (l, o, o', m, r)) : ∃ p, a = .Compare l [o, o'] [m, r] p := by unfold dChain at h; split at h <;> cases h; exact ⟨_, rfl⟩
theorem dAnd_eq {a l b : Expr} (h : dAnd a = some (l, b)) : ∃ y r p, a = .BoolOp .And (l :: y :: r) p ∧ ((r = [] ∧ b = y) ∨ b = .BoolOp .And (y :: r) p) := by
  unfold dAnd at h; split at h <;> cases h
  · exact ⟨_, _, _, rfl, .inl ⟨rfl, rfl⟩⟩
  · exact ⟨_, _, _, rfl, .inr rfl⟩
theorem dOr_eq {a l b : Expr} (h : dOr a = some (l, b)) : ∃ y r p, a = .BoolOp .Or (l :: y :: r) p ∧ ((r = [] ∧ b = y) ∨ b = .BoolOp .Or (y :: r) p) := by
  unfold dOr at h; split at h <;> cases h
  · exact ⟨_, _, _, rfl, .inl ⟨rfl, rfl⟩⟩
  · exact ⟨_, _, _, rfl, .inr rfl⟩
theorem dIf_eq {a t x y : Expr} (h : dIf a = some (t, x, y)) : ∃ p, a = .IfExp t x y p := by unfold dIf at h; split at h <;> cases h; exact ⟨_, rfl⟩
theorem dTup_eq {a : Expr} {xs : List Expr} (h : dTup a = some xs) : ∃ j p, a = .Tuple xs j p := by unfold dTup at h; split at h <;> cases h; exact ⟨_, _, rfl⟩
theorem dLst_eq {a : Expr} {xs : List Expr} (h : dLst a = some xs) : ∃ p, a = .List xs p := by unfold dLst at h; split at h <;> cases h; exact ⟨_, rfl⟩
theorem dIx_eq {a x y : Expr} (h : dIx a = some (x, y)) : ∃ p, a = .Subscript x y p := by unfold dIx at h; split at h <;> cases h; exact ⟨_, rfl⟩
theorem dSl_eq {a x : Expr} {l u : Option Expr} (h : dSl a = some (x, l, u)) : ∃ p2 p, a = .Subscript x (.Slice l u none p2) p := by unfold dSl at h; split at h <;> cases h; exact ⟨_, _, rfl⟩
theorem dRev_eq {a x : Expr} (h : dRev a = some x) : ∃ j p1 p2 p3 p, a = .Subscript x (.Slice none none (some (.UnaryOp .USub (.Constant (.int 1) j p1) p2)) p3) p := by unfold dRev at h; split at h <;> cases h; exact ⟨_, _, _, _, _, rfl⟩
theorem dCpy_eq {a x : Expr} (h : dCpy a = some x) : ∃ j p1 p3 p, a = .Subscript x (.Slice none none (some (.Constant (.int 1) j p1)) p3) p := by unfold dCpy at h; split at h <;> cases h; exact ⟨_, _, _, _, rfl⟩
theorem dLrg_eq {a y : Expr} {n r : Str} {ys : List Expr} (h : dLrg a = some (n, r, y, ys)) : ∃ p p1 pos1 pos, a = .Call (.Name n p) [.Call (.Name r p1) (y :: ys) [] pos1] [] pos := by unfold dLrg at h; split at h <;> cases h; exact ⟨_, _, _, _, rfl⟩
theorem dKw1_eq {a x y : Expr} {n k : Str} (h : dKw1 a = some (n, x, k, y)) : ∃ p1 p2 p, a = .Call (.Name n p1) [x] [⟨some k, y, p2⟩] p := by unfold dKw1 at h; split at h <;> cases h; exact ⟨_, _, _, rfl⟩
theorem dZipR_eq {a x y : Expr} {n r q : Str} (h : dZipR a = some (n, r, x, q, y)) : ∃ p p1 pos1 p2 pos2 pos, a = .Call (.Name n p) [.Call (.Name r p1) [x] [] pos1, .Call (.Name q p2) [y] [] pos2] [] pos := by unfold dZipR at h; split at h <;> cases h; exact ⟨_, _, _, _, _, _, rfl⟩
theorem dCall_eq {a y : Expr} {x : Str} {ys : List Expr} (h : dCall a = some (x, y, ys)) : ∃ p2 p, a = .Call (.Name x p2) (y :: ys) [] p := by unfold dCall at h; split at h <;> cases h; exact ⟨_, _, rfl⟩
theorem dMeth_eq {a y z : Expr} {f : Str} (h : dMeth a = some (f, y, z)) : ∃ n p ap cp, y = .Name n p ∧ (ap.endLine == cp.line) = true ∧ a = .Call (.Attribute (.Name n p) f ap) [z] [] cp := by
  unfold dMeth at h
  split at h
  · split at h <;> cases h
    rename_i hl
    exact ⟨_, _, _, _, rfl, hl, rfl⟩
  · cases h
theorem dMeth0_eq {a y : Expr} {f : Str} (h : dMeth0 a = some (f, y)) : ∃ n p ap cp, y = .Name n p ∧ (ap.endLine == cp.line) = true ∧ a = .Call (.Attribute (.Name n p) f ap) [] [] cp := by
  unfold dMeth0 at h
  split at h
  · split at h <;> cases h
    rename_i hl
    exact ⟨_, _, _, _, rfl, hl, rfl⟩
  · cases h
theorem dMeth2_eq {a y z u : Expr} {f : Str} (h : dMeth2 a = some (f, y, z, u)) : ∃ n p ap cp, y = .Name n p ∧ (ap.endLine == cp.line) = true ∧ a = .Call (.Attribute (.Name n p) f ap) [z, u] [] cp := by
  unfold dMeth2 at h
  split at h
  · split at h <;> cases h
    rename_i hl
    exact ⟨_, _, _, _, rfl, hl, rfl⟩
  · cases h
theorem dDsp_eq {a : Expr} {x : Str} {c : Int} (h : dDsp a = some (x, c)) : ∃ p1 j p2 p, a = .Dict [some (.Name x p1)] [.Constant (.int c) j p2] p := by
  unfold dDsp at h
  split at h <;> cases h
  exact ⟨_, _, _, _, rfl⟩
theorem dView_eq {a : Expr} {f n m : Str} (h : dView a = some (f, n, m)) : ∃ p1 p2 ap cp p, (ap.endLine == cp.line) = true ∧ a = .Call (.Name f p1) [.Call (.Attribute (.Name n p2) m ap) [] [] cp] [] p := by
  unfold dView at h
  split at h
  · split at h <;> cases h
    rename_i hl
    exact ⟨_, _, _, _, _, hl, rfl⟩
  · cases h
theorem dVar_eq {e : E} {i : Nat} (h : dVar e = some i) : e = .var i := by
  unfold dVar at h
  split at h <;> cases h
  rfl
theorem dDict1_eq {a : Expr} {x y : Int} (h : dDict1 a = some (x, y)) : ∃ j1 p1 j2 p2 p, a = .Dict [some (.Constant (.int x) j1 p1)] [.Constant (.int y) j2 p2] p := by
  unfold dDict1 at h
  split at h <;> cases h
  exact ⟨_, _, _, _, _, rfl⟩
theorem isDict1_eq {d : D} {x y : Int} (h : isDict1 d x y = true) : d = .dict [(.int x, .int y)] := by
  unfold isDict1 at h
  split at h
  · simp only [Bool.and_eq_true, decide_eq_true_eq] at h
    rw [h.1, h.2]
  · cases h
theorem dComp_eq {a x t i : Expr} {ifs : List Expr} {scope : Scope} (h : dComp a = some (x, t, i, ifs, scope)) : ∃ p, a = .ListComp x [⟨t, i, ifs, 0⟩] scope p := by unfold dComp at h; split at h <;> cases h; exact ⟨_, rfl⟩
theorem dDict_eq {a : Expr} (h : dDict a = true) : ∃ p, a = .Dict [] [] p := by
  unfold dDict at h
  split at h
  · exact ⟨_, rfl⟩
  · cases h
theorem noset {i : Expr} {env : Env} (h : dSet i = false) : ∀ x, foldedSetIterable i env x = pure x := by
  intro x
  cases i <;> first | rfl | (cases h)
/-- no expression form is a starred one, or a slice, or a set -/
def Plain (a : Expr) : Prop := (∀ x p, a ≠ .Starred x p) ∧ (∀ l u s p, a ≠ .Slice l u s p) ∧ (∀ e k p, a ≠ .Set e k p)
theorem chkE_plain {ci : CI} {sc : Scope} {N : List Str} : ∀ {e : E} {a : Expr}, chkE ci sc N e a = true → Plain a := by
  have go : ∀ (a : Expr), ¬ Plain a → ∀ e : E, chkE ci sc N e a = false := by
    intro a ha e
    induction e using E.rec (motive_2 := fun _ => True) (motive_3 := fun _ => True) (motive_4 := fun _ => True) with
    | own e ih => rw [chkE, ih, Bool.and_false]
    | _ => first | trivial | (cases a <;> first | (rw [chkE]; rfl) | (exact (ha ⟨fun _ _ h => (nomatch h), fun _ _ _ _ h => (nomatch h), fun _ _ _ h => (nomatch h)⟩).elim))
  intro e a h
  exact Classical.byContradiction fun n => by rw [go a n e] at h; cases h
end MF

set_option Elab.async false
set_option linter.all false
set_option maxRecDepth 100000
set_option maxHeartbeats 4000000
/-! the shapes of a text's own defs that catch a refusal and tell its word -/
namespace MF
open PySem PySem.Spec PyProof.Rows L2

/-! isinstance(e, c) written -/
def dIs (e : Str) : Expr → Option Str
  | .Call (.Name f _) [.Name e' _, .Name c _] [] _ => if f = "isinstance" ∧ e' = e then some c else none
  | _ => none
theorem dIs_eq {e c : Str} {x : Expr} (h : dIs e x = some c) : ∃ p1 p2 p3 p4, x = .Call (.Name "isinstance" p1) [.Name e p2, .Name c p3] [] p4 := by
  unfold dIs at h
  split at h
  · split at h
    · rename_i f p1 e' p2 c' p3 p4 z
      obtain ⟨rfl, rfl⟩ := z
      cases h
      exact ⟨_, _, _, _, rfl⟩
    · cases h
  · cases h
def dIss (e : Str) : List Expr → Option (List Str)
  | [] => some []
  | x :: r => (dIs e x).bind fun c => (dIss e r).map (c :: ·)
/-! the marks -/
def dM1 (e m : Str) : Stmt → Option (List Str)
  | .Assign [.Name m' _] (.List as _) _ => if m' = m then dIss e as else none
  | _ => none
def dM2 (e m : Str) : Stmt → Option (List Str)
  | .Assign [.Name m' _] (.BinOp (.Name m2 _) .Add (.List as _) _) _ => if m' = m ∧ m2 = m then dIss e as else none
  | _ => none
def dMA (e m : Str) : Stmt → Option Str
  | .Expr (.Call (.Attribute (.Name m' _) at1 ap) [x] [] cp) _ => if m' = m ∧ at1 = "append" ∧ (ap.endLine == cp.line) = true then dIs e x else none
  | _ => none
/-! the words -/
def dStrs : List Expr → Option (List Str)
  | [] => some []
  | .Constant (.str s) _ _ :: r => (dStrs r).map (s :: ·)
  | _ :: _ => none
def dW1 (w : Str) : Stmt → Option (List Str)
  | .Assign [.Name w' _] (.List as _) _ => if w' = w then dStrs as else none
  | _ => none
def dW2 (w : Str) : Stmt → Option (List Str)
  | .Assign [.Name w' _] (.BinOp (.Name w2 _) .Add (.List as _) _) _ => if w' = w ∧ w2 = w then dStrs as else none
  | _ => none
/-- m.f(True) -/
def dMf (f m : Str) : Expr → Bool
  | .Call (.Attribute (.Name m' _) at1 ap) [.Constant (.bool b) _ _] [] cp => decide (m' = m) && decide (at1 = f) && b && (ap.endLine == cp.line)
  | _ => false
theorem dMf_eq {f m : Str} {x : Expr} (h : dMf f m x = true) : ∃ p1 ap j p2 cp, x = .Call (.Attribute (.Name m p1) f ap) [.Constant (.bool true) j p2] [] cp ∧ (ap.endLine == cp.line) = true := by
  unfold dMf at h
  split at h
  · simp only [Bool.and_eq_true, decide_eq_true_eq] at h
    obtain ⟨⟨⟨rfl, rfl⟩, rfl⟩, h4⟩ := h
    exact ⟨_, _, _, _, _, rfl, h4⟩
  · cases h
/-- if m.count(True) != 1 or not isinstance(e, ValueError): return (..,) -/
def dIfW (e m : Str) : Stmt → Bool
  | .If (.BoolOp .Or [.Compare x [.NotEq] [.Constant (.int i) _ _] _, .UnaryOp .Not y _] _) [.Return (some (.Tuple [.Constant (.str _) _ _] _ _)) _] [] _ => dMf "count" m x && decide (i = 1) && decide (dIs e y = some ("ValueError" : Str))
  | _ => false
theorem dIfW_eq {e m : Str} {s : Stmt} (h : dIfW e m s = true) : ∃ x j p1 p2 y p3 p4 o j2 p5 j3 p6 p7 p8, s = .If (.BoolOp .Or [.Compare x [.NotEq] [.Constant (.int 1) j p1] p2, .UnaryOp .Not y p3] p4) [.Return (some (.Tuple [.Constant (.str o) j2 p5] j3 p6)) p7] [] p8 ∧ dMf "count" m x = true ∧ dIs e y = some ("ValueError" : Str) := by
  unfold dIfW at h
  split at h
  · simp only [Bool.and_eq_true, decide_eq_true_eq] at h
    obtain ⟨⟨h1, rfl⟩, h3⟩ := h
    exact ⟨_, _, _, _, _, _, _, _, _, _, _, _, _, _, rfl, h1, h3⟩
  · cases h
/-- return (w[m.index(True)],) -/
def dR1 (m w : Str) : Stmt → Bool
  | .Return (some (.Tuple [.Subscript (.Name w' _) x _] _ _)) _ => decide (w' = w) && dMf "index" m x
  | _ => false
theorem dR1_eq {m w : Str} {s : Stmt} (h : dR1 m w s = true) : ∃ p1 x p2 j p3 p4, s = .Return (some (.Tuple [.Subscript (.Name w p1) x p2] j p3)) p4 ∧ dMf "index" m x = true := by
  unfold dR1 at h
  split at h
  · simp only [Bool.and_eq_true, decide_eq_true_eq] at h
    obtain ⟨rfl, h2⟩ := h
    exact ⟨_, _, _, _, _, _, rfl, h2⟩
  · cases h
/-- v = w[m.index(True)]; return (v, e.at) if v == "text" else (v,) -/
def dA1 (m w v : Str) : Stmt → Bool
  | .Assign [.Name v' _] (.Subscript (.Name w' _) x _) _ => decide (v' = v) && decide (w' = w) && dMf "index" m x
  | _ => false
theorem dA1_eq {m w v : Str} {s : Stmt} (h : dA1 m w v s = true) : ∃ p1 p2 x p3 p4, s = .Assign [.Name v p1] (.Subscript (.Name w p2) x p3) p4 ∧ dMf "index" m x = true := by
  unfold dA1 at h
  split at h
  · simp only [Bool.and_eq_true, decide_eq_true_eq] at h
    obtain ⟨⟨rfl, rfl⟩, h2⟩ := h
    exact ⟨_, _, _, _, _, rfl, h2⟩
  · cases h
def dR2 (v : Str) : Stmt → Bool
  | .Return (some (.IfExp (.Compare (.Name v1 _) [.Eq] [.Constant (.str t) _ _] _) _ (.Tuple [.Name v2 _] _ _) _)) _ => decide (v1 = v) && decide (v2 = v) && decide (t = "text")
  | _ => false
theorem dR2_eq {v : Str} {s : Stmt} (h : dR2 v s = true) : ∃ p1 j p2 p3 x p4 j2 p5 p6 p7, s = .Return (some (.IfExp (.Compare (.Name v p1) [.Eq] [.Constant (.str "text") j p2] p3) x (.Tuple [.Name v p4] j2 p5) p6)) p7 := by
  unfold dR2 at h
  split at h
  · simp only [Bool.and_eq_true, decide_eq_true_eq] at h
    obtain ⟨⟨rfl, rfl⟩, rfl⟩ := h
    exact ⟨_, _, _, _, _, _, _, _, _, _, rfl⟩
  · cases h
def wordsOk (w : Str) (s1 s2 : Stmt) : Bool := match dW1 w s1, dW2 w s2 with
  | some a, some b => decide ((a ++ b).take 16 = wordsL) && decide ((a ++ b).length ≤ 1000)
  | _, _ => false
def chkTail (e m w v : Str) : List Stmt → Bool
  | [i, w1, w2, r] => dIfW e m i && wordsOk w w1 w2 && dR1 m w r
  | [i, w1, w2, a1, r] => dIfW e m i && wordsOk w w1 w2 && dA1 m w v a1 && dR2 v r && decide (v ≠ Str.empty)
  | _ => false
def chkMs (e m w v : Str) (acc : List Str) : List Stmt → Bool
  | [] => false
  | st :: rest => match dM2 e m st with
    | some cs => chkMs e m w v (acc ++ cs) rest
    | none => match dMA e m st with
      | some c => chkMs e m w v (acc ++ [c]) rest
      | none => decide (acc = clsAll) && chkTail e m w v (st :: rest)
/-- the def's names: what is caught, the marks, the words (, the word) -/
def chkWhich (sc : Scope) (N : List Str) : List Stmt → Bool
  | [] => false
  | st :: rest => match N with
    | e :: m :: w :: r => decide (3 ≤ N.length ∧ N.length ≤ 4) && decide N.Nodup && visB sc e && okNm e && okNm m && okNm w && (r.all fun v => okNm v && decide (sc.names.lookup v = some .local)) && decide (sc.names.lookup m = some .local) && decide (sc.names.lookup w = some .local) && glB sc "isinstance" && (("ValueError" : Str) :: clsAll).all (fun c => glB sc c && okNm c) &&
      (match dM1 e m st with
        | some cs => chkMs e m w (r.headD Str.empty) cs rest
        | none => false)
    | _ => false
/-! try: return ("told", a()) / except MainError as e: return which(e) -/
def dTold : List Stmt → Option (Str × Str × Str)
  | [.Try [.Return (some (.Tuple [.Constant (.str t) _ _, .Call (.Name a _) [] [] _] _ _)) _] [.ExceptHandler (some (.Name mn _)) (some e) [.Return (some (.Call (.Name w _) [.Name e2 _] [] _)) _] _] [] [] _] => if t = "told" ∧ mn = "MainError" ∧ e2 = e then some (a, e, w) else none
  | _ => none
theorem dTold_eq {l : List Stmt} {a e w : Str} (h : dTold l = some (a, e, w)) : ∃ j p1 p2 p3 j2 p4 p5 p6 p7 p8 p9 p10 p11 p12, l = [.Try [.Return (some (.Tuple [.Constant (.str "told") j p1, .Call (.Name a p2) [] [] p3] j2 p4)) p5] [.ExceptHandler (some (.Name "MainError" p6)) (some e) [.Return (some (.Call (.Name w p7) [.Name e p8] [] p9)) p10] p11] [] [] p12] := by
  unfold dTold at h
  split at h
  · split at h
    · rename_i z
      obtain ⟨rfl, rfl, rfl⟩ := z
      cases h
      exact ⟨_, _, _, _, _, _, _, _, _, _, _, _, _, _, rfl⟩
    · cases h
  · cases h
end MF

set_option Elab.async false
set_option linter.all false
set_option maxRecDepth 100000
set_option maxHeartbeats 4000000
/-! the context of a body; readings -/
namespace MF
open PySem PySem.Spec PyProof.Rows L2
variable [LTab]

/-- a def's promise, run where nothing is being shown (guards) -/
structure FG (P : Program) (w : World) (K : PySem.W.Frag) (mg : Str → Option Value) (base : Heap) (k : Nat) (f : Addr) (fd : FuncData) (ps : List Str) (sp : Sp) : Prop where
  len : ∀ vs H Q E, sp vs H Q E → vs.length = ps.length
  run : ∀ (A : Around) (outer : List Env) (s : Shared) (H : Hp) (args : Args) (us : List Value) (vs : List V) (Q : VK) (E : XK), Room k A → A.guards = some [] → Env0 P w K mg base A outer s H →
    BindsTo s fd args (ps.zip us) → Vals vs us → sp vs H Q E → codeAny (model P w) A (.call (.ref f) args) (CR (L2.CX P w) outer P w H s Q E) s
abbrev CF := Nat → List W → Hs → Res W
/-- what the evaluator says of the def f is what it does -/
def spF (K : PySem.W.Frag) (ca : Nat → Addr) (cf : CF) (f np : Nat) : Sp := fun vs H Q E => vs.length = np ∧ ∃ (B : Addr → Prop) (φ : List Addr) (h : Hs) (ws : List W), RS K B φ h H ∧ RWs K φ (Mu B φ h) H ws vs ∧
  Pg K B φ h H (fun c H' => E (.ref (ca c)) none H') (cf f ws h) (CV K B Q)
section
variable (K : PySem.W.Frag) (cs : List D) (cf : CF) (ca : Nat → Addr) (Wx : WX)
abbrev Ex (σ : L2.St) : Nat → Hp → Prop := fun c H' => Wx (.ref (ca c)) none σ H'
def tE (e : E) : TE := fun σ H Q => ∃ (B : Addr → Prop) (φ : List Addr) (env : Ev) (h : Hs), RS K B φ h H ∧ RE K φ (Mu B φ h) H env σ ∧ Pg K B φ h H (Ex ca Wx σ) (ev cs cf e env h) (CV K B Q)
def tEs (es : Es) : TA := fun σ H Q => ∃ (B : Addr → Prop) (φ : List Addr) (env : Ev) (h : Hs), RS K B φ h H ∧ RE K φ (Mu B φ h) H env σ ∧
  Pg K B φ h H (Ex ca Wx σ) (evs cs cf es env h) (fun φ' h' H' ws => ∀ vs, RWs K φ' (Mu B φ' h') H' ws vs → Q vs H')
def tT (e : E) : TT := fun σ H Q => ∃ (B : Addr → Prop) (φ : List Addr) (env : Ev) (h : Hs), RS K B φ h H ∧ RE K φ (Mu B φ h) H env σ ∧
  Pg K B φ h H (Ex ca Wx σ) ((ev cs cf e env h).bind fun x h1 => Res.opt (truW x h1) h1) (fun _ _ H' r => Q r H')
def tO (e : Eo) : TO := fun σ H Q => ∃ (B : Addr → Prop) (φ : List Addr) (env : Ev) (h : Hs), RS K B φ h H ∧ RE K φ (Mu B φ h) H env σ ∧
  Pg K B φ h H (Ex ca Wx σ) (evo cs cf e env h) (fun _ _ H' r => Q r H')
/-- what the walk J yields, from this state on: the trees xs -/
def Src (J : It) (xs : List D) (B : Addr → Prop) (φ : List Addr) (h : Hs) (H : Hp) : Prop :=
  ∀ (B' : Addr → Prop) (φ' : List Addr) (h' : Hs) (H' : Hp), (∀ a, B' a → B a ∨ H a = none) → Ext φ h H φ' h' H' → RS K B' φ' h' H' → ∀ i,
    (i < xs.length → J.go i H' ∧ ∀ x H2, J.yld i H' x H2 → ∃ d, xs[i]? = some d ∧ (H2 = H' ∨ (∃ p o, H' p = none ∧ H2 = upd H' p o) ∨ ∃ p q o u, H' p = none ∧ H' q = none ∧ q ≠ p ∧ H2 = upd (upd H' p o) q u) ∧ RD K (Mu B' φ' h') H2 d x) ∧ (i = xs.length → J.stop i H')
def tI (it : I) : TI := fun σ H R => ∃ (B : Addr → Prop) (φ : List Addr) (env : Ev) (h : Hs), RS K B φ h H ∧ RE K φ (Mu B φ h) H env σ ∧
  Pg K B φ h H (Ex ca Wx σ) (evI cs cf it env h) (fun φ' h' H' xs => xs.length ≤ sizeLine → ∀ J, Src K J xs B φ' h' H' → R J H')
/-- one more that is busy -/
def Bp (B : Addr → Prop) (p : Addr) : Addr → Prop := fun a => B a ∨ a = p
/-- what is wanted of a fresh list or dict -/
def FP (K : PySem.W.Frag) (B : Addr → Prop) (H : Hp) (Q : VK) : List Addr → Hs → Hp → W → Prop := fun φ' h' H' w => ∃ d : D, w = W.t d ∧ ∀ p, H p = none → RS K (Bp B p) φ' h' H' → match d with
    | .list ds => ∀ vs, H' p = some (.lst vs) → RDs K (Mu (Bp B p) φ' h') H' ds vs → Q (.ref p) H'
    | .dict [] => H' p = some (.dK []) → Q (.ref p) H'
    | _ => False
/-- a fresh list or dict -/
def tF (e : E) : TE := fun σ H Q => ∃ (B : Addr → Prop) (φ : List Addr) (env : Ev) (h : Hs), RS K B φ h H ∧ RE K φ (Mu B φ h) H env σ ∧ Pg K B φ h H (Ex ca Wx σ) (ev cs cf e env h) (FP K B H Q)
/-- a target takes a tree -/
def gT (t : Tg) : TG := fun v σ H Q => ∃ (B : Addr → Prop) (φ : List Addr) (env env' : Ev) (h : Hs) (d : D), RS K B φ h H ∧ RE K φ (Mu B φ h) H env σ ∧ RD K (Mu B φ h) H d v ∧ asgT t d env = some env' ∧
  ∀ σ', RE K φ (Mu B φ h) H env' σ' → (∀ own, tgIn own t = true → L2.wipe σ' own = L2.wipe σ own) → Q σ' H
def gTs (l : List Tg) : TGs := fun vs σ H Q => ∃ (B : Addr → Prop) (φ : List Addr) (env env' : Ev) (h : Hs) (ds : List D), RS K B φ h H ∧ RE K φ (Mu B φ h) H env σ ∧ RDs K (Mu B φ h) H ds vs ∧ asgTs l ds env = some env' ∧
  ∀ σ', RE K φ (Mu B φ h) H env' σ' → (∀ own, tgsIn own l = true → L2.wipe σ' own = L2.wipe σ own) → Q σ' H
end

/-! ### weaker readings -/
section
variable {X : Cx}
theorem pe_of {e : Expr} {t t' : TE} (h : PE X e t) (g : ∀ σ H Q, t' σ H Q → t σ H Q) : PE X e t' := ⟨fun pins s σ H Q I q => h.run pins s σ H Q I (g σ H Q q)⟩
theorem pt_of {e : Expr} {t t' : TT} (h : PT X e t) (g : ∀ σ H Q, t' σ H Q → t σ H Q) : PT X e t' := ⟨fun pins s σ H Q I q => h.run pins s σ H Q I (g σ H Q q)⟩
theorem pa_of {e : List Expr} {t t' : TA} (h : PA X e t) (g : ∀ σ H Q, t' σ H Q → t σ H Q) : PA X e t' := ⟨fun pos pins s σ H Q I q => h.run pos pins s σ H Q I (g σ H Q q)⟩
theorem pg_of {e : Expr} {t t' : TG} (h : PG X e t) (g : ∀ v σ H Q, t' v σ H Q → t v σ H Q) : PG X e t' := ⟨fun pins s σ H v u Q I r q => h.run pins s σ H v u Q I r (g v σ H Q q)⟩
theorem pgs_of {e : List Expr} {t t' : TGs} (h : PGs X e t) (g : ∀ v σ H Q, t' v σ H Q → t v σ H Q) : PGs X e t' := ⟨fun pins s σ H v u Q I r q => h.run pins s σ H v u Q I r (g v σ H Q q)⟩
theorem po_of {e : Option Expr} {t t' : TO} (h : PO X e t) (g : ∀ σ H Q, t' σ H Q → t σ H Q) : PO X e t' := ⟨fun pins s σ H Q I q => h.run pins s σ H Q I (g σ H Q q)⟩
theorem pi_of {tg e : Expr} {t t' : TI} (h : PI X tg e t) (g : ∀ σ H Q, t' σ H Q → t σ H Q) : PI X tg e t' := ⟨fun pins s σ H Q I q => h.run pins s σ H Q I (g σ H Q q)⟩
theorem visB_vis {sc : Scope} {x : Str} (h : visB sc x = true) : Vis sc x := by
  unfold visB at h
  split at h
  · exact .inl (by assumption)
  · exact .inr (.inl (by assumption))
  · exact .inr (.inr (by assumption))
  · cases h
theorem locB_loc {sc : Scope} {x : Str} (h : locB sc x = true) : Loc sc x := by
  unfold locB at h
  split at h
  · exact .inl (by assumption)
  · exact .inr (by assumption)
  · cases h
theorem glB_gl {x : Str} (h : glB X.env.scope x = true) : Gl X x := by
  unfold glB at h
  split at h
  · assumption
  · cases h
theorem okNm_nm {x : Str} (h : okNm x = true) : (x == ("__debug__" : Str)) = false ∧ (x == ("__classdict__" : Str)) = false ∧ x ≠ "__name__" := by
  unfold okNm at h
  simp only [Bool.and_eq_true, Bool.not_eq_true'] at h
  refine ⟨h.1.1, h.1.2, fun z => ?_⟩
  have := h.2
  rw [z] at this
  exact absurd this (by decide)
theorem star_one {a : Expr} {as : List Expr} {env : Env} (h : Plain a) : starEach (a :: as) env = (false, eval a env) :: starEach as env := by
  cases a <;> first | rfl | (exact (h.1 _ _ rfl).elim)
theorem star_all {env : Env} : ∀ {as : List Expr}, (∀ a ∈ as, Plain a) → starEach as env = as.map fun a => (false, eval a env)
  | [], _ => rfl
  | a :: as, h => by
    rw [star_one (h a List.mem_cons_self), star_all fun b hb => h b (List.mem_cons_of_mem _ hb)]
    rfl
theorem chkEs_plain {ci : CI} {sc : Scope} {N : List Str} : ∀ {es : Es} {as : List Expr}, chkEs ci sc N es as = true → ∀ a ∈ as, Plain a
  | .nil, [], _, a, h => by cases h
  | .nil, _ :: _, h, _, _ => by simp [chkEs] at h
  | .cons _ _, [], h, _, _ => by simp [chkEs] at h
  | .cons e es, b :: as, h, a, hm => by
    simp only [chkEs, Bool.and_eq_true] at h
    rcases List.mem_cons.mp hm with rfl | hm
    · exact chkE_plain h.1
    · exact chkEs_plain h.2 a hm
theorem back_plain {pos : Pos} {env : Env} : ∀ {as : List Expr}, (∀ a ∈ as, Plain a) → (backTo pos (starEach as env)).any (·.1) = false := by
  intro as h
  rw [star_all h]
  induction as with
  | nil => rfl
  | cons a as ih => exact ih fun b hb => h b (List.mem_cons_of_mem _ hb)
theorem back_all {pos : Pos} {env : Env} {as : List Expr} (h : ∀ a ∈ as, Plain a) : (backTo pos (starEach as env)).all (fun x => !x.1) = true := by
  rw [star_all h]
  induction as with
  | nil => rfl
  | cons a as ih => exact ih fun b hb => h b (List.mem_cons_of_mem _ hb)
theorem asg_one {a : Expr} {as : List Expr} {env : Env} {ci : CI} {lk : Str → Bool} {N : List Str} {t : Tg} (h : chkT lk N t a = true) : assignEach (a :: as) env = (false, assign a env) :: assignEach as env := by
  cases a <;> first | rfl | (cases t <;> simp [chkT] at h)
theorem asg_all {env : Env} {lk : Str → Bool} {N : List Str} : ∀ {ts : List Tg} {as : List Expr}, chkTs lk N ts as = true → assignEach as env = as.map fun a => (false, assign a env)
  | [], [], _ => rfl
  | [], _ :: _, h => by simp [chkTs] at h
  | _ :: _, [], h => by simp [chkTs] at h
  | t :: ts, a :: as, h => by
    simp only [chkTs, Bool.and_eq_true] at h
    rw [asg_one (ci := ⟨[], [], [], false⟩) h.1, asg_all h.2]
    rfl
theorem chkTs_len {lk : Str → Bool} {N : List Str} : ∀ {ts : List Tg} {as : List Expr}, chkTs lk N ts as = true → ts.length = as.length
  | [], [], _ => rfl
  | [], _ :: _, h => by simp [chkTs] at h
  | _ :: _, [], h => by simp [chkTs] at h
  | t :: ts, a :: as, h => by
    simp only [chkTs, Bool.and_eq_true] at h
    rw [List.length_cons, List.length_cons, chkTs_len h.2]
end
/-! ### targets -/
section
variable {K : PySem.W.Frag} {X : Cx}
theorem wipe_set {σ : L2.St} {i : Nat} {o : Option V} : ∀ {own : List Nat}, own.contains i = true → L2.wipe (σ.set i o) own = L2.wipe σ own
  | [], h => by simp at h
  | v :: vs, h => by
    unfold L2.wipe
    by_cases hv : v = i
    · subst hv
      by_cases hc : vs.contains v = true
      · rw [wipe_set hc]
      · have hm : v ∉ vs := by simpa using hc
        have go : ∀ (l : List Nat), v ∉ l → L2.wipe (σ.set v o) l = (L2.wipe σ l).set v o := by
          intro l
          induction l with
          | nil => intro _; rfl
          | cons x l ih =>
            intro hx
            simp only [List.mem_cons, not_or] at hx
            unfold L2.wipe
            rw [ih hx.2, List.set_comm _ _ hx.1]
        rw [go vs hm, List.set_set]
    · have : vs.contains i = true := by
        simp only [List.contains_cons, Bool.or_eq_true, beq_iff_eq] at h
        rcases h with h | h
        · exact absurd h.symm hv
        · exact h
      rw [wipe_set this]
mutual
theorem ok_T (nd : X.N.Nodup) (hc : X.calm = true) {lk : Str → Bool} (hf : ∀ x, lk x = true → Loc X.env.scope x ∧ (X.fn x = true ∨ X.env.scope.names.lookup x = some .local)) : ∀ (t : Tg) (a : Expr), chkT lk X.N t a = true → PG X a (gT X.K t)
  | .nm i, a, h => by
    cases a with
    | Name x p =>
      simp only [chkT, Bool.and_eq_true, decide_eq_true_eq] at h
      refine pg_of (pg_name nd h.1 (hf x h.2).1 (hf x h.2).2) fun v σ H Q q => ?_
      obtain ⟨B, φ, env, env', hh, d, S, R, r, e, q⟩ := q
      simp only [asgT, Option.some.injEq] at e
      subst e
      exact q _ (R.set (.t r)) fun own ho => wipe_set (by simpa [tgIn] using ho)
    | _ => simp [chkT] at h
  | .tup l, a, h => by
    cases a with
    | Tuple es k p =>
      simp only [chkT] at h
      refine pg_of (pg_tup hc (ok_Ts nd hc hf l es h) (n := es.length) (by rw [asg_all h, List.length_map]) ?_) fun v σ H Q q => ?_
      · rw [asg_all h]
        clear h
        induction es with
        | nil => rfl
        | cons a as ih => simp [List.findIdx?_cons, ih]
      · obtain ⟨B, φ, env, env', hh, d, S, R, r, e, q⟩ := q
        simp only [asgT] at e
        cases d with
        | tuple ds =>
          simp only at e
          cases r with
          | @tup a vs _ hq rs =>
            have hlen : ∀ (l : List Tg) (ds : List D) (env env' : Ev), asgTs l ds env = some env' → l.length = ds.length := by
              intro l
              induction l with
              | nil => intro ds env env' e; cases ds with
                | nil => rfl
                | cons _ _ => simp [asgTs] at e
              | cons t l ih => intro ds env env' e; cases ds with
                | nil => simp [asgTs] at e
                | cons d ds =>
                  simp only [asgTs] at e
                  obtain ⟨e1, _, e2⟩ := Option.bind_eq_some_iff.mp e
                  rw [List.length_cons, List.length_cons, ih ds e1 env' e2]
            exact ⟨a, vs, rfl, hq, by rw [← rs.len, ← hlen l ds env env' e, chkTs_len h], B, φ, env, env', hh, ds, S, R, rs, e, fun σ' r' w => q σ' r' fun own ho => w own (by simpa [tgIn] using ho)⟩
        | _ => simp at e
    | _ => simp [chkT] at h
theorem ok_Ts (nd : X.N.Nodup) (hc : X.calm = true) {lk : Str → Bool} (hf : ∀ x, lk x = true → Loc X.env.scope x ∧ (X.fn x = true ∨ X.env.scope.names.lookup x = some .local)) : ∀ (ts : List Tg) (as : List Expr), chkTs lk X.N ts as = true → PGs X as (gTs X.K ts)
  | [], [], _ => pgs_of pgs_nil fun v σ H Q q => by
    obtain ⟨B, φ, env, env', hh, ds, S, R, r, e, q⟩ := q
    cases ds with
    | nil =>
      cases r
      simp only [asgTs, Option.some.injEq] at e
      subst e
      exact ⟨rfl, q σ R fun _ _ => rfl⟩
    | cons _ _ => simp [asgTs] at e
  | [], _ :: _, h => by simp [chkTs] at h
  | _ :: _, [], h => by simp [chkTs] at h
  | t :: ts, a :: as, h => by
    have h0 := h
    simp only [chkTs, Bool.and_eq_true] at h
    refine pgs_of (pgs_cons (ok_T nd hc hf t a h.1) (ok_Ts nd hc hf ts as h.2) (by rw [asg_one (ci := ⟨[], [], [], false⟩) h.1]; rfl)) fun v σ H Q q => ?_
    obtain ⟨B, φ, env, env', hh, ds, S, R, r, e, q⟩ := q
    cases ds with
    | nil => simp [asgTs] at e
    | cons d ds =>
      cases r with
      | @cons _ v1 _ vs r1 r2 =>
        simp only [asgTs] at e
        obtain ⟨e1, h1, h2⟩ := Option.bind_eq_some_iff.mp e
        refine ⟨v1, vs, rfl, B, φ, env, e1, hh, d, S, R, r1, h1, fun σ1 R1 w1 => ?_⟩
        exact ⟨B, φ, e1, env', hh, ds, S, R1, r2, h2, fun σ' r' w => q σ' r' fun own ho => by
          simp only [tgsIn, Bool.and_eq_true] at ho
          rw [w own ho.2, w1 own ho.1]⟩
end
end
end MF

set_option Elab.async false
set_option linter.all false
set_option maxRecDepth 100000
set_option maxHeartbeats 4000000
/-! zip of any number of lists and tuples -/
namespace MZ
open PySem PySem.Spec PyProof.Rows L2

/-- how a sequence is walked: a list, a tuple, either backwards (so long) -/
inductive IK where | l | t | rl (n : Nat) | rt (n : Nat)
def fwK : IK → Bool
  | .l => true
  | .t => true
  | _ => false
/-- its: the items in the walk's order -/
def SeqK (k : IK) (h : Heap) (a : Addr) (its : Array Value) : Prop := match k with
  | .l => h.IsList a its
  | .t => h.IsTuple a its
  | .rl n => its.size = n ∧ h.IsList a its.reverse
  | .rt n => (its.size = n ∧ n ≤ sizeLine) ∧ h.IsTuple a its.reverse
def IterK (k : IK) (h : Heap) (I a : Addr) (i : Nat) : Prop := match k with
  | .l => h.IsListIter I a i
  | .t => h.IsTupleIter I a i
  | .rl n => i ≤ n ∧ h.IsRevIter I a ((n : Int) - 1 - (i : Int))
  | .rt n => i ≤ n ∧ RT.IsRt h I a ((n : Int) - 1 - (i : Int))
def itObj (k : IK) (a : Addr) : Obj := match k with
  | .l => { cls := .type "list_iterator", data := .fields #[.ref a, .int 0 0] }
  | .t => { cls := .type "tuple_iterator", data := .fields #[.ref a, .int 0 0] }
  | .rl n => revObj a ((n : Int) - 1)
  | .rt n => RT.rtObj a ((n : Int) - 1)
theorem isL_at {h h' : Heap} {a : Addr} {its : Array Value} (x : h.IsList a its) (e : ∀ o, h.get? a = some o → h'.get? a = some o) : h'.IsList a its := by
  obtain ⟨o, ho, r⟩ := x; exact ⟨o, e _ ho, r⟩
theorem isT_at {h h' : Heap} {a : Addr} {its : Array Value} (x : h.IsTuple a its) (e : ∀ o, h.get? a = some o → h'.get? a = some o) : h'.IsTuple a its := by
  obtain ⟨o, ho, r⟩ := x; exact ⟨o, e _ ho, r⟩
theorem SeqK.at {k : IK} {h h' : Heap} {a : Addr} {its : Array Value} (x : SeqK k h a its) (e : ∀ o, h.get? a = some o → h'.get? a = some o) : SeqK k h' a its := by
  cases k with
  | l => exact isL_at x e
  | t => exact isT_at x e
  | rl n => exact ⟨x.1, isL_at x.2 e⟩
  | rt n => exact ⟨x.1, isT_at x.2 e⟩
theorem IterK.at {k : IK} {h h' : Heap} {I a : Addr} {i : Nat} (x : IterK k h I a i) (e : ∀ o, h.get? I = some o → h'.get? I = some o) : IterK k h' I a i := by
  cases k with
  | l => obtain ⟨o, ho, r⟩ := x; exact ⟨o, e _ ho, r⟩
  | t => obtain ⟨o, ho, r⟩ := x; exact ⟨o, e _ ho, r⟩
  | rl n => exact ⟨x.1, Heap.IsRevIter.at x.2 e⟩
  | rt n => exact ⟨x.1, RT.IsRt.at x.2 e⟩
theorem IterK.obj {k : IK} {h : Heap} {I a : Addr} {i : Nat} (x : IterK k h I a i) : ∃ o, h.get? I = some o ∧ ∀ v, o.data ≠ .cell v := by
  cases k with
  | l => obtain ⟨o, ho, _, hd⟩ := x; exact ⟨o, ho, fun v z => by rw [hd] at z; cases z⟩
  | t => obtain ⟨o, ho, _, hd⟩ := x; exact ⟨o, ho, fun v z => by rw [hd] at z; cases z⟩
  | rl n => obtain ⟨_, o, ho, _, hd⟩ := x; exact ⟨o, ho, fun v z => by rw [hd] at z; cases z⟩
  | rt n => obtain ⟨_, o, ho, _, hd⟩ := x; exact ⟨o, ho, fun v z => by rw [hd] at z; cases z⟩
theorem IterK.new {k : IK} {h : Heap} {I a : Addr} (e : h.get? I = some (itObj k a)) : IterK k h I a 0 := by
  cases k with
  | l => exact ⟨_, e, rfl, rfl⟩
  | t => exact ⟨_, e, rfl, rfl⟩
  | rl n =>
    have z : (n : Int) - 1 - ((0 : Nat) : Int) = (n : Int) - 1 := by omega
    exact ⟨Nat.zero_le _, by rw [z]; exact ⟨_, e, rfl, rfl⟩⟩
  | rt n =>
    have z : (n : Int) - 1 - ((0 : Nat) : Int) = (n : Int) - 1 := by omega
    exact ⟨Nat.zero_le _, by rw [z]; exact ⟨_, e, rfl, rfl⟩⟩
theorem IterK.lt {k : IK} {h : Heap} {I a : Addr} {i : Nat} (x : IterK k h I a i) : I < h.objs.size := let ⟨_, e, _⟩ := x.obj; Heap.lt_size e
section
variable {prog : Program} {w : World} {A : Around} {E : Value → Shared → Prop} {s : Shared} {k : IK}
theorem iter_k {a : Addr} {its : Array Value} {Q : Value → Shared → Prop} (hk : fwK k = true) (h : SeqK k s.heap a its) (q : Q (.ref s.heap.objs.size) { s with heap := s.heap.push (itObj k a) }) : wpAny (model prog w) A (pyIter (.ref a)) Q E s := by
  cases k with
  | l => exact wpAny_pyIter_list h q
  | t => exact wpAny_pyIter_tuple h q
  | rl n => cases hk
  | rt n => cases hk
/-! one draw of a walk backwards -/
theorem next_rl {I a : Addr} {j : Nat} {items : Array Value} {x : Value} {Q : Value → Shared → Prop} (it : s.heap.IsRevIter I a (j : Int)) (lst : s.heap.IsList a items) (hx : items[j]? = some x)
    (q : ∀ h', h'.IsRevIter I a ((j : Int) - 1) → Heap.SameBut I s.heap h' → Q x { s with heap := h' }) : wpAny (model prog w) A (Builtin.SmallTypes.nextOf (.ref I)) Q E s := by
  obtain ⟨ob, hob, hcl, hda⟩ := id it
  obtain ⟨ol, hol, _, nl, hdl⟩ := lst
  unfold Builtin.SmallTypes.nextOf
  refine wpAny_bind (wpAny_callSpecial?_slot (name := Str.ofString "__next__") it.typeIs F.slot_lri_next (wpAny_call_entry F.slot_lri_next it.typeIs F.entry_lri_next ?_ (F.args_lri_next_1 _)))
  unfold Builtin.«list_reverseiterator.__next__»
  refine wpAny_bind (wpAny_of_eq (a := (Value.ref I, [])) rfl (wpAny_bind (wpAny_field hob hda (x := rawInt (j : Int)) rfl ?_)))
  show wpAny _ _ (if (j : Int) < 0 then _ else _) _ _ s
  rw [if_neg (by omega : ¬ (j : Int) < 0)]
  refine wpAny_bind (wpAny_field hob hda (x := .ref a) rfl (wpAny_bind (wpAny_seqItems hol hdl ?_)))
  simp only [Int.toNat_natCast, hx]
  refine wpAny_bind (wpAny_setField hob hda (by simp) ?_)
  have new : Heap.IsRevIter (s.heap.update I (Obj.mapFields (·.setIfInBounds 1 (rawInt ((j : Int) - 1))))) I a ((j : Int) - 1) := ⟨_, Heap.get?_update_self _ hob (Obj.isFreed_of_fields (Obj.data_mapFields hda _)), (Obj.cls_mapFields ..).trans hcl, by
    rw [Obj.data_mapFields hda]; simp⟩
  first
  | exact wpAny_pure ⟨x, rfl, wpAny_pure (q _ new (Heap.SameBut.update ..))⟩
  | exact wpAny_bind (wpAny_pure (wpAny_pure ⟨x, rfl, wpAny_pure (q _ new (Heap.SameBut.update ..))⟩))
theorem next_rt {I a : Addr} {j : Nat} {items : Array Value} {x : Value} {Q : Value → Shared → Prop} (it : RT.IsRt s.heap I a (j : Int)) (tup : s.heap.IsTuple a items) (hz : items.size ≤ sizeLine) (hx : items[j]? = some x)
    (q : ∀ h', RT.IsRt h' I a ((j : Int) - 1) → Heap.SameBut I s.heap h' → Q x { s with heap := h', toks := s.toks + 1 }) : wpAny (model prog w) A (Builtin.SmallTypes.nextOf (.ref I)) Q E s := by
  obtain ⟨ob, hob, hcl, hda⟩ := id it
  have hj : j < items.size := (Array.getElem?_eq_some_iff.mp hx).1
  have tT : s.TypeIs (.ref a) "tuple" := RT.IsTup.typeOf' tup
  have hz' := hz
  rw [sizeLine_eq] at hz'
  unfold Builtin.SmallTypes.nextOf
  refine wpAny_bind (wpAny_callSpecial?_slot (name := Str.ofString "__next__") it.typeIs RT.slot_rt_next (wpAny_call_entry RT.slot_rt_next it.typeIs RT.entry_rt_next ?_ (RT.args_rt_next _)))
  unfold Builtin.«reversed.__next__»
  refine wpAny_bind (wpAny_of_eq (a := (Value.ref I, [])) rfl (wpAny_bind (wpAny_field hob hda (x := .ref a) rfl (wpAny_bind (wpAny_field hob hda (x := rawInt (j : Int)) rfl ?_)))))
  show wpAny _ _ (if (j : Int) < 0 then _ else _) _ _ s
  rw [if_neg (by omega : ¬ (j : Int) < 0)]
  refine wpAny_bind (wpAny_specialOf tT RT.get_tuple ?_)
  try dsimp only
  try rw [if_neg (by decide)]
  try dsimp only
  refine wpAny_bind (wpAny_mkInt (wpAny_bind (wpAny_attempt ?_)))
  have fin : seqIndex? (j : Int) items.size = some j := seqIndex_of (by omega) (by omega)
  refine PyProof.Rows.getItem_tuple (s := { s with toks := s.toks + 1 }) tup (by omega) (by omega) fin hx ?_
  try dsimp only
  refine wpAny_bind (wpAny_field (s := { s with toks := s.toks + 1 }) hob hda (x := rawInt (j : Int)) rfl (wpAny_bind (wpAny_setField (s := { s with toks := s.toks + 1 }) hob hda (by simp) ?_)))
  have new : RT.IsRt (s.heap.update I (Obj.mapFields (·.setIfInBounds 1 (rawInt ((j : Int) - 1))))) I a ((j : Int) - 1) := ⟨_, Heap.get?_update_self _ hob (Obj.isFreed_of_fields (Obj.data_mapFields hda _)), (Obj.cls_mapFields ..).trans hcl, by
    rw [Obj.data_mapFields hda]; simp⟩
  first
  | exact wpAny_pure ⟨x, rfl, wpAny_pure (q _ new (Heap.SameBut.update ..))⟩
  | exact wpAny_bind (wpAny_pure (wpAny_pure ⟨x, rfl, wpAny_pure (q _ new (Heap.SameBut.update ..))⟩))
/-- the exception of a walk's end -/
theorem stop_exc {α : Type} {I : Addr} {s0 : Shared} {Q : α → Shared → Prop} (calm : A.handled = none) (xb : Heap.ExtBut I s0.heap s.heap) (es : { s0 with heap := s.heap } = s)
    (q : ∀ h' e, Heap.ExtBut I s0.heap h' → (∃ o, h'.get? e = some o ∧ o.cls = .type "StopIteration") → E (.ref e) { s0 with heap := h' }) :
    wpAny (model prog w) A (Builtin.SmallTypes.stopIteration (α := α)) Q E s := by
  show wpAny _ _ (newExc (.type "StopIteration") [] >>= _) _ _ _
  refine wpAny_bind ?_
  simp only [newExc, newTuple]
  refine wpAny_bind (wpAny_newObj_type (wpAny_bind (m := firstArgMember _ _) (wpAny_of_eq (a := Value.none) (by first | rfl | (simp only [firstArgMember]; rfl)) (wpAny_newObj_type ?_ (by size_fits)))) (by size_fits))
  simp only [raiseNew]
  refine wpAny_bind (wpAny_handled ?_)
  rw [calm]
  refine wpAny_bind (wpAny_pure (wpAny_throw ?_))
  rw [← es]
  exact q _ _ ((xb.push _).push _) ⟨_, Heap.get?_push_size _ rfl, rfl⟩
theorem stop_rl {I a : Addr} {Q : Value → Shared → Prop} (calm : A.handled = none) (it : s.heap.IsRevIter I a (-1))
    (q : ∀ h' e, Heap.ExtBut I s.heap h' → (∃ o, h'.get? e = some o ∧ o.cls = .type "StopIteration") → E (.ref e) { s with heap := h' }) : wpAny (model prog w) A (Builtin.SmallTypes.nextOf (.ref I)) Q E s := by
  obtain ⟨ob, hob, hcl, hda⟩ := id it
  unfold Builtin.SmallTypes.nextOf
  refine wpAny_bind (wpAny_callSpecial?_slot (name := Str.ofString "__next__") it.typeIs F.slot_lri_next (wpAny_call_entry F.slot_lri_next it.typeIs F.entry_lri_next ?_ (F.args_lri_next_1 _)))
  unfold Builtin.«list_reverseiterator.__next__»
  refine wpAny_bind (wpAny_of_eq (a := (Value.ref I, [])) rfl (wpAny_bind (wpAny_field hob hda (x := rawInt (-1)) rfl ?_)))
  show wpAny _ _ (if (-1 : Int) < 0 then _ else _) _ _ s
  rw [if_pos (by decide : (-1 : Int) < 0)]
  exact wpAny_bind (wpAny_rule (wpAny_bind (stop_exc (A := A.in1) (s0 := s) (show A.in1.handled = none from calm) (Heap.ExtBut.refl _ _) rfl q)))
theorem stop_rt {I a : Addr} {Q : Value → Shared → Prop} (calm : A.handled = none) (it : RT.IsRt s.heap I a (-1))
    (q : ∀ h' e, Heap.ExtBut I s.heap h' → (∃ o, h'.get? e = some o ∧ o.cls = .type "StopIteration") → E (.ref e) { s with heap := h' }) : wpAny (model prog w) A (Builtin.SmallTypes.nextOf (.ref I)) Q E s := by
  obtain ⟨ob, hob, hcl, hda⟩ := id it
  unfold Builtin.SmallTypes.nextOf
  refine wpAny_bind (wpAny_callSpecial?_slot (name := Str.ofString "__next__") it.typeIs RT.slot_rt_next (wpAny_call_entry RT.slot_rt_next it.typeIs RT.entry_rt_next ?_ (RT.args_rt_next _)))
  unfold Builtin.«reversed.__next__»
  refine wpAny_bind (wpAny_of_eq (a := (Value.ref I, [])) rfl (wpAny_bind (wpAny_field hob hda (x := .ref a) rfl (wpAny_bind (wpAny_field hob hda (x := rawInt (-1)) rfl ?_)))))
  show wpAny _ _ (if (-1 : Int) < 0 then _ else _) _ _ s
  rw [if_pos (by decide : (-1 : Int) < 0)]
  refine wpAny_bind (wpAny_rule (wpAny_bind ?_))
  wp_delta
  refine wpAny_bind (wpAny_setField hob hda (by simp) ?_)
  have ho2 := Heap.get?_update_self (Obj.mapFields (·.setIfInBounds 1 (rawInt (-1)))) hob (Obj.isFreed_of_fields (Obj.data_mapFields hda _))
  refine wpAny_setField (s := { s with heap := s.heap.update I (Obj.mapFields (·.setIfInBounds 1 (rawInt (-1)))) }) ho2 (Obj.data_mapFields hda _) (by simp) ?_
  exact wpAny_bind (stop_exc (A := A.in1) (s0 := s) (show A.in1.handled = none from calm) (fun b ob hb e => (Heap.get?_update_other _ _ (Ne.symm hb)).trans ((Heap.get?_update_other _ _ (Ne.symm hb)).trans e)) rfl q)
theorem next_k {I a : Addr} {i : Nat} {its : Array Value} {x : Value} {Q : Value → Shared → Prop} (h1 : IterK k s.heap I a i) (h2 : SeqK k s.heap a its) (hx : its[i]? = some x)
    (q : ∀ h' tk, IterK k h' I a (i + 1) → Heap.SameBut I s.heap h' → Q x { s with heap := h', toks := tk }) : wpAny (model prog w) A (Builtin.SmallTypes.nextOf (.ref I)) Q E s := by
  have hi : i < its.size := (Array.getElem?_eq_some_iff.mp hx).1
  have turn : ∀ n : Nat, its.size = n → (((n - 1 - i : Nat) : Int) = (n : Int) - 1 - (i : Int)) ∧ (((n - 1 - i : Nat) : Int) - 1 = (n : Int) - 1 - ((i + 1 : Nat) : Int)) ∧ its.reverse[n - 1 - i]? = some x := fun n hn => by
    refine ⟨by omega, by omega, ?_⟩
    rw [Array.getElem?_reverse (by omega)]
    have : its.size - 1 - (n - 1 - i) = i := by omega
    rw [this]; exact hx
  cases k with
  | l => exact PySem.wpAny_nextOf_list_item h1 h2 hx fun h' a b => q h' s.toks a b
  | t => exact RZ.nextOf_tuple_item h1 h2 hx fun h' a b => q h' s.toks a b
  | rl n =>
    obtain ⟨e1, e2, e3⟩ := turn n h2.1
    obtain ⟨l1, it⟩ := h1
    rw [← e1] at it
    refine next_rl it h2.2 e3 fun h' it' sb => q h' s.toks ⟨by have := h2.1; omega, ?_⟩ sb
    rw [← e2]; exact it'
  | rt n =>
    obtain ⟨e1, e2, e3⟩ := turn n h2.1.1
    obtain ⟨l1, it⟩ := h1
    rw [← e1] at it
    refine next_rt it h2.2 (by rw [Array.size_reverse, h2.1.1]; exact h2.1.2) e3 fun h' it' sb => q h' (s.toks + 1) ⟨by have := h2.1.1; omega, ?_⟩ sb
    rw [← e2]; exact it'
theorem stop_k {I a : Addr} {i : Nat} {its : Array Value} {Q : Value → Shared → Prop} (hh : A.handled = none) (h1 : IterK k s.heap I a i) (h2 : SeqK k s.heap a its) (hx : its[i]? = none)
    (q : ∀ h' e, Heap.ExtBut I s.heap h' → (∃ o, h'.get? e = some o ∧ o.cls = .type "StopIteration") → E (.ref e) { s with heap := h' }) : wpAny (model prog w) A (Builtin.SmallTypes.nextOf (.ref I)) Q E s := by
  have hi : its.size ≤ i := Array.getElem?_eq_none_iff.mp hx
  cases k with
  | l => exact PySem.wpAny_nextOf_list_end hh h1 h2 hx q
  | t => exact RZ.nextOf_tuple_end hh h1 h2 hx q
  | rl n =>
    obtain ⟨l1, it⟩ := h1
    have hn := h2.1
    have : (n : Int) - 1 - (i : Int) = -1 := by omega
    rw [this] at it
    exact stop_rl hh it q
  | rt n =>
    obtain ⟨l1, it⟩ := h1
    have hn := h2.1.1
    have : (n : Int) - 1 - (i : Int) = -1 := by omega
    rw [this] at it
    exact stop_rt hh it q
end
/-- one of the walked: its kind, its iterator, itself -/
structure Sub where
  k : IK
  I : Addr
  a : Addr
abbrev TupAt (h : Heap) (T : Addr) (vs : List Value) : Prop := h.get? T = some { cls := .type "tuple", data := .seq vs.toArray }
structure ZOk (z TI TO : Addr) (subs : List Sub) : Prop where
  oT : TI < TO
  oz : TO < z
  lt : ∀ s ∈ subs, s.I < TI ∧ s.a < TI
  nd : (subs.map (·.I)).Nodup
  ne : ∀ s ∈ subs, ∀ t ∈ subs, s.a ≠ t.I
namespace ZOk
variable {z TI TO : Addr} {subs : List Sub}
theorem zTO (ok : ZOk z TI TO subs) : z ≠ TO := Nat.ne_of_gt ok.oz
theorem TIz (ok : ZOk z TI TO subs) : TI ≠ z := Nat.ne_of_lt (Nat.lt_trans ok.oT ok.oz)
theorem TITO (ok : ZOk z TI TO subs) : TI ≠ TO := Nat.ne_of_lt ok.oT
theorem Iz (ok : ZOk z TI TO subs) {s : Sub} (h : s ∈ subs) : s.I ≠ z := Nat.ne_of_lt (Nat.lt_trans (ok.lt s h).1 (Nat.lt_trans ok.oT ok.oz))
theorem ITO (ok : ZOk z TI TO subs) {s : Sub} (h : s ∈ subs) : s.I ≠ TO := Nat.ne_of_lt (Nat.lt_trans (ok.lt s h).1 ok.oT)
theorem ITI (ok : ZOk z TI TO subs) {s : Sub} (h : s ∈ subs) : s.I ≠ TI := Nat.ne_of_lt (ok.lt s h).1
theorem az (ok : ZOk z TI TO subs) {s : Sub} (h : s ∈ subs) : s.a ≠ z := Nat.ne_of_lt (Nat.lt_trans (ok.lt s h).2 (Nat.lt_trans ok.oT ok.oz))
theorem aTO (ok : ZOk z TI TO subs) {s : Sub} (h : s ∈ subs) : s.a ≠ TO := Nat.ne_of_lt (Nat.lt_trans (ok.lt s h).2 ok.oT)
theorem nin (ok : ZOk z TI TO subs) {s : Sub} (h : s ∈ subs) : s.a ∉ subs.map (·.I) := fun hc => by
  obtain ⟨t', h1, h2⟩ := List.mem_map.mp hc
  exact ok.ne s h t' h1 h2.symm
theorem zI (ok : ZOk z TI TO subs) : z ∉ subs.map (·.I) := fun hc => by
  obtain ⟨t', h1, h2⟩ := List.mem_map.mp hc
  exact ok.Iz h1 h2
theorem TOI (ok : ZOk z TI TO subs) : TO ∉ subs.map (·.I) := fun hc => by
  obtain ⟨t', h1, h2⟩ := List.mem_map.mp hc
  exact ok.ITO h1 h2
theorem TII (ok : ZOk z TI TO subs) : TI ∉ subs.map (·.I) := fun hc => by
  obtain ⟨t', h1, h2⟩ := List.mem_map.mp hc
  exact ok.ITI h1 h2
end ZOk
/-- a zip, whatever it knows of the tuple given out -/
abbrev IsZh (h : Heap) (z TI TO : Addr) (f0 : Value) (fb : Bool) : Prop := h.get? z = some { cls := .type "zip", data := .fields #[f0, .bool fb, .bool false, .ref TI, .ref TO] }
theorem ze_ext {h h' : Heap} {z TI TO : Addr} (k : ∀ o, h.get? z = some o → h'.get? z = some o) (x : ∃ fb, IsZh h z TI TO .ellipsis fb) : ∃ fb, IsZh h' z TI TO .ellipsis fb := let ⟨b, e⟩ := x; ⟨b, k _ e⟩
theorem alive_q {prog : Program} {w : World} {A : Around} {E : Value → Shared → Prop} {s : Shared} {a : Addr} {Q : Option Obj → Shared → Prop} (h : Q (s.heap.get? a) s) : wpAny (model prog w) A (loadIfAlive a) Q E s := fun _ _ _ => h
/-- the tuple given out is free again -/
theorem free_zip {prog : Program} {w : World} {A : Around} {E : Value → Shared → Prop} {s : Shared} {z TI TO : Addr} {f0 : Value} {fb : Bool} {Q : Bool → Shared → Prop} (hz : IsZh s.heap z TI TO f0 fb) (fr : f0 = .none ∨ ∃ T : Addr, f0 = rawInt T ∧ s.heap.get? T = none) (h : Q true s) :
    wpAny (model prog w) A (Builtin.SmallTypes.ownedTupleIsFree (.ref z)) Q E s := by
  unfold Builtin.SmallTypes.ownedTupleIsFree
  rcases fr with rfl | ⟨T, rfl, hT⟩
  · exact wpAny_bind (wpAny_field hz rfl (x := .none) rfl (wpAny_pure h))
  · refine wpAny_bind (wpAny_field hz rfl (x := rawInt T) rfl ?_)
    show wpAny _ _ (loadIfAlive ((T : Int).toNat) >>= _) _ _ _
    rw [Int.toNat_natCast]
    refine wpAny_bind (alive_q ?_)
    rw [hT]
    exact wpAny_pure h
/-- the zip at rest, behind i turns -/
structure ZAt (h : Heap) (z TI TO : Addr) (subs : List Sub) (i : Nat) (f0 : Value) : Prop where
  zp : IsZip h z TI TO f0
  ti : TupAt h TI (subs.map fun s => .ref s.I)
  to : ∃ vs : List Value, vs.length = subs.length ∧ TupAt h TO vs
  it : ∀ s ∈ subs, IterK s.k h s.I s.a i
theorem ZAt.keep {h h' : Heap} {z TI TO : Addr} {subs : List Sub} {i : Nat} {f0 : Value} (x : ZAt h z TI TO subs i f0) (k : ∀ b, (b = z ∨ b = TI ∨ b = TO ∨ b ∈ subs.map (·.I)) → ∀ o, h.get? b = some o → h'.get? b = some o) : ZAt h' z TI TO subs i f0 :=
  ⟨k z (.inl rfl) _ x.zp, k TI (.inr (.inl rfl)) _ x.ti, let ⟨vs, h1, h2⟩ := x.to; ⟨vs, h1, k TO (.inr (.inr (.inl rfl))) _ h2⟩, fun s hs => (x.it s hs).at fun o e => k s.I (.inr (.inr (.inr (List.mem_map_of_mem hs)))) o e⟩
/-- within a turn: the first j have been drawn -/
structure ZIn (h₀ h : Heap) (z TI TO : Addr) (subs : List Sub) (i : Nat) (xs : List Value) (j : Nat) : Prop where
  zp : ∃ fb, IsZh h z TI TO .ellipsis fb
  to : ∃ vs : List Value, vs.length = subs.length ∧ vs.take j = xs.take j ∧ TupAt h TO vs
  it : ∀ m s, subs[m]? = some s → IterK s.k h s.I s.a (if m < j then i + 1 else i)
  sz : h.objs.size = h₀.objs.size
  kp : ∀ c o, c ≠ z → c ≠ TO → c ∉ subs.map (·.I) → h₀.get? c = some o → h.get? c = some o
theorem I_inj {subs : List Sub} (nd : (subs.map (·.I)).Nodup) {m j : Nat} {s t : Sub} (h1 : subs[m]? = some s) (h2 : subs[j]? = some t) (e : s.I = t.I) : m = j := by
  have e1 : (subs.map (·.I))[m]? = some s.I := by rw [List.getElem?_map, h1]; rfl
  have e2 : (subs.map (·.I))[j]? = some s.I := by rw [List.getElem?_map, h2, e]; rfl
  exact nd_ix nd e1 e2
section
variable {prog : Program} {w : World} {A : Around} {E : Value → Shared → Prop} {s : Shared} {z TI TO : Addr} {subs : List Sub} {i : Nat} {f : Sub → Array Value}
/-- one draw within a turn -/
theorem step_in {h₀ : Heap} {xs : List Value} {j : Nat} {t : Sub} {x : Value} {Q : Value → Shared → Prop} (ok : ZOk z TI TO subs) (hl : xs.length = subs.length) (hs : ∀ s' ∈ subs, SeqK s'.k h₀ s'.a (f s')) (st : ZIn h₀ s.heap z TI TO subs i xs j)
    (ht : subs[j]? = some t) (hx : (f t)[i]? = some x) (hxs : xs[j]? = some x)
    (q : ∀ h1 tk vs, (∃ fb, IsZh h1 z TI TO .ellipsis fb) → vs.length = subs.length → vs.take j = xs.take j → TupAt h1 TO vs → (∀ h2, TupAt h2 TO (vs.set j x) → Heap.SameBut TO h1 h2 → ZIn h₀ h2 z TI TO subs i xs (j + 1)) → Q x { s with heap := h1, toks := tk }) :
    wpAny (model prog w) A (Builtin.SmallTypes.nextOf (.ref t.I)) Q E s := by
  have hm := List.mem_of_getElem? ht
  have it := st.it j t ht
  rw [if_neg (Nat.lt_irrefl j)] at it
  have hseq : SeqK t.k s.heap t.a (f t) := (hs t hm).at fun o e => st.kp t.a o (ok.az hm) (ok.aTO hm) (ok.nin hm) e
  refine next_k it hseq hx fun h1 tk it1 sb => ?_
  obtain ⟨vs, hv1, hv2, hv3⟩ := st.to
  refine q h1 tk vs (ze_ext (fun o e => sb.extBut _ o (ok.Iz hm).symm e) st.zp) hv1 hv2 (sb.extBut _ _ (ok.ITO hm).symm hv3) fun h2 hT sb2 => ?_
  have hj : j < xs.length := (List.getElem?_eq_some_iff.mp hxs).1
  have hj2 : j < vs.length := by rw [hv1, ← hl]; exact hj
  refine ⟨ze_ext (fun o e => sb2.extBut _ o ok.zTO (sb.extBut _ o (ok.Iz hm).symm e)) st.zp, ⟨vs.set j x, by rw [List.length_set]; exact hv1, ?_, hT⟩, fun m s' hms => ?_, by rw [sb2.1, sb.1, st.sz], fun c o c1 c2 c3 e => ?_⟩
  · have h1 : (vs.set j x).take (j + 1) = vs.take j ++ [x] := by
      rw [List.take_succ_eq_append_getElem (by rw [List.length_set]; exact hj2), List.getElem_set_self, List.take_set_of_le (Nat.le_refl _)]
    have h2 : xs.take (j + 1) = xs.take j ++ [x] := by
      rw [List.take_succ_eq_append_getElem hj]
      have : xs[j] = x := by have := hxs; rw [List.getElem?_eq_getElem hj] at this; exact Option.some.inj this
      rw [this]
    rw [h1, h2, hv2]
  · by_cases hmj : m = j
    · subst hmj
      rw [ht] at hms; cases hms
      rw [if_pos (Nat.lt_succ_self _)]
      exact it1.at fun o e => sb2.extBut _ _ (ok.ITO hm) e
    · have ne : s'.I ≠ t.I := fun e => hmj (I_inj ok.nd hms ht e)
      have e1 : (if m < j + 1 then i + 1 else i) = if m < j then i + 1 else i := by
        by_cases h : m < j
        · rw [if_pos h, if_pos (Nat.lt_succ_of_lt h)]
        · rw [if_neg h, if_neg (fun z => h (Nat.lt_of_le_of_ne (Nat.le_of_lt_succ z) hmj))]
      rw [e1]
      exact (st.it m s' hms).at fun o e => sb2.extBut _ _ (ok.ITO (List.mem_of_getElem? hms)) (sb.extBut _ _ ne e)
  · have ne : c ≠ t.I := fun q => c3 (by rw [q]; exact List.mem_map_of_mem hm)
    exact sb2.extBut _ _ c2 (sb.extBut _ _ ne (st.kp c o c1 c2 c3 e))
theorem stop_in {h₀ : Heap} {xs : List Value} {j : Nat} {t : Sub} {Q : Value → Shared → Prop} (hh : A.handled = none) (ok : ZOk z TI TO subs) (hs : ∀ s' ∈ subs, SeqK s'.k h₀ s'.a (f s')) (st : ZIn h₀ s.heap z TI TO subs i xs j)
    (ht : subs[j]? = some t) (hx : (f t)[i]? = none)
    (q : ∀ h1 e, (∃ fb, IsZh h1 z TI TO .ellipsis fb) → e ≠ z → (∃ o, h1.get? e = some o ∧ o.cls = .type "StopIteration") → (∀ c o, c ≠ z → c ≠ TO → c ∉ subs.map (·.I) → h₀.get? c = some o → h1.get? c = some o) → E (.ref e) { s with heap := h1 }) :
    wpAny (model prog w) A (Builtin.SmallTypes.nextOf (.ref t.I)) Q E s := by
  have hm := List.mem_of_getElem? ht
  have it := st.it j t ht
  rw [if_neg (Nat.lt_irrefl j)] at it
  have hseq : SeqK t.k s.heap t.a (f t) := (hs t hm).at fun o e => st.kp t.a o (ok.az hm) (ok.aTO hm) (ok.nin hm) e
  refine stop_k hh it hseq hx fun h1 e sb he => ?_
  have hz1 : ∃ fb, IsZh h1 z TI TO .ellipsis fb := ze_ext (fun o e => sb _ o (ok.Iz hm).symm e) st.zp
  refine q h1 e hz1 (fun ez => ?_) he fun c o c1 c2 c3 e => ?_
  · obtain ⟨o, ho, hc⟩ := he
    obtain ⟨fb, hz1⟩ := hz1
    rw [ez, hz1] at ho
    cases ho
    simp at hc
  · have ne : c ≠ t.I := fun q => c3 (by rw [q]; exact List.mem_map_of_mem hm)
    exact sb _ _ ne (st.kp c o c1 c2 c3 e)
theorem upd_tup {T : Addr} {vs : List Value} {k : Nat} {x : Value} {Q : Unit → Shared → Prop} (hz : vs.length ≤ 100) (hT : TupAt s.heap T vs) (h : ∀ h', TupAt h' T (vs.set k x) → Heap.SameBut T s.heap h' → Q () { s with heap := h' }) :
    wpAny (model prog w) A (updateSeq T (·.setIfInBounds k x)) Q E s := by
  have hle : (100 : Nat) ≤ sizeLine := by rw [sizeLine_eq]; decide
  refine wpAny_updateSeq hT rfl (h _ ?_ (Heap.SameBut.update ..)) (by rw [List.size_toArray]; omega) (by rw [Array.size_setIfInBounds, List.size_toArray]; omega)
  show Heap.get? _ T = _
  rw [Heap.get?_update_self _ hT rfl]
  simp [Obj.mapSeq]
theorem drop_hd {α : Type} {l r : List α} {j : Nat} {x : α} (e : x :: r = l.drop j) : l[j]? = some x ∧ r = l.drop (j + 1) := by
  refine ⟨?_, ?_⟩
  · have := congrArg (·[0]?) e
    simpa using this.symm
  · rw [← List.drop_drop, ← e]; rfl
theorem ix_of {subs : List Sub} {j : Nat} {x : Value × Nat} (e : ((subs.map fun s : Sub => Value.ref s.I).zipIdx)[j]? = some x) : ∃ t, subs[j]? = some t ∧ x = (.ref t.I, j) := by
  rw [List.getElem?_zipIdx, List.getElem?_map] at e
  cases h : subs[j]? with
  | none => rw [h] at e; cases e
  | some t => rw [h] at e; simp at e; exact ⟨t, rfl, e.symm⟩
theorem drop_nil {α : Type} {l : List α} {j : Nat} (e : [] = l.drop j) : l.length ≤ j := List.drop_eq_nil_iff.mp e.symm
theorem st_in0 {h₁ : Heap} {xs : List Value} {h₀ : Heap} (ok : ZOk z TI TO subs) (to : ∃ vs : List Value, vs.length = subs.length ∧ TupAt h₀ TO vs) (hit : ∀ s ∈ subs, IterK s.k h₀ s.I s.a i) (hz₁ : ∃ fb, IsZh h₁ z TI TO .ellipsis fb) (hs₁ : Heap.SameBut z h₀ h₁) : ZIn h₀ h₁ z TI TO subs i xs 0 := by
  obtain ⟨vs0, hv0, hto⟩ := to
  refine ⟨hz₁, ⟨vs0, hv0, by simp, hs₁.extBut _ _ ok.zTO.symm hto⟩, fun m t hm => ?_, hs₁.1, fun c o c1 _ _ e => hs₁.extBut _ _ c1 e⟩
  rw [if_neg (Nat.not_lt_zero m)]
  exact (hit t (List.mem_of_getElem? hm)).at fun o e => hs₁.extBut _ _ (ok.Iz (List.mem_of_getElem? hm)) e
theorem zip_item0 {xs : List Value} {Q : Value → Shared → Prop} {f0 : Value} {fb : Bool} (ok : ZOk z TI TO subs) (hne : subs ≠ []) (h100 : subs.length ≤ 100) (hl : xs.length = subs.length) (hs : ∀ s' ∈ subs, SeqK s'.k s.heap s'.a (f s')) (hz : IsZh s.heap z TI TO f0 fb) (fr : f0 = .none ∨ ∃ T : Addr, f0 = rawInt T ∧ s.heap.get? T = none) (hti : TupAt s.heap TI (subs.map fun s => .ref s.I)) (hto : ∃ vs : List Value, vs.length = subs.length ∧ TupAt s.heap TO vs) (hit : ∀ s' ∈ subs, IterK s'.k s.heap s'.I s'.a i)
    (hx : ∀ (j : Nat) (t : Sub), subs[j]? = some t → ∃ x, (f t)[i]? = some x ∧ xs[j]? = some x)
    (hQ : ∀ h' tk, ZAt h' z TI TO subs (i + 1) (rawInt s.heap.objs.size) → TupAt h' s.heap.objs.size xs → h'.objs.size = s.heap.objs.size + 1 →
      (∀ c o, c ≠ z → c ≠ TO → c ∉ subs.map (·.I) → s.heap.get? c = some o → h'.get? c = some o) → Q (.ref s.heap.objs.size) { s with heap := h', toks := tk }) :
    wpAny (model prog w) A (Builtin.«zip.__next__» ⟨[.ref z], []⟩) (fun fin s' => ∃ v, fin = .done (.ret v) ∧ Q v s') E s := by
  show wpAny _ _ (field (.ref z) 2 >>= _) _ _ _
  refine wpAny_bind (wpAny_field hz rfl (x := .bool false) rfl ?_)
  show wpAny _ _ (field (.ref z) 3 >>= _) _ _ _
  refine wpAny_bind (wpAny_field hz rfl (x := .ref TI) rfl ?_)
  refine wpAny_bind (wpAny_seqItems hti rfl ?_)
  have hemp : ((subs.map fun s : Sub => (Value.ref s.I)).toArray.isEmpty) = false := by
    cases subs with
    | nil => exact absurd rfl hne
    | cons a b => simp
  simp only [hemp]
  try rw [if_neg Bool.false_ne_true]
  show wpAny _ _ (Builtin.SmallTypes.ownedTupleIsFree (.ref z) >>= _) _ _ _
  refine wpAny_bind (free_zip hz fr ?_)
  simp only [if_true]
  refine wpAny_bind (wpAny_rule ?_)
  refine wpAny_bind (wpAny_field hz rfl (x := .ref TO) rfl ?_)
  refine wpAny_bind (wpAny_setField_rec hz (by simp) fun h₁ hz₁ hs₁ => ?_)
  replace hz₁ : IsZh h₁ z TI TO .ellipsis fb := hz₁
  have st0 : ZIn s.heap h₁ z TI TO subs i xs 0 := st_in0 ok hto hit ⟨_, hz₁⟩ hs₁
  refine wpAny_bind (wpAny_mono (wpAny_forIn_list _ (fun rest b s' => ∃ j, rest = ((subs.map fun s : Sub => Value.ref s.I).zipIdx).drop j ∧ b = (none, ()) ∧ ZIn s.heap s'.heap z TI TO subs i xs j ∧ s' = { s with heap := s'.heap, toks := s'.toks })
    (fun b s' => b = (none, ()) ∧ (∃ j, subs.length ≤ j ∧ ZIn s.heap s'.heap z TI TO subs i xs j) ∧ s' = { s with heap := s'.heap, toks := s'.toks }) ?_ ?_ _ _ ⟨0, List.drop_zero.symm, rfl, st0, rfl⟩) ?_ fun _ _ q => q)
  · rintro x rest b s' ⟨j, er, rfl, st, es⟩
    obtain ⟨e1, e2⟩ := drop_hd er
    obtain ⟨t, ht, rfl⟩ := ix_of e1
    obtain ⟨x, hx1, hx2⟩ := hx j t ht
    refine wpAny_bind (wpAny_onRaise ?_)
    show wpAny _ _ (Builtin.SmallTypes.nextOf (.ref t.I) >>= _) _ _ _
    refine wpAny_bind (step_in ok hl hs st ht hx1 hx2 fun h2 tk vs hz2 hv1 hv2 hv3 back => wpAny_pure ?_)
    refine wpAny_bind (wpAny_seqItems hv3 rfl ?_)
    refine wpAny_bind (upd_tup (by omega) hv3 fun h3 hT3 sb3 => ?_)
    refine wpAny_bind (wpAny_letGo (wpAny_pure ?_))
    exact ⟨j + 1, e2, rfl, back h3 hT3 sb3, by rw [es]⟩
  · rintro b s' ⟨j, er, rfl, st, es⟩
    refine ⟨rfl, ⟨j, ?_, st⟩, es⟩
    have := drop_nil er
    simpa using this
  · rintro b s' ⟨rfl, ⟨j, hj, st⟩, es⟩
    rw [es]
    generalize s'.toks = tk₅
    generalize s'.heap = h₅ at st
    obtain ⟨⟨fb2, hz₅⟩, ⟨vs, hv1, hv2, hTO₅⟩, hit₅, hsz, hk₅⟩ := st
    have hvs : vs = xs := by
      rw [List.take_of_length_le (by omega), List.take_of_length_le (by omega)] at hv2
      exact hv2
    subst hvs
    refine wpAny_bind (wpAny_seqItems hTO₅ rfl ?_)
    refine wpAny_bind (wpAny_newTuple ?_)
    have hzlt : z < h₅.objs.size := Heap.lt_size hz₅
    show wpAny _ _ (Builtin.SmallTypes.ownedTupleHandOut (.ref z) (.ref h₅.objs.size) >>= _) _ _ _
    refine wpAny_bind ?_
    unfold Builtin.SmallTypes.ownedTupleHandOut
    have hz₆ : IsZh (h₅.push { cls := .type "tuple", data := .seq vs.toArray }) z TI TO .ellipsis fb2 := Heap.get?_push_of_some _ hz₅
    refine wpAny_bind (wpAny_setField_rec hz₆ (by simp) fun h₇ hz₇ hs₇ => ?_)
    replace hz₇ : IsZh h₇ z TI TO (rawInt h₅.objs.size) fb2 := hz₇
    refine wpAny_setField_rec hz₇ (by simp) fun h₈ hz₈ hs₈ => ?_
    replace hz₈ : IsZip h₈ z TI TO (rawInt h₅.objs.size) := hz₈
    have up : ∀ c o, c ≠ z → h₅.get? c = some o → h₈.get? c = some o := fun c o c1 e => hs₈.extBut _ _ c1 (hs₇.extBut _ _ c1 (Heap.get?_push_of_some _ e))
    have hT₈ : TupAt h₈ h₅.objs.size vs := hs₈.extBut _ _ (Nat.ne_of_gt hzlt) (hs₇.extBut _ _ (Nat.ne_of_gt hzlt) (Heap.get?_push_size _ rfl))
    have hz8 : h₈.objs.size = h₅.objs.size + 1 := by rw [hs₈.1, hs₇.1, Heap.size_push]
    rw [hsz] at hz₈ hT₈ hz8
    refine wpAny_pure ⟨_, rfl, ?_⟩
    show Q (.ref h₅.objs.size) _
    rw [hsz]
    refine hQ h₈ tk₅ ⟨hz₈, up _ _ ok.TIz (hk₅ _ _ ok.TIz ok.TITO ok.TII hti), ⟨vs, hl, up _ _ ok.zTO.symm hTO₅⟩, fun t ht => ?_⟩ hT₈ hz8 fun c o c1 c2 c3 e => up c o c1 (hk₅ c o c1 c2 c3 e)
    obtain ⟨m, hm⟩ := List.mem_iff_getElem?.mp ht
    have q := hit₅ m t hm
    rw [if_pos (Nat.lt_of_lt_of_le (List.getElem?_eq_some_iff.mp hm).1 hj)] at q
    exact q.at fun o e => up _ o (ok.Iz ht) e
theorem zip_item {xs : List Value} {Q : Value → Shared → Prop} (ok : ZOk z TI TO subs) (hne : subs ≠ []) (h100 : subs.length ≤ 100) (hl : xs.length = subs.length) (hs : ∀ s' ∈ subs, SeqK s'.k s.heap s'.a (f s')) (za : ZAt s.heap z TI TO subs i .none)
    (hx : ∀ (j : Nat) (t : Sub), subs[j]? = some t → ∃ x, (f t)[i]? = some x ∧ xs[j]? = some x)
    (hQ : ∀ h' tk, ZAt h' z TI TO subs (i + 1) (rawInt s.heap.objs.size) → TupAt h' s.heap.objs.size xs → h'.objs.size = s.heap.objs.size + 1 →
      (∀ c o, c ≠ z → c ≠ TO → c ∉ subs.map (·.I) → s.heap.get? c = some o → h'.get? c = some o) → Q (.ref s.heap.objs.size) { s with heap := h', toks := tk }) :
    wpAny (model prog w) A (Builtin.«zip.__next__» ⟨[.ref z], []⟩) (fun fin s' => ∃ v, fin = .done (.ret v) ∧ Q v s') E s :=
  zip_item0 (fb := false) ok hne h100 hl hs za.zp (.inl rfl) za.ti za.to za.it hx hQ
/-- the first m are there, the next one is at its end -/
theorem zip_end0 {xs : List Value} {m : Nat} {Q : Fin → Shared → Prop} {f0 : Value} {fb : Bool} (hh : A.handled = none) (ok : ZOk z TI TO subs) (hne : subs ≠ []) (h100 : subs.length ≤ 100) (hl : xs.length = subs.length) (hs : ∀ s' ∈ subs, SeqK s'.k s.heap s'.a (f s')) (hz : IsZh s.heap z TI TO f0 fb) (fr : f0 = .none ∨ ∃ T : Addr, f0 = rawInt T ∧ s.heap.get? T = none) (hti : TupAt s.heap TI (subs.map fun s => .ref s.I)) (hto : ∃ vs : List Value, vs.length = subs.length ∧ TupAt s.heap TO vs) (hit : ∀ s' ∈ subs, IterK s'.k s.heap s'.I s'.a i)
    (hx : ∀ (j : Nat) (t : Sub), j < m → subs[j]? = some t → ∃ x, (f t)[i]? = some x ∧ xs[j]? = some x) (hend : ∃ t, subs[m]? = some t ∧ (f t)[i]? = none)
    (hE : ∀ h' tk e, (∀ c o, c ≠ z → c ≠ TO → c ∉ subs.map (·.I) → s.heap.get? c = some o → h'.get? c = some o) → (∃ o, h'.get? e = some o ∧ o.cls = .type "StopIteration") → E (.ref e) { s with heap := h', toks := tk }) :
    wpAny (model prog w) A (Builtin.«zip.__next__» ⟨[.ref z], []⟩) Q E s := by
  show wpAny _ _ (field (.ref z) 2 >>= _) _ _ _
  refine wpAny_bind (wpAny_field hz rfl (x := .bool false) rfl ?_)
  show wpAny _ _ (field (.ref z) 3 >>= _) _ _ _
  refine wpAny_bind (wpAny_field hz rfl (x := .ref TI) rfl ?_)
  refine wpAny_bind (wpAny_seqItems hti rfl ?_)
  have hemp : ((subs.map fun s : Sub => (Value.ref s.I)).toArray.isEmpty) = false := by
    cases subs with
    | nil => exact absurd rfl hne
    | cons a b => simp
  simp only [hemp]
  try rw [if_neg Bool.false_ne_true]
  show wpAny _ _ (Builtin.SmallTypes.ownedTupleIsFree (.ref z) >>= _) _ _ _
  refine wpAny_bind (free_zip hz fr ?_)
  simp only [if_true]
  refine wpAny_bind (wpAny_rule ?_)
  refine wpAny_bind (wpAny_field hz rfl (x := .ref TO) rfl ?_)
  refine wpAny_bind (wpAny_setField_rec hz (by simp) fun h₁ hz₁ hs₁ => ?_)
  replace hz₁ : IsZh h₁ z TI TO .ellipsis fb := hz₁
  have st0 : ZIn s.heap h₁ z TI TO subs i xs 0 := st_in0 ok hto hit ⟨_, hz₁⟩ hs₁
  refine wpAny_bind (wpAny_mono (wpAny_forIn_list _ (fun rest b s' => ∃ j, j ≤ m ∧ rest = ((subs.map fun s : Sub => Value.ref s.I).zipIdx).drop j ∧ b = (none, ()) ∧ ZIn s.heap s'.heap z TI TO subs i xs j ∧ s' = { s with heap := s'.heap, toks := s'.toks })
    (fun b s' => False) ?_ ?_ _ _ ⟨0, Nat.zero_le _, List.drop_zero.symm, rfl, st0, rfl⟩) ?_ fun _ _ q => q)
  · rintro x rest b s' ⟨j, hjm, er, rfl, st, es⟩
    obtain ⟨e1, e2⟩ := drop_hd er
    obtain ⟨t, ht, rfl⟩ := ix_of e1
    refine wpAny_bind (wpAny_onRaise ?_)
    show wpAny _ _ (Builtin.SmallTypes.nextOf (.ref t.I) >>= _) _ _ _
    by_cases hj : j < m
    · obtain ⟨x, hx1, hx2⟩ := hx j t hj ht
      refine wpAny_bind (step_in ok hl hs st ht hx1 hx2 fun h2 tk vs hz2 hv1 hv2 hv3 back => wpAny_pure ?_)
      refine wpAny_bind (wpAny_seqItems hv3 rfl ?_)
      refine wpAny_bind (upd_tup (by omega) hv3 fun h3 hT3 sb3 => ?_)
      refine wpAny_bind (wpAny_letGo (wpAny_pure ?_))
      exact ⟨j + 1, hj, e2, rfl, back h3 hT3 sb3, by rw [es]⟩
    · obtain rfl : j = m := Nat.le_antisymm hjm (Nat.le_of_not_lt hj)
      obtain ⟨t2, ht2, hn⟩ := hend
      rw [ht] at ht2; cases ht2
      refine wpAny_bind (stop_in hh ok hs st ht hn fun h2 e hz2 hez he hk => ?_)
      obtain ⟨oe, hoe, hce⟩ := he
      obtain ⟨fb2, hz2⟩ := hz2
      refine wpAny_setField_rec hz2 (by simp) fun h₃ _ hs₃ => ?_
      have q := hE h₃ s'.toks e (fun c o c1 c2 c3 x => hs₃.extBut _ _ c1 (hk c o c1 c2 c3 x)) ⟨oe, hs₃.extBut _ _ hez hoe, hce⟩
      rw [es]
      exact q
  · rintro b s' ⟨j, hjm, er, rfl, st, es⟩
    have := drop_nil er
    obtain ⟨t2, ht2, hn⟩ := hend
    have := (List.getElem?_eq_some_iff.mp ht2).1
    simp at *
    omega
  · rintro b s' hf
    exact hf.elim
theorem zip_end {xs : List Value} {m : Nat} {Q : Fin → Shared → Prop} (hh : A.handled = none) (ok : ZOk z TI TO subs) (hne : subs ≠ []) (h100 : subs.length ≤ 100) (hl : xs.length = subs.length) (hs : ∀ s' ∈ subs, SeqK s'.k s.heap s'.a (f s')) (za : ZAt s.heap z TI TO subs i .none)
    (hx : ∀ (j : Nat) (t : Sub), j < m → subs[j]? = some t → ∃ x, (f t)[i]? = some x ∧ xs[j]? = some x) (hend : ∃ t, subs[m]? = some t ∧ (f t)[i]? = none)
    (hE : ∀ h' tk e, (∀ c o, c ≠ z → c ≠ TO → c ∉ subs.map (·.I) → s.heap.get? c = some o → h'.get? c = some o) → (∃ o, h'.get? e = some o ∧ o.cls = .type "StopIteration") → E (.ref e) { s with heap := h', toks := tk }) :
    wpAny (model prog w) A (Builtin.«zip.__next__» ⟨[.ref z], []⟩) Q E s :=
  zip_end0 (fb := false) hh ok hne h100 hl hs za.zp (.inl rfl) za.ti za.to za.it hx hend hE
theorem pyNext_item {xs : List Value} {Q : Option Value → Shared → Prop} (ok : ZOk z TI TO subs) (hne : subs ≠ []) (h100 : subs.length ≤ 100) (hl : xs.length = subs.length) (hs : ∀ s' ∈ subs, SeqK s'.k s.heap s'.a (f s')) (za : ZAt s.heap z TI TO subs i .none)
    (hx : ∀ (j : Nat) (t : Sub), subs[j]? = some t → ∃ x, (f t)[i]? = some x ∧ xs[j]? = some x)
    (hQ : ∀ h' tk, ZAt h' z TI TO subs (i + 1) (rawInt s.heap.objs.size) → TupAt h' s.heap.objs.size xs → h'.objs.size = s.heap.objs.size + 1 →
      (∀ c o, c ≠ z → c ≠ TO → c ∉ subs.map (·.I) → s.heap.get? c = some o → h'.get? c = some o) → Q (some (.ref s.heap.objs.size)) { s with heap := h', toks := tk }) :
    wpAny (model prog w) A (pyNext (.ref z)) Q E s := by
  have hT : s.TypeIs (.ref z) "zip" := ⟨_, za.zp, rfl⟩
  unfold pyNext
  refine wpAny_bind (wpAny_attempt (wpAny_callSpecial?_slot (name := Str.ofString "__next__") hT F.slot_zip_next ?_))
  refine wpAny_call_entry F.slot_zip_next hT F.entry_zip_next ?_ (F.args_zip_next_1 _)
  exact zip_item ok hne h100 hl hs za hx fun h' tk a1 a2 a3 a4 => wpAny_pure (hQ h' tk a1 a2 a3 a4)
theorem pyNext_end {xs : List Value} {m : Nat} {Q : Option Value → Shared → Prop} (hh : A.handled = none) (ok : ZOk z TI TO subs) (hne : subs ≠ []) (h100 : subs.length ≤ 100) (hl : xs.length = subs.length) (hs : ∀ s' ∈ subs, SeqK s'.k s.heap s'.a (f s')) (za : ZAt s.heap z TI TO subs i .none)
    (hx : ∀ (j : Nat) (t : Sub), j < m → subs[j]? = some t → ∃ x, (f t)[i]? = some x ∧ xs[j]? = some x) (hend : ∃ t, subs[m]? = some t ∧ (f t)[i]? = none)
    (hQ : ∀ h' tk, (∀ c o, c ≠ z → c ≠ TO → c ∉ subs.map (·.I) → s.heap.get? c = some o → h'.get? c = some o) → Q none { s with heap := h', toks := tk }) : wpAny (model prog w) A (pyNext (.ref z)) Q E s := by
  have hT : s.TypeIs (.ref z) "zip" := ⟨_, za.zp, rfl⟩
  unfold pyNext
  refine wpAny_bind (wpAny_attempt (wpAny_callSpecial?_slot (name := Str.ofString "__next__") hT F.slot_zip_next ?_))
  refine wpAny_call_entry F.slot_zip_next hT F.entry_zip_next ?_ (F.args_zip_next_1 _)
  refine zip_end hh ok hne h100 hl hs za hx hend fun h' tk e hk he => ?_
  obtain ⟨o, ho, hc⟩ := he
  refine wpAny_bind (wpAny_isInstance (T := "StopIteration") (b := true) ⟨o, ho, hc⟩ isSubtype_stop ?_)
  exact wpAny_pure (hQ _ _ hk)
end

/-! ### the walk -/
def SqK (K : PySem.W.Frag) (k : IK) (H : Hp) (a : Addr) (xs : List V) : Prop := match k with
  | .l => SqL K H a xs
  | .t => SqT K H a xs
  | .rl n => xs.length = n ∧ SqL K H a xs.reverse
  | .rt n => xs.length = n ∧ SqT K H a xs.reverse
def fitem (h : Heap) (a : Addr) : Array Value := match h.get? a with
  | some o => match o.data with
    | .seq items _ => items
    | _ => #[]
  | none => #[]
/-- the items in the walk's order -/
def fitK (k : IK) (h : Heap) (a : Addr) : Array Value := match k with
  | .rl _ => (fitem h a).reverse
  | .rt _ => (fitem h a).reverse
  | _ => fitem h a
theorem fit_l {h : Heap} {a : Addr} {its : Array Value} (x : h.IsList a its) : fitem h a = its := by
  obtain ⟨o, ho, _, n, hd⟩ := x; unfold fitem; rw [ho]; simp only [hd]
theorem fit_t {h : Heap} {a : Addr} {its : Array Value} (x : h.IsTuple a its) : fitem h a = its := by
  obtain ⟨o, ho, _, n, hd⟩ := x; unfold fitem; rw [ho]; simp only [hd]
theorem SeqK.fit {k : IK} {h : Heap} {a : Addr} {its : Array Value} (x : SeqK k h a its) : fitK k h a = its := by
  cases k with
  | l => exact fit_l x
  | t => exact fit_t x
  | rl n => show (fitem h a).reverse = its; rw [fit_l x.2, Array.reverse_reverse]
  | rt n => show (fitem h a).reverse = its; rw [fit_t x.2, Array.reverse_reverse]
theorem lt_l {h : Heap} {a : Addr} {its : Array Value} (x : h.IsList a its) : a < h.objs.size := let ⟨_, ho, _⟩ := x; Heap.lt_size ho
theorem lt_t {h : Heap} {a : Addr} {its : Array Value} (x : h.IsTuple a its) : a < h.objs.size := let ⟨_, ho, _⟩ := x; Heap.lt_size ho
theorem SeqK.lt {k : IK} {h : Heap} {a : Addr} {its : Array Value} (x : SeqK k h a its) : a < h.objs.size := by
  cases k with
  | l => exact lt_l x
  | t => exact lt_t x
  | rl n => exact lt_l x.2
  | rt n => exact lt_t x.2
theorem vals_back : ∀ {xs : List V} {us : List Value}, Vals xs us → Vals xs.reverse us.reverse := by
  have go : ∀ {xs : List V} {us : List Value}, Vals xs us → ∀ {ys : List V} {vs : List Value}, Vals ys vs → Vals (xs.reverse ++ ys) (us.reverse ++ vs) := by
    intro xs us r
    induction r with
    | nil => intro ys vs t; exact t
    | @cons x u xs us a _ ih =>
      intro ys vs t
      rw [List.reverse_cons, List.reverse_cons, List.append_assoc, List.append_assoc]
      exact ih (.cons a t)
  intro xs us r
  have := go r (show Vals ([] : List V) [] from .nil)
  rwa [List.append_nil, List.append_nil] at this
section
variable {X : Cx} {pins : List (Addr × Obj)} {σ : L2.St} {H : Hp} {s : Shared}
theorem seq_at {k : IK} {a : Addr} {xs : List V} (I : Inv X pins σ H s) (h : SqK X.K k H a xs) : ∃ its : List Value, Vals xs its ∧ SeqK k s.heap a its.toArray := by
  cases k with
  | l =>
    obtain ⟨its, rv, p, _⟩ := I.list h
    exact ⟨its, rv, p.isList⟩
  | t =>
    obtain ⟨its, rv, p, _⟩ := I.tuple h
    exact ⟨its, rv, p⟩
  | rl n =>
    obtain ⟨its, rv, p, _⟩ := I.list h.2
    have rv2 := vals_back rv
    rw [List.reverse_reverse] at rv2
    refine ⟨its.reverse, rv2, ?_, ?_⟩
    · have := rv2.length; have := h.1; simp at *; omega
    · have : its.reverse.toArray.reverse = its.toArray := by simp
      rw [this]; exact p.isList
  | rt n =>
    obtain ⟨its, rv, p, z⟩ := I.tuple h.2
    have rv2 := vals_back rv
    rw [List.reverse_reverse] at rv2
    refine ⟨its.reverse, rv2, ⟨?_, ?_⟩, ?_⟩
    · have := rv2.length; have := h.1; simp at *; omega
    · have := h.1; rw [List.length_reverse] at z; omega
    · have : its.reverse.toArray.reverse = its.toArray := by simp
      rw [this]; exact p
theorem seq_fit {k : IK} {a : Addr} {xs : List V} (I : Inv X pins σ H s) (h : SqK X.K k H a xs) : ∃ its : List Value, Vals xs its ∧ fitK k s.heap a = its.toArray ∧ SeqK k s.heap a (fitK k s.heap a) := by
  obtain ⟨its, rv, p⟩ := seq_at I h
  exact ⟨its, rv, p.fit, by rw [p.fit]; exact p⟩
theorem seq_line {k : IK} {a : Addr} {xs : List V} (I : Inv X pins σ H s) (h : SqK X.K k H a xs) : xs.length ≤ sizeLine := by
  cases k with
  | l => obtain ⟨_, _, _, z⟩ := I.list h; exact z
  | t => obtain ⟨_, _, _, z⟩ := I.tuple h; exact z
  | rl n => obtain ⟨_, _, _, z⟩ := I.list h.2; rwa [List.length_reverse] at z
  | rt n => obtain ⟨_, _, _, z⟩ := I.tuple h.2; rwa [List.length_reverse] at z
theorem seq_inj {k : IK} {a : Addr} {xs ys : List V} (I : Inv X pins σ H s) (h : SqK X.K k H a xs) (g : SqK X.K k H a ys) : xs = ys := by
  cases k with
  | l => exact I.list_inj h g
  | t => exact I.tuple_inj h g
  | rl n => exact List.reverse_inj.mp (I.list_inj h.2 g.2)
  | rt n => exact List.reverse_inj.mp (I.tuple_inj h.2 g.2)
end
/-- the sequences as they stand at each turn, the items in new tuples -/
def ItN (K : PySem.W.Frag) (ks : List (IK × Addr)) : It :=
  ⟨fun i H => ∀ k a, (k, a) ∈ ks → ∃ xs x, SqK K k H a xs ∧ xs[i]? = some x,
    fun i H v H' => ∃ T row, v = .ref T ∧ H T = none ∧ H' = upd H T (.tup row) ∧ row.length = ks.length ∧ ∀ (j : Nat) (k : IK) (a : Addr), ks[j]? = some (k, a) → ∀ xs, SqK K k H a xs → xs[i]? = row[j]?,
    fun i H => (∀ k a, (k, a) ∈ ks → ∃ xs, SqK K k H a xs) ∧ ∃ k a xs, (k, a) ∈ ks ∧ SqK K k H a xs ∧ xs.length ≤ i⟩
theorem row_of {X : Cx} {pins : List (Addr × Obj)} {σ : L2.St} {H : Hp} {s : Shared} {i : Nat} (I : Inv X pins σ H s) : ∀ (ks : List (IK × Addr)), (∀ k a, (k, a) ∈ ks → ∃ xs x, SqK X.K k H a xs ∧ xs[i]? = some x) →
    ∃ (row : List V) (us : List Value), row.length = ks.length ∧ us.length = ks.length ∧ Vals row us ∧ ∀ (j : Nat) (k : IK) (a : Addr), ks[j]? = some (k, a) → (∀ xs, SqK X.K k H a xs → xs[i]? = row[j]?) ∧ ∃ u, (fitK k s.heap a)[i]? = some u ∧ us[j]? = some u
  | [], _ => ⟨[], [], rfl, rfl, .nil, fun j k a e => by simp at e⟩
  | (k, a) :: ks, h => by
    obtain ⟨row, us, l1, l2, v, g⟩ := row_of I ks fun k a m => h k a (List.mem_cons_of_mem _ m)
    obtain ⟨xs, x, q, hx⟩ := h k a List.mem_cons_self
    obtain ⟨its, rv, e, _⟩ := seq_fit I q
    obtain ⟨u, hu, ru⟩ := rv.get hx
    refine ⟨x :: row, u :: us, by rw [List.length_cons, List.length_cons, l1], by rw [List.length_cons, List.length_cons, l2], .cons ru v, fun j k' a' ej => ?_⟩
    cases j with
    | zero =>
      simp at ej
      obtain ⟨rfl, rfl⟩ := ej
      exact ⟨fun ys hy => by rw [seq_inj I hy q]; simpa using hx, u, by rw [e]; simpa using hu, rfl⟩
    | succ j =>
      obtain ⟨g1, u, g2, g3⟩ := g j k' a' (by simpa using ej)
      exact ⟨fun ys hy => by simpa using g1 ys hy, u, g2, by simpa using g3⟩
theorem least {p : Nat → Prop} : ∀ m : Nat, p m → ∃ n, p n ∧ ∀ j, j < n → ¬ p j := by
  intro m
  induction m using Nat.strongRecOn with
  | _ m ih =>
    intro h
    by_cases hx : ∃ j, j < m ∧ p j
    · obtain ⟨j, h1, h2⟩ := hx
      exact ih j h1 h2
    · exact ⟨m, h, fun j hj hp => hx ⟨j, hj, hp⟩⟩
abbrev fpZ (z TI TO : Addr) (subs : List Sub) : List Addr := z :: TI :: TO :: subs.map (·.I)
theorem turn_zipN {P : Program} {w : World} {K : PySem.W.Frag} {elts : List Expr} {kk : Nat} {tpos : Pos} {z TI TO : Addr} {subs : List Sub} (ok : ZOk z TI TO subs) (hne : subs ≠ []) (h100 : subs.length ≤ 100) :
    Turn P w K (.Tuple elts kk tpos) (ItN K (subs.map fun s => (s.k, s.a))) (fpZ z TI TO subs) z (fun i h => ZAt h z TI TO subs i .none) where
  mem := by simp
  obj := fun i h st c hc => by
    obtain ⟨hz, hTI, ⟨vs, _, hTO⟩, it⟩ := st
    rcases List.mem_cons.mp hc with q | hc
    · rw [q]; exact ⟨_, hz, fun v q => nomatch q⟩
    rcases List.mem_cons.mp hc with q | hc
    · rw [q]; exact ⟨_, hTI, fun v q => nomatch q⟩
    rcases List.mem_cons.mp hc with q | hc
    · rw [q]; exact ⟨_, hTO, fun v q => nomatch q⟩
    · obtain ⟨t, ht, rfl⟩ := List.mem_map.mp hc
      exact (it t ht).obj
  keep := fun i h h' st k => st.keep fun b hb o e => k b (by
    rcases hb with q | q | q | q
    · rw [q]; simp
    · rw [q]; simp
    · rw [q]; simp
    · exact List.mem_cons_of_mem _ (List.mem_cons_of_mem _ (List.mem_cons_of_mem _ q))) o e
  item := by
    intro X hP hw hK hc i pins s σ H E I hf st hg
    subst hP hw hK
    obtain ⟨row, us, l1, l2, rv, g⟩ := row_of I _ hg
    rw [List.length_map] at l1 l2
    have hzl : z < s.heap.objs.size := Heap.lt_size st.zp
    have gs : ∀ (j : Nat) (t : Sub), subs[j]? = some t → (∀ xs, SqK X.K t.k H t.a xs → xs[i]? = row[j]?) ∧ ∃ u, (fitK t.k s.heap t.a)[i]? = some u ∧ us[j]? = some u := fun j t ht => g j t.k t.a (by rw [List.getElem?_map, ht]; rfl)
    refine pyNext_item (f := fun t => fitK t.k s.heap t.a) ok hne h100 l2 (fun t ht => ?_) st (fun j t ht => (gs j t ht).2) fun h' tk za hT hsz hk => ?_
    · obtain ⟨xs, x, q, _⟩ := hg t.k t.a (List.mem_map_of_mem (f := fun s : Sub => (s.k, s.a)) ht)
      obtain ⟨_, _, _, p⟩ := seq_fit I q
      exact p
    refine ⟨_, rfl, wpAny_letOwnedTupleGo_zip (s := { s with heap := h', toks := tk }) za.zp fun h'' z'' sb => ?_⟩
    have hT2 : h''.get? s.heap.objs.size = some { cls := .type "tuple", data := .seq us.toArray } := (sb.2 _ (Nat.ne_of_gt hzl)).trans hT
    have h100' : row.length ≤ sizeLine := by
      have : (100 : Nat) ≤ sizeLine := by rw [sizeLine_eq]; decide
      omega
    have new : ObjOk X.prog X.w (upd H s.heap.objs.size (.tup row)) h'' s.heap.objs.size (.tup row) := ⟨h100', us, rv, ⟨_, hT2, rfl, _, rfl⟩⟩
    have I1 : Inv X pins σ (upd H s.heap.objs.size (.tup row)) { s with heap := h'', toks := tk } :=
      I.turnedNew (t' := tk) (ch := fpZ z TI TO subs) (fun c o hb q => by
        simp only [List.mem_cons, not_or] at hb
        exact (sb.2 c hb.1).trans (hk c o hb.1 hb.2.2.1 hb.2.2.2 q)) hf (Nat.le_refl _) new
    refine ⟨.ref s.heap.objs.size, _, I1, rfl, ⟨_, row, rfl, I.hok.fresh (Nat.le_refl _), rfl, by rw [List.length_map]; exact l1, fun j k a ej xs hx => (g j k a ej).1 xs hx⟩, ⟨z'', (sb.2 _ ok.TIz).trans za.ti, ?_, fun t ht => (za.it t ht).at fun o e => (sb.2 _ (ok.Iz ht)).trans e⟩, fun c hcm => ?_⟩
    · obtain ⟨vs, v1, v2⟩ := za.to
      exact ⟨vs, v1, (sb.2 _ ok.zTO.symm).trans v2⟩
    · have hlt : c < s.heap.objs.size := by
        obtain ⟨hz, hTI, ⟨vs, _, hTO⟩, it⟩ := st
        rcases List.mem_cons.mp hcm with q | hcm
        · rw [q]; exact hzl
        rcases List.mem_cons.mp hcm with q | hcm
        · rw [q]; exact Heap.lt_size hTI
        rcases List.mem_cons.mp hcm with q | hcm
        · rw [q]; exact Heap.lt_size hTO
        · obtain ⟨t, ht, rfl⟩ := List.mem_map.mp hcm
          exact (it t ht).lt
      rw [upd_ne (Nat.ne_of_lt hlt)]
      exact (hf c hcm).1
  done := by
    intro X hP hw hK hc i pins s σ H E I hf st hg
    subst hP hw hK
    obtain ⟨g1, k, a, xs, hm, hq, hl⟩ := hg
    obtain ⟨t, ht, et⟩ := List.mem_map.mp hm
    obtain ⟨jj, hjj⟩ := List.mem_iff_getElem?.mp ht
    have sf : ∀ t ∈ subs, ∃ xs, SqK X.K t.k H t.a xs := fun t ht => g1 t.k t.a (List.mem_map_of_mem (f := fun s : Sub => (s.k, s.a)) ht)
    obtain ⟨m, hm1, hm2⟩ := least (p := fun m => ∃ t, subs[m]? = some t ∧ (fitK t.k s.heap t.a)[i]? = none) jj (by
      cases et
      obtain ⟨its, rv, e, _⟩ := seq_fit I hq
      have := rv.length
      exact ⟨t, hjj, by rw [e]; simp; omega⟩)
    refine pyNext_end (f := fun t => fitK t.k s.heap t.a) (xs := subs.map fun t => ((fitK t.k s.heap t.a)[i]?).getD .none) (m := m) (I.ok.hd hc) ok hne h100 (by rw [List.length_map]) (fun t ht => ?_) st (fun j t hj ht => ?_) hm1 fun h' tk hk => ⟨rfl, I.turnedL (t' := tk) (ch := fpZ z TI TO subs) (fun c o hb q => by
        simp only [List.mem_cons, not_or] at hb
        exact hk c o hb.1 hb.2.2.1 hb.2.2.2 q) hf⟩
    · obtain ⟨xs, q⟩ := sf t ht
      obtain ⟨_, _, _, p⟩ := seq_fit I q
      exact p
    · cases hx : (fitK t.k s.heap t.a)[i]? with
      | none => exact absurd ⟨t, ht, hx⟩ (hm2 j hj)
      | some x => exact ⟨x, rfl, by rw [List.getElem?_map, ht]; simp [hx]⟩
  self := fun A i s Q E st h => wpAny_pyIter_zip st.zp h

/-! ### zip begins -/
theorem beg_k (k : IK) (hk : fwK k = true) (a : Addr) (its : Array Value) : Begins (.ref a) (itObj k a) fun h => SeqK k h a its := by
  cases k with
  | l => exact begins_list a its
  | t => exact begins_tuple a its
  | rl n => cases hk
  | rt n => cases hk
def iZipN (K : PySem.W.Frag) (n : Nat) (ta : TA) : TI := fun σ H R => ta σ H fun vs H1 => ∃ ks : List (IK × Addr), ks.length = n ∧ vs = ks.map (fun p => .ref p.2) ∧ (∀ k a, (k, a) ∈ ks → fwK k = true ∧ ∃ xs, SqK K k H1 a xs) ∧ ((∀ k a, (k, a) ∈ ks → ∀ xs, SqK K k H1 a xs → xs.length ≤ sizeLine) → R (ItN K ks) H1)
theorem fresh_n {X : Cx} {pins : List (Addr × Obj)} {σ : L2.St} {H : Hp} {s : Shared} (I : Inv X pins σ H s) {fp : List Addr} (h : ∀ b ∈ fp, ∃ j : Nat, b = s.heap.objs.size + j) : ∀ b ∈ fp, FpOk X pins H b := fun b hb => by
  obtain ⟨j, rfl⟩ := h b hb
  have hle : s.heap.objs.size ≤ s.heap.objs.size + j := Nat.le_add_right _ _
  exact I.fpOk hle (I.hok.fresh hle)
theorem ref_v {a : Addr} {u : Value} (r : RelV (.ref a) u) : u = .ref a := by cases r; rfl
theorem pi_zip2 {X : Cx} {e e2 : Expr} {ta : TA} {p pos tpos : Pos} {elts : List Expr} {kk : Nat} (hg : Gl X "zip") (hm : X.mg "zip" = none) (ha : PA X [e, e2] ta)
    (hs : starEach [e, e2] X.env = (false, eval e X.env) :: starEach [e2] X.env) (hpl : (backTo pos (starEach [e2] X.env)).any (·.1) = false) :
    PI X (.Tuple elts kk tpos) (.Call (.Name "zip" p) [e, e2] [] pos) (iZipN X.K 2 ta) := by
  refine ⟨fun pins s σ H R I h => ?_⟩
  refine Call_ (ld_blt I hg hm PyProof.Rows.boot_zip (PyProof.Rows.callWith_type1 (thn (ha.run pos pins s σ H _ I h) fun us s1 ⟨vs, H1, I1, r1, q1⟩ => ?_) hs hpl))
  obtain ⟨ks, hn, ex, hsq, q⟩ := q1
  subst ex
  obtain ⟨⟨k1, a1⟩, ⟨k2, a2⟩, rfl⟩ : ∃ x y, ks = [x, y] := by
    match ks, hn with
    | [x, y], _ => exact ⟨x, y, rfl⟩
  cases r1 with
  | cons r rr =>
    cases rr with
    | cons r' rr =>
      cases rr
      obtain rfl := ref_v r
      obtain rfl := ref_v r'
      obtain ⟨f1, x1, q1⟩ := hsq k1 a1 (by simp)
      obtain ⟨f2, x2, q2⟩ := hsq k2 a2 (by simp)
      obtain ⟨i1, _, p1⟩ := seq_at I1 q1
      obtain ⟨i2, _, p2⟩ := seq_at I1 q2
      refine zip_begins2 (beg_k k1 f1 a1 i1.toArray) (beg_k k2 f2 a2 i2.toArray) p1 p2 fun h' hz hTI hTO h1 h2 hsz hk => wpAny_pyIter_zip hz ?_
      have I2 : Inv X pins σ H1 { s1 with heap := h' } := I1.kept (t' := s1.toks) hk
      have ok : ZOk (s1.heap.objs.size + 4) (s1.heap.objs.size + 2) (s1.heap.objs.size + 3) [⟨k1, s1.heap.objs.size, a1⟩, ⟨k2, s1.heap.objs.size + 1, a2⟩] := by
        have l1 := p1.lt
        have l2 := p2.lt
        refine ⟨Nat.lt_succ_self _, Nat.lt_succ_self _, fun t ht => ?_, ?_, fun t ht u hu => ?_⟩
        · simp only [List.mem_cons, List.not_mem_nil, or_false] at ht
          rcases ht with rfl | rfl
          · exact ⟨Nat.lt_add_of_pos_right (by decide), Nat.lt_add_right _ l1⟩
          · exact ⟨Nat.lt_succ_self _, Nat.lt_add_right _ l2⟩
        · simp
        · simp only [List.mem_cons, List.not_mem_nil, or_false] at ht hu
          have g1 : t.a < s1.heap.objs.size := by rcases ht with rfl | rfl; exact l1; exact l2
          have g2 : s1.heap.objs.size ≤ u.I := by rcases hu with rfl | rfl; exact Nat.le_refl _; exact Nat.le_add_right _ _
          exact Nat.ne_of_lt (Nat.lt_of_lt_of_le g1 g2)
      refine ⟨s1.heap.objs.size + 4, _, _, _, H1, rfl, I2, turn_zipN ok (by simp) (by simp), ⟨hz, hTI, ⟨[.none, .none], rfl, hTO⟩, fun t ht => ?_⟩, fresh_n (s := s1) I1 fun b hb => ?_, q fun k a _ xs hx => seq_line I1 hx⟩
      · simp only [List.mem_cons, List.not_mem_nil, or_false] at ht
        rcases ht with rfl | rfl
        · exact IterK.new h1
        · exact IterK.new h2
      · simp only [fpZ, List.map_cons, List.map_nil, List.mem_cons, List.not_mem_nil, or_false] at hb
        rcases hb with rfl | rfl | rfl | rfl | rfl
        · exact ⟨4, rfl⟩
        · exact ⟨2, rfl⟩
        · exact ⟨3, rfl⟩
        · exact ⟨0, rfl⟩
        · exact ⟨1, rfl⟩
theorem pi_zip3 {X : Cx} {e e2 e3 : Expr} {ta : TA} {p pos tpos : Pos} {elts : List Expr} {kk : Nat} (hg : Gl X "zip") (hm : X.mg "zip" = none) (ha : PA X [e, e2, e3] ta)
    (hs : starEach [e, e2, e3] X.env = (false, eval e X.env) :: starEach [e2, e3] X.env) (hpl : (backTo pos (starEach [e2, e3] X.env)).any (·.1) = false) :
    PI X (.Tuple elts kk tpos) (.Call (.Name "zip" p) [e, e2, e3] [] pos) (iZipN X.K 3 ta) := by
  refine ⟨fun pins s σ H R I h => ?_⟩
  refine Call_ (ld_blt I hg hm PyProof.Rows.boot_zip (PyProof.Rows.callWith_type1 (thn (ha.run pos pins s σ H _ I h) fun us s1 ⟨vs, H1, I1, r1, q1⟩ => ?_) hs hpl))
  obtain ⟨ks, hn, ex, hsq, q⟩ := q1
  subst ex
  obtain ⟨⟨k1, a1⟩, ⟨k2, a2⟩, ⟨k3, a3⟩, rfl⟩ : ∃ x y z, ks = [x, y, z] := by
    match ks, hn with
    | [x, y, z], _ => exact ⟨x, y, z, rfl⟩
  cases r1 with
  | cons r rr =>
    cases rr with
    | cons r' rr =>
      cases rr with
      | cons r'' rr =>
      cases rr
      obtain rfl := ref_v r
      obtain rfl := ref_v r'
      obtain rfl := ref_v r''
      obtain ⟨f1, x1, q1⟩ := hsq k1 a1 (by simp)
      obtain ⟨f2, x2, q2⟩ := hsq k2 a2 (by simp)
      obtain ⟨f3, x3, q3⟩ := hsq k3 a3 (by simp)
      obtain ⟨i1, _, p1⟩ := seq_at I1 q1
      obtain ⟨i2, _, p2⟩ := seq_at I1 q2
      obtain ⟨i3, _, p3⟩ := seq_at I1 q3
      refine zip_begins3 (beg_k k1 f1 a1 i1.toArray) (beg_k k2 f2 a2 i2.toArray) (beg_k k3 f3 a3 i3.toArray) p1 p2 p3 fun h' hz hTI hTO h1 h2 h3 hsz hk => wpAny_pyIter_zip hz ?_
      have I2 : Inv X pins σ H1 { s1 with heap := h' } := I1.kept (t' := s1.toks) hk
      have ok : ZOk (s1.heap.objs.size + 5) (s1.heap.objs.size + 3) (s1.heap.objs.size + 4) [⟨k1, s1.heap.objs.size, a1⟩, ⟨k2, s1.heap.objs.size + 1, a2⟩, ⟨k3, s1.heap.objs.size + 2, a3⟩] := by
        have l1 := p1.lt
        have l2 := p2.lt
        have l3 := p3.lt
        refine ⟨Nat.lt_succ_self _, Nat.lt_succ_self _, fun t ht => ?_, ?_, fun t ht u hu => ?_⟩
        · simp only [List.mem_cons, List.not_mem_nil, or_false] at ht
          rcases ht with rfl | rfl | rfl
          · exact ⟨Nat.lt_add_of_pos_right (by decide), Nat.lt_add_right _ l1⟩
          · exact ⟨Nat.add_lt_add_left (by decide) _, Nat.lt_add_right _ l2⟩
          · exact ⟨Nat.add_lt_add_left (by decide) _, Nat.lt_add_right _ l3⟩
        · simp
        · simp only [List.mem_cons, List.not_mem_nil, or_false] at ht hu
          have g1 : t.a < s1.heap.objs.size := by rcases ht with rfl | rfl | rfl; exact l1; exact l2; exact l3
          have g2 : s1.heap.objs.size ≤ u.I := by rcases hu with rfl | rfl | rfl; exact Nat.le_refl _; exact Nat.le_add_right _ _; exact Nat.le_add_right _ _
          exact Nat.ne_of_lt (Nat.lt_of_lt_of_le g1 g2)
      refine ⟨s1.heap.objs.size + 5, _, _, _, H1, rfl, I2, turn_zipN ok (by simp) (by simp), ⟨hz, hTI, ⟨[.none, .none, .none], rfl, hTO⟩, fun t ht => ?_⟩, fresh_n (s := s1) I1 fun b hb => ?_, q fun k a _ xs hx => seq_line I1 hx⟩
      · simp only [List.mem_cons, List.not_mem_nil, or_false] at ht
        rcases ht with rfl | rfl | rfl
        · exact IterK.new h1
        · exact IterK.new h2
        · exact IterK.new h3
      · simp only [fpZ, List.map_cons, List.map_nil, List.mem_cons, List.not_mem_nil, or_false] at hb
        rcases hb with rfl | rfl | rfl | rfl | rfl | rfl
        · exact ⟨5, rfl⟩
        · exact ⟨3, rfl⟩
        · exact ⟨4, rfl⟩
        · exact ⟨0, rfl⟩
        · exact ⟨1, rfl⟩
        · exact ⟨2, rfl⟩

/-! ### zip of four -/
abbrev z4P (h : Heap) (a b c d : Obj) : Heap := (((h.push a).push b).push c).push d
abbrev z4T (h : Heap) (a b c d : Obj) : Heap := (z4P h a b c d).push { cls := .type "tuple", data := .seq #[.ref h.objs.size, .ref (h.push a).objs.size, .ref ((h.push a).push b).objs.size, .ref (((h.push a).push b).push c).objs.size] }
abbrev z4O (h : Heap) (a b c d : Obj) : Heap := (z4T h a b c d).push { cls := .type "tuple", data := .seq #[.none, .none, .none, .none] }
abbrev z4Z (h : Heap) (a b c d : Obj) : Heap := (z4O h a b c d).push { cls := .type "zip", data := .fields #[.none, .bool false, .bool false, .ref (z4P h a b c d).objs.size, .ref (z4T h a b c d).objs.size] }
theorem typeCall_zip_4 (a b c d : Value) : checkTypeCall "zip" ⟨[a, b, c, d], []⟩ = pure () := by kernel_rfl
theorem newCall_zip_4 (a b c d : Value) : checkBuiltinCall "zip.__new__" ⟨[.type "zip", a, b, c, d], []⟩ = pure () := by kernel_rfl
theorem args_init_5 (o a b c d : Value) : argsOk "object.__init__" ⟨[o, a, b, c, d], []⟩ := by unfold argsOk; kernel_rfl
theorem meets_zip_4 {v1 v2 v3 v4 : Value} {a b c d : Obj} {H1 H2 H3 H4 : Heap → Prop} (B1 : Begins v1 a H1) (B2 : Begins v2 b H2) (B3 : Begins v3 c H3) (B4 : Begins v4 d H4) :
    Meets (Builtin.«zip.__new__» ⟨[.type "zip", v1, v2, v3, v4], []⟩) (fun _ R s => (H1 s.heap ∧ H2 s.heap ∧ H3 s.heap ∧ H4 s.heap) ∧ R (.ok (.ret (.ref (z4O s.heap a b c d).objs.size))) { s with heap := z4Z s.heap a b c d }) :=
  .of_wp fun prog w A R s h => by
    obtain ⟨hp, g, dr, tk, os⟩ := s
    obtain ⟨⟨h1, h2, h3, h4⟩, h⟩ := h
    have hsub := sub_zip
    have up : ∀ (h : Heap) (x : Obj) (b : Addr) (o : Obj), h.get? b = some o → (h.push x).get? b = some o := fun h x b o e => Heap.get?_push_of_some _ e
    have it1 : ∀ {A' : Around} {E : Value → Shared → Prop} {Q : Value → Shared → Prop}, Q (.ref hp.objs.size) ⟨hp.push a, g, dr, tk, os⟩ → wpAny (model prog w) A' (pyIter v1) Q E ⟨hp, g, dr, tk, os⟩ :=
      fun q => B1.iter prog w _ _ ⟨hp, g, dr, tk, os⟩ _ h1 q
    have it2 : ∀ {A' : Around} {E : Value → Shared → Prop} {Q : Value → Shared → Prop}, Q (.ref (hp.push a).objs.size) ⟨(hp.push a).push b, g, dr, tk, os⟩ → wpAny (model prog w) A' (pyIter v2) Q E ⟨hp.push a, g, dr, tk, os⟩ :=
      fun q => B2.iter prog w _ _ ⟨hp.push a, g, dr, tk, os⟩ _ (B2.keeps _ _ h2 fun b o e => up _ _ _ _ e) q
    have it3 : ∀ {A' : Around} {E : Value → Shared → Prop} {Q : Value → Shared → Prop}, Q (.ref ((hp.push a).push b).objs.size) ⟨((hp.push a).push b).push c, g, dr, tk, os⟩ → wpAny (model prog w) A' (pyIter v3) Q E ⟨(hp.push a).push b, g, dr, tk, os⟩ :=
      fun q => B3.iter prog w _ _ ⟨(hp.push a).push b, g, dr, tk, os⟩ _ (B3.keeps _ _ h3 fun b o e => up _ _ _ _ (up _ _ _ _ e)) q
    have it4 : ∀ {A' : Around} {E : Value → Shared → Prop} {Q : Value → Shared → Prop}, Q (.ref (((hp.push a).push b).push c).objs.size) ⟨z4P hp a b c d, g, dr, tk, os⟩ → wpAny (model prog w) A' (pyIter v4) Q E ⟨((hp.push a).push b).push c, g, dr, tk, os⟩ :=
      fun q => B4.iter prog w _ _ ⟨((hp.push a).push b).push c, g, dr, tk, os⟩ _ (B4.keeps _ _ h4 fun b o e => up _ _ _ _ (up _ _ _ _ (up _ _ _ _ e))) q
    wp_walk using it1, it2, it3, it4
    exact ⟨_, rfl, h⟩
theorem zip_beg4 {prog : Program} {w : World} {A : Around} {E : Value → Shared → Prop} {s : Shared} {v1 v2 v3 v4 : Value} {a b c d : Obj} {H1 H2 H3 H4 : Heap → Prop} {Q : Value → Shared → Prop} (B1 : Begins v1 a H1) (B2 : Begins v2 b H2) (B3 : Begins v3 c H3) (B4 : Begins v4 d H4) (h1 : H1 s.heap) (h2 : H2 s.heap) (h3 : H3 s.heap) (h4 : H4 s.heap)
    (h : ∀ h', IsZip h' (s.heap.objs.size + 6) (s.heap.objs.size + 4) (s.heap.objs.size + 5) .none → TupAt h' (s.heap.objs.size + 4) [.ref s.heap.objs.size, .ref (s.heap.objs.size + 1), .ref (s.heap.objs.size + 2), .ref (s.heap.objs.size + 3)] → TupAt h' (s.heap.objs.size + 5) [.none, .none, .none, .none] →
      h'.get? s.heap.objs.size = some a → h'.get? (s.heap.objs.size + 1) = some b → h'.get? (s.heap.objs.size + 2) = some c → h'.get? (s.heap.objs.size + 3) = some d → (∀ c o, s.heap.get? c = some o → h'.get? c = some o) → Q (.ref (s.heap.objs.size + 6)) { s with heap := h' }) :
    wpAny (model prog w) A (call (.type "zip") [v1, v2, v3, v4]) Q E s := by
  refine callType_new F.called_zip (by decide) (typeCall_zip_4 _ _ _ _) (newCall_zip_4 _ _ _ _) (fun obj => args_init_5 obj _ _ _ _) F.entry_zip_new (meets_zip_4 B1 B2 B3 B4) ⟨⟨h1, h2, h3, h4⟩, ?_⟩
  have up : ∀ (h : Heap) (x : Obj) (b : Addr) (o : Obj), h.get? b = some o → (h.push x).get? b = some o := fun h x b o e => Heap.get?_push_of_some _ e
  have n1 : (s.heap.push a).objs.size = s.heap.objs.size + 1 := by rw [Heap.size_push]
  have n2 : ((s.heap.push a).push b).objs.size = s.heap.objs.size + 2 := by rw [Heap.size_push, n1]
  have n3 : (((s.heap.push a).push b).push c).objs.size = s.heap.objs.size + 3 := by rw [Heap.size_push, n2]
  have n4 : (z4P s.heap a b c d).objs.size = s.heap.objs.size + 4 := by rw [Heap.size_push, n3]
  have nT : (z4T s.heap a b c d).objs.size = s.heap.objs.size + 5 := by rw [Heap.size_push, n4]
  have nO : (z4O s.heap a b c d).objs.size = s.heap.objs.size + 6 := by rw [Heap.size_push, nT]
  have atZ : (z4Z s.heap a b c d).get? (z4O s.heap a b c d).objs.size = some { cls := .type "zip", data := .fields #[.none, .bool false, .bool false, .ref (z4P s.heap a b c d).objs.size, .ref (z4T s.heap a b c d).objs.size] } := Heap.get?_push_size _ rfl
  have atO : (z4Z s.heap a b c d).get? (z4T s.heap a b c d).objs.size = some { cls := .type "tuple", data := .seq #[.none, .none, .none, .none] } := up _ _ _ _ (Heap.get?_push_size _ rfl)
  have atT : (z4Z s.heap a b c d).get? (z4P s.heap a b c d).objs.size = some { cls := .type "tuple", data := .seq #[.ref s.heap.objs.size, .ref (s.heap.push a).objs.size, .ref ((s.heap.push a).push b).objs.size, .ref (((s.heap.push a).push b).push c).objs.size] } := up _ _ _ _ (up _ _ _ _ (Heap.get?_push_size _ rfl))
  have at1 : (z4Z s.heap a b c d).get? s.heap.objs.size = some a := up _ _ _ _ (up _ _ _ _ (up _ _ _ _ (up _ _ _ _ (up _ _ _ _ (up _ _ _ _ (Heap.get?_push_size _ B1.free))))))
  have at2 : (z4Z s.heap a b c d).get? (s.heap.push a).objs.size = some b := up _ _ _ _ (up _ _ _ _ (up _ _ _ _ (up _ _ _ _ (up _ _ _ _ (Heap.get?_push_size _ B2.free)))))
  have at3 : (z4Z s.heap a b c d).get? ((s.heap.push a).push b).objs.size = some c := up _ _ _ _ (up _ _ _ _ (up _ _ _ _ (up _ _ _ _ (Heap.get?_push_size _ B3.free))))
  have at4 : (z4Z s.heap a b c d).get? (((s.heap.push a).push b).push c).objs.size = some d := up _ _ _ _ (up _ _ _ _ (up _ _ _ _ (Heap.get?_push_size _ B4.free)))
  rw [nO, nT, n4] at atZ
  rw [nT] at atO
  rw [n4, n3, n2, n1] at atT
  rw [n1] at at2
  rw [n2] at at3
  rw [n3] at at4
  show _ ∧ _
  rw [nO]
  exact ⟨⟨_, atZ, rfl⟩, h _ atZ atT atO at1 at2 at3 at4 fun c o e => up _ _ _ _ (up _ _ _ _ (up _ _ _ _ (up _ _ _ _ (up _ _ _ _ (up _ _ _ _ (up _ _ _ _ e))))))⟩
theorem pi_zip4 {X : Cx} {e e2 e3 e4 : Expr} {ta : TA} {p pos tpos : Pos} {elts : List Expr} {kk : Nat} (hg : Gl X "zip") (hm : X.mg "zip" = none) (ha : PA X [e, e2, e3, e4] ta)
    (hs : starEach [e, e2, e3, e4] X.env = (false, eval e X.env) :: starEach [e2, e3, e4] X.env) (hpl : (backTo pos (starEach [e2, e3, e4] X.env)).any (·.1) = false) :
    PI X (.Tuple elts kk tpos) (.Call (.Name "zip" p) [e, e2, e3, e4] [] pos) (iZipN X.K 4 ta) := by
  refine ⟨fun pins s σ H R I h => ?_⟩
  refine Call_ (ld_blt I hg hm PyProof.Rows.boot_zip (PyProof.Rows.callWith_type1 (thn (ha.run pos pins s σ H _ I h) fun us s1 ⟨vs, H1, I1, r1, q1⟩ => ?_) hs hpl))
  obtain ⟨ks, hn, ex, hsq, q⟩ := q1
  subst ex
  obtain ⟨⟨k1, a1⟩, ⟨k2, a2⟩, ⟨k3, a3⟩, ⟨k4, a4⟩, rfl⟩ : ∃ x y z u, ks = [x, y, z, u] := by
    match ks, hn with
    | [x, y, z, u], _ => exact ⟨x, y, z, u, rfl⟩
  cases r1 with
  | cons r rr => cases rr with
    | cons r' rr => cases rr with
      | cons r'' rr => cases rr with
        | cons r3 rr =>
          cases rr
          obtain rfl := ref_v r
          obtain rfl := ref_v r'
          obtain rfl := ref_v r''
          obtain rfl := ref_v r3
          obtain ⟨f1, x1, q1⟩ := hsq k1 a1 (by simp)
          obtain ⟨f2, x2, q2⟩ := hsq k2 a2 (by simp)
          obtain ⟨f3, x3, q3⟩ := hsq k3 a3 (by simp)
          obtain ⟨f4, x4, q4⟩ := hsq k4 a4 (by simp)
          obtain ⟨i1, _, p1⟩ := seq_at I1 q1
          obtain ⟨i2, _, p2⟩ := seq_at I1 q2
          obtain ⟨i3, _, p3⟩ := seq_at I1 q3
          obtain ⟨i4, _, p4⟩ := seq_at I1 q4
          refine zip_beg4 (beg_k k1 f1 a1 i1.toArray) (beg_k k2 f2 a2 i2.toArray) (beg_k k3 f3 a3 i3.toArray) (beg_k k4 f4 a4 i4.toArray) p1 p2 p3 p4 fun h' hz hTI hTO h1 h2 h3 h4 hk => wpAny_pyIter_zip hz ?_
          have I2 : Inv X pins σ H1 { s1 with heap := h' } := I1.kept (t' := s1.toks) hk
          generalize hN : s1.heap.objs.size = n at *
          have l1 := p1.lt
          have l2 := p2.lt
          have l3 := p3.lt
          have l4 := p4.lt
          rw [hN] at l1 l2 l3 l4
          have ok : ZOk (n + 6) (n + 4) (n + 5) [⟨k1, n, a1⟩, ⟨k2, n + 1, a2⟩, ⟨k3, n + 2, a3⟩, ⟨k4, n + 3, a4⟩] := by
            refine ⟨Nat.lt_succ_self _, Nat.lt_succ_self _, fun t ht => ?_, ?_, fun t ht u hu => ?_⟩
            · simp only [List.mem_cons, List.not_mem_nil, or_false] at ht
              rcases ht with rfl | rfl | rfl | rfl <;> exact ⟨by show _ < n + 4; first | exact Nat.lt_add_of_pos_right (by decide) | exact Nat.add_lt_add_left (by decide) _, by show _ < n + 4; apply Nat.lt_add_right; assumption⟩
            · simp
            · simp only [List.mem_cons, List.not_mem_nil, or_false] at ht hu
              have g1 : t.a < n := by rcases ht with rfl | rfl | rfl | rfl <;> assumption
              have g2 : n ≤ u.I := by rcases hu with rfl | rfl | rfl | rfl; exact Nat.le_refl _; exact Nat.le_add_right _ _; exact Nat.le_add_right _ _; exact Nat.le_add_right _ _
              exact Nat.ne_of_lt (Nat.lt_of_lt_of_le g1 g2)
          refine ⟨n + 6, _, _, _, H1, rfl, I2, turn_zipN ok (by simp) (by simp), ⟨hz, hTI, ⟨[.none, .none, .none, .none], rfl, hTO⟩, fun t ht => ?_⟩, fresh_n (s := s1) I1 fun b hb => ?_, q fun k a _ xs hx => seq_line I1 hx⟩
          · simp only [List.mem_cons, List.not_mem_nil, or_false] at ht
            rcases ht with rfl | rfl | rfl | rfl
            · exact IterK.new h1
            · exact IterK.new h2
            · exact IterK.new h3
            · exact IterK.new h4
          · rw [hN]
            simp only [fpZ, List.map_cons, List.map_nil, List.mem_cons, List.not_mem_nil, or_false] at hb
            rcases hb with rfl | rfl | rfl | rfl | rfl | rfl | rfl
            · exact ⟨6, rfl⟩
            · exact ⟨4, rfl⟩
            · exact ⟨5, rfl⟩
            · exact ⟨0, rfl⟩
            · exact ⟨1, rfl⟩
            · exact ⟨2, rfl⟩
            · exact ⟨3, rfl⟩
/-! ### zip of two that are walked backwards -/
def backK : IK → Nat → IK
  | .l, n => .rl n
  | .t, n => .rt n
  | k, _ => k
abbrev zsT (h : Heap) (v1 v2 : Value) : Heap := h.push { cls := .type "tuple", data := .seq #[v1, v2] }
abbrev zsO (h : Heap) (v1 v2 : Value) : Heap := (zsT h v1 v2).push { cls := .type "tuple", data := .seq #[.none, .none] }
abbrev zsZ (h : Heap) (v1 v2 : Value) : Heap := (zsO h v1 v2).push { cls := .type "zip", data := .fields #[.none, .bool false, .bool false, .ref h.objs.size, .ref (zsT h v1 v2).objs.size] }
/-- what iterates is its own iterator -/
def Selfy (v : Value) (H : Heap → Prop) : Prop := ∀ (prog : Program) (w : World) (A : Around) (E : Value → Shared → Prop) (s : Shared) (Q : Value → Shared → Prop), H s.heap → Q v s → wpAny (model prog w) A (pyIter v) Q E s
theorem meets_zip_self {v1 v2 : Value} {H1 H2 : Heap → Prop} (B1 : Selfy v1 H1) (B2 : Selfy v2 H2) :
    Meets (Builtin.«zip.__new__» ⟨[.type "zip", v1, v2], []⟩) (fun _ R s => (H1 s.heap ∧ H2 s.heap) ∧ R (.ok (.ret (.ref (zsO s.heap v1 v2).objs.size))) { s with heap := zsZ s.heap v1 v2 }) :=
  .of_wp fun prog w A R s h => by
    obtain ⟨hp, g, d, tk, os⟩ := s
    obtain ⟨⟨h1, h2⟩, h⟩ := h
    have hsub := sub_zip
    have it1 : ∀ {A' : Around} {E : Value → Shared → Prop} {Q : Value → Shared → Prop}, Q v1 ⟨hp, g, d, tk, os⟩ → wpAny (model prog w) A' (pyIter v1) Q E ⟨hp, g, d, tk, os⟩ := fun q => B1 prog w _ _ ⟨hp, g, d, tk, os⟩ _ h1 q
    have it2 : ∀ {A' : Around} {E : Value → Shared → Prop} {Q : Value → Shared → Prop}, Q v2 ⟨hp, g, d, tk, os⟩ → wpAny (model prog w) A' (pyIter v2) Q E ⟨hp, g, d, tk, os⟩ := fun q => B2 prog w _ _ ⟨hp, g, d, tk, os⟩ _ h2 q
    wp_walk using it1, it2
    exact ⟨_, rfl, h⟩
section
variable {prog : Program} {w : World} {A : Around} {E : Value → Shared → Prop} {s : Shared}
theorem zip_self {v1 v2 : Value} {H1 H2 : Heap → Prop} {Q : Value → Shared → Prop} (B1 : Selfy v1 H1) (B2 : Selfy v2 H2) (h1 : H1 s.heap) (h2 : H2 s.heap)
    (h : ∀ h', IsZip h' (s.heap.objs.size + 2) s.heap.objs.size (s.heap.objs.size + 1) .none → TupAt h' s.heap.objs.size [v1, v2] → TupAt h' (s.heap.objs.size + 1) [.none, .none] → (∀ c o, s.heap.get? c = some o → h'.get? c = some o) → Q (.ref (s.heap.objs.size + 2)) { s with heap := h' }) :
    wpAny (model prog w) A (call (.type "zip") [v1, v2]) Q E s := by
  refine callType_new F.called_zip (by decide) (F.typeCall_zip_2 _ _) (F.newCall_zip_2 _ _) (fun obj => F.args_object_init_3 obj _ _) F.entry_zip_new (meets_zip_self B1 B2) ⟨⟨h1, h2⟩, ?_⟩
  have nT : (zsT s.heap v1 v2).objs.size = s.heap.objs.size + 1 := by rw [Heap.size_push]
  have nO : (zsO s.heap v1 v2).objs.size = s.heap.objs.size + 2 := by rw [Heap.size_push, nT]
  have atZ : (zsZ s.heap v1 v2).get? (zsO s.heap v1 v2).objs.size = some { cls := .type "zip", data := .fields #[.none, .bool false, .bool false, .ref s.heap.objs.size, .ref (zsT s.heap v1 v2).objs.size] } := Heap.get?_push_size _ rfl
  have atO : (zsZ s.heap v1 v2).get? (zsT s.heap v1 v2).objs.size = some { cls := .type "tuple", data := .seq #[.none, .none] } := Heap.get?_push_of_some _ (Heap.get?_push_size _ rfl)
  have atT : (zsZ s.heap v1 v2).get? s.heap.objs.size = some { cls := .type "tuple", data := .seq #[v1, v2] } := Heap.get?_push_of_some _ (Heap.get?_push_of_some _ (Heap.get?_push_size _ rfl))
  rw [nO, nT] at atZ
  rw [nT] at atO
  show _ ∧ _
  rw [nO]
  exact ⟨⟨_, atZ, rfl⟩, h _ atZ atT atO fun c o e => Heap.get?_push_of_some _ (Heap.get?_push_of_some _ (Heap.get?_push_of_some _ e))⟩
theorem selfy_back {k : IK} {a I : Addr} {n : Nat} (hk : fwK k = true) : Selfy (.ref I) (fun h => IterK (backK k n) h I a 0) := fun prog w A E s Q h q => by
  cases k with
  | l => exact wpAny_pyIter_revIter h.2 q
  | t => exact RT.iter_rt h.2 q
  | rl n => cases hk
  | rt n => cases hk
theorem seq_back {k : IK} {h : Heap} {a : Addr} {its : Array Value} (hk : fwK k = true) (hz : its.size ≤ sizeLine) (x : SeqK k h a its) : SeqK (backK k its.size) h a its.reverse := by
  cases k with
  | l => exact ⟨by rw [Array.size_reverse], by rw [Array.reverse_reverse]; exact x⟩
  | t => exact ⟨⟨by rw [Array.size_reverse], hz⟩, by rw [Array.reverse_reverse]; exact x⟩
  | rl n => cases hk
  | rt n => cases hk
theorem sq_back {K : PySem.W.Frag} {k : IK} {H : Hp} {a : Addr} {xs : List V} (hk : fwK k = true) (x : SqK K k H a xs) : SqK K (backK k xs.length) H a xs.reverse := by
  cases k with
  | l => exact ⟨List.length_reverse, by rw [List.reverse_reverse]; exact x⟩
  | t => exact ⟨List.length_reverse, by rw [List.reverse_reverse]; exact x⟩
  | rl n => cases hk
  | rt n => cases hk
end
section
variable {X : Cx}
/-- reversed(e), an iterator beside what is tracked -/
theorem rev_arg {e : Expr} {te : TE} {p pos : Pos} {pins : List (Addr × Obj)} {s : Shared} {σ : L2.St} {H : Hp} {Z : IK → Addr → List V → Hp → Prop} (hg : Gl X "reversed") (hm : X.mg "reversed" = none) (he : PE X e te) (hs : starEach [e] X.env = (false, eval e X.env) :: starEach [] X.env) (I : Inv X pins σ H s)
    (h : te σ H fun x H1 => ∃ k a xs, fwK k = true ∧ x = .ref a ∧ SqK X.K k H1 a xs ∧ Z k a xs H1) :
    wpAny (model X.prog X.w) X.A (eval (.Call (.Name "reversed" p) [e] [] pos) X.env) (fun v s' => ∃ k a xs H1 J, v = .ref J ∧ fwK k = true ∧ Inv X pins σ H1 s' ∧ s'.heap.get? J = some (itObj (backK k xs.length) a) ∧ FpOk X pins H1 J ∧ a < J ∧ J < s'.heap.objs.size ∧ Z k a xs H1) X.xe s := by
  refine Call_ (ld_blt I hg hm PyProof.Rows.boot_reversed (PyProof.Rows.callWith_type1 (args_cons (thn (he.run pins s σ H _ I h) fun u s1 ⟨v, H1, I1, r1, q1⟩ => args_nil ?_) hs) hs rfl))
  obtain ⟨k, a, xs, hk, ev, hq, q⟩ := q1
  subst ev
  obtain rfl : u = Value.ref a := r1
  obtain ⟨its, rv, sq⟩ := seq_at I1 hq
  have hz := seq_line I1 hq
  have hl := rv.length
  have fp := I1.fpOk (H' := H1) (Nat.le_refl _) (I1.hok.fresh (Nat.le_refl _))
  have la := sq.lt
  cases k with
  | l =>
    refine call_reversed_list sq ⟨.l, a, xs, H1, s1.heap.objs.size, rfl, rfl, I1.kept (t' := s1.toks) (fun b o e => Heap.get?_push_of_some _ e), ?_, fp, la, by rw [Heap.size_push]; exact Nat.lt_succ_self _, q⟩
    rw [hl]
    have e1 : its.toArray.size = its.length := by simp
    rw [← e1]
    exact Heap.get?_push_size _ rfl
  | t =>
    have s63 := line63
    refine RT.call_reversed_tup sq (fun A E Q kk => len_tuple sq (by simp only [List.size_toArray] <;> omega) kk) ⟨.t, a, xs, H1, s1.heap.objs.size, rfl, rfl, I1.kept (t' := s1.toks + 1 + 1) (fun b o e => Heap.get?_push_of_some _ e), ?_, fp, la, by rw [Heap.size_push]; exact Nat.lt_succ_self _, q⟩
    rw [hl]
    have e1 : its.toArray.size = its.length := by simp
    rw [← e1]
    exact Heap.get?_push_size _ rfl
  | rl n => cases hk
  | rt n => cases hk
def iZipR (K : PySem.W.Frag) (ta tb : TE) : TI := fun σ H R => ta σ H fun x H1 => ∃ k a xs, fwK k = true ∧ x = .ref a ∧ SqK K k H1 a xs ∧ tb σ H1 fun y H2 => ∃ k2 b ys, fwK k2 = true ∧ y = .ref b ∧ SqK K k2 H2 b ys ∧ SqK K k2 H2 b ys ∧ SqK K k H2 a xs ∧ (xs.length ≤ sizeLine → ys.length ≤ sizeLine → R (ItN K [(backK k xs.length, a), (backK k2 ys.length, b)]) H2)
theorem itObj_data {k : IK} {a : Addr} {v} : (itObj k a).data ≠ .cell v := by
  cases k <;> (intro z; cases z)
theorem itObj_cls {k : IK} {n : Nat} {a : Addr} (hk : fwK k = true) : (itObj (backK k n) a).cls ≠ .type "list" ∧ (itObj (backK k n) a).cls ≠ .type "tuple" := by
  cases k with
  | l => exact ⟨fun z => absurd (Value.type.inj z) (by decide), fun z => absurd (Value.type.inj z) (by decide)⟩
  | t => exact ⟨fun z => absurd (Value.type.inj z) (by decide), fun z => absurd (Value.type.inj z) (by decide)⟩
  | rl n => cases hk
  | rt n => cases hk
theorem seq_cls {k : IK} {h : Heap} {a : Addr} {its : Array Value} (hk : fwK k = true) (x : SeqK k h a its) : ∃ o, h.get? a = some o ∧ (o.cls = .type "list" ∨ o.cls = .type "tuple") := by
  cases k with
  | l => obtain ⟨o, ho, hc, _⟩ := x; exact ⟨o, ho, .inl hc⟩
  | t => obtain ⟨o, ho, hc, _⟩ := x; exact ⟨o, ho, .inr hc⟩
  | rl n => cases hk
  | rt n => cases hk
theorem pi_zipR {e e2 : Expr} {ta tb : TE} {p pos p1 pos1 p2 pos2 tpos : Pos} {elts : List Expr} {kk : Nat} (hg : Gl X "zip") (hm : X.mg "zip" = none) (hg2 : Gl X "reversed") (hm2 : X.mg "reversed" = none) (ha : PE X e ta) (hb : PE X e2 tb)
    (sa : starEach [e] X.env = (false, eval e X.env) :: starEach [] X.env) (sb : starEach [e2] X.env = (false, eval e2 X.env) :: starEach [] X.env) :
    PI X (.Tuple elts kk tpos) (.Call (.Name "zip" p) [.Call (.Name "reversed" p1) [e] [] pos1, .Call (.Name "reversed" p2) [e2] [] pos2] [] pos) (iZipR X.K ta tb) := by
  refine ⟨fun pins s σ H R I h => ?_⟩
  refine Call_ (ld_blt I hg hm PyProof.Rows.boot_zip (PyProof.Rows.callWith_type1 (args_cons (thn (rev_arg (Z := fun k a xs H1 => tb σ H1 fun y H2 => ∃ k2 b ys, fwK k2 = true ∧ y = .ref b ∧ SqK X.K k2 H2 b ys ∧ SqK X.K k2 H2 b ys ∧ SqK X.K k H2 a xs ∧ (xs.length ≤ sizeLine → ys.length ≤ sizeLine → R (ItN X.K [(backK k xs.length, a), (backK k2 ys.length, b)]) H2)) hg2 hm2 ha sa I h) fun v1 s1 z1 => ?_) rfl) rfl rfl))
  obtain ⟨k, a, xs, H1, J, rfl, hk, I1, oJ, fJ, laJ, lJ, q1⟩ := z1
  -- the first iterator stays as it is
  have I1p : Inv X ((J, itObj (backK k xs.length) a) :: pins) σ H1 s1 := I1.pins_of fun q hq => by
    rcases List.mem_cons.mp hq with rfl | hq
    · exact ⟨oJ, fJ.1, fJ.2.1, fJ.2.2.1, fun v => itObj_data⟩
    · exact I1.pin q (List.mem_append_right _ hq)
  refine args_cons (thn (rev_arg (Z := fun k2 b ys H2 => SqK X.K k2 H2 b ys ∧ SqK X.K k H2 a xs ∧ (xs.length ≤ sizeLine → ys.length ≤ sizeLine → R (ItN X.K [(backK k xs.length, a), (backK k2 ys.length, b)]) H2)) hg2 hm2 hb sb I1p q1) fun v2 s2 z2 => args_nil ?_) rfl
  obtain ⟨k2, b, ys, H2, J2, rfl, hk2, I2p, oJ2, fJ2, laJ2, lJ2, sq2, sq1, q2⟩ := z2
  have pJ := I2p.pin (J, itObj (backK k xs.length) a) (List.mem_append_right _ List.mem_cons_self)
  have oJ' : s2.heap.get? J = some (itObj (backK k xs.length) a) := pJ.1
  have I2 : Inv X pins σ H2 s2 := I2p.pins_of fun q hq => I2p.pin q (List.mem_append_right _ (List.mem_cons_of_mem _ hq))
  have JJ : J ≠ J2 := fJ2.2.2.2.2.2 (J, itObj (backK k xs.length) a) (List.mem_append_right _ List.mem_cons_self)
  obtain ⟨i1, _, s1q⟩ := seq_at I2 sq1
  obtain ⟨i2, _, s2q⟩ := seq_at I2 sq2
  have off : ∀ {k' k'' : IK} {c J' c' : Addr} {n : Nat} {its : Array Value}, fwK k' = true → fwK k'' = true → SeqK k' s2.heap c its → s2.heap.get? J' = some (itObj (backK k'' n) c') → c ≠ J' := by
    intro k' k'' c J' c' n its f1 f2 sq o z
    obtain ⟨oo, e1, e2⟩ := seq_cls f1 sq
    rw [z, o] at e1
    cases e1
    have := itObj_cls (n := n) (a := c') f2
    rcases e2 with e2 | e2
    · exact this.1 e2
    · exact this.2 e2
  refine zip_self (selfy_back hk) (selfy_back hk2) (IterK.new oJ') (IterK.new oJ2) fun h' hz hT hO kp => wpAny_pyIter_zip hz ?_
  have I3 : Inv X pins σ H2 { s2 with heap := h' } := I2.kept (t' := s2.toks) kp
  have lJ1 : J < s2.heap.objs.size := Heap.lt_size oJ'
  have ok : ZOk (s2.heap.objs.size + 2) s2.heap.objs.size (s2.heap.objs.size + 1) [⟨backK k xs.length, J, a⟩, ⟨backK k2 ys.length, J2, b⟩] := by
    refine ⟨Nat.lt_succ_self _, Nat.lt_succ_self _, fun t ht => ?_, ?_, fun t ht u hu => ?_⟩
    · simp only [List.mem_cons, List.not_mem_nil, or_false] at ht
      rcases ht with rfl | rfl
      · exact ⟨lJ1, s1q.lt⟩
      · exact ⟨lJ2, s2q.lt⟩
    · simp [JJ]
    · simp only [List.mem_cons, List.not_mem_nil, or_false] at ht hu
      rcases ht with rfl | rfl <;> rcases hu with rfl | rfl
      · exact off hk hk s1q oJ'
      · exact off hk hk2 s1q oJ2
      · exact off hk2 hk s2q oJ'
      · exact off hk2 hk2 s2q oJ2
  refine ⟨s2.heap.objs.size + 2, _, _, _, H2, rfl, I3, turn_zipN ok (by simp) (by simp), ⟨hz, hT, ⟨[.none, .none], rfl, hO⟩, fun t ht => ?_⟩, fun c hc => ?_, q2 (seq_line I2 sq1) (seq_line I2 sq2)⟩
  · simp only [List.mem_cons, List.not_mem_nil, or_false] at ht
    rcases ht with rfl | rfl
    · exact IterK.new (kp _ _ oJ')
    · exact IterK.new (kp _ _ oJ2)
  · simp only [fpZ, List.map_cons, List.map_nil, List.mem_cons, List.not_mem_nil, or_false] at hc
    rcases hc with rfl | rfl | rfl | rfl | rfl
    · exact fresh_n (s := s2) (fp := [s2.heap.objs.size + 2]) I2 (fun b hb => ⟨2, List.mem_singleton.mp hb⟩) _ List.mem_cons_self
    · exact fresh_n (s := s2) (fp := [s2.heap.objs.size]) I2 (fun b hb => ⟨0, List.mem_singleton.mp hb⟩) _ List.mem_cons_self
    · exact fresh_n (s := s2) (fp := [s2.heap.objs.size + 1]) I2 (fun b hb => ⟨1, List.mem_singleton.mp hb⟩) _ List.mem_cons_self
    · exact ⟨pJ.2.1, fJ.2⟩
    · exact ⟨fJ2.1, fJ2.2.1, fJ2.2.2.1, fJ2.2.2.2.1, fJ2.2.2.2.2.1, fun q hq => fJ2.2.2.2.2.2 q ((List.mem_append.mp hq).elim (List.mem_append_left _) fun z => List.mem_append_right _ (List.mem_cons_of_mem _ z))⟩
end

/-! ### enumerate of a list or a tuple -/
def ItE (K : PySem.W.Frag) (k : IK) (a : Addr) : It :=
  ⟨fun i H => ∃ (xs : List V) (x : V), SqK K k H a xs ∧ xs[i]? = some x, fun i H v H' => ∃ T x, v = .ref T ∧ H T = none ∧ H' = upd H T (.tup [.int (i : Nat), x]) ∧ ∀ xs, SqK K k H a xs → xs[i]? = some x, fun i H => ∃ xs : List V, SqK K k H a xs ∧ xs.length = i⟩
theorem draws_k {P : Program} {w : World} {A : Around} (hh : A.handled = none) (k : IK) (hk : fwK k = true) {it a : Addr} (hne : a ≠ it) (its : Array Value) : Draws P w A it [it, a] its.size (fun i v => its[i]? = some v) (fun i h => IterK k h it a i ∧ SeqK k h a its) := by
  cases k with
  | l => exact Draws.list hh it a hne its
  | t => exact Draws.tuple hh it a hne its
  | rl n => cases hk
  | rt n => cases hk
theorem turn_enumK {P : Program} {w : World} {K : PySem.W.Frag} {elts : List Expr} {kk : Nat} {tpos : Pos} {k : IK} {a e it : Addr} (hfw : fwK k = true) (hne : e ≠ it) (hea : e ≠ a) (hia : it ≠ a) :
    Turn P w K (.Tuple elts kk tpos) (ItE K k a) [e, it] e (fun i h => (∃ old, IsEnum h e it ((i : Nat) : Int) old) ∧ IterK k h it a i) where
  mem := by simp
  obj := fun i h st b hb => by
    obtain ⟨⟨old, he⟩, hi⟩ := st
    have e' : b = e ∨ b = it := by simpa using hb
    rcases e' with z | z
    · rw [z]; exact ⟨_, he, fun v q => nomatch q⟩
    · rw [z]; exact hi.obj
  keep := fun i h h' st k => let ⟨⟨old, he⟩, hi⟩ := st; ⟨⟨old, k e (by simp) _ he⟩, hi.at fun o q => k it (by simp) o q⟩
  item := by
    intro X hP hw hK hc i pins s σ H E I hf st hg
    subst hP hw hK
    obtain ⟨⟨old, he⟩, hit⟩ := st
    obtain ⟨xs, x, hq, hx⟩ := hg
    obtain ⟨its, rv, p⟩ := seq_at I hq
    obtain ⟨u, hu, ru⟩ := rv.get hx
    have hel : e < s.heap.objs.size := Heap.lt_size he
    have hil : it < s.heap.objs.size := hit.lt
    have hlt : i < its.toArray.size := by
      have := (List.getElem?_eq_some_iff.mp hu).1
      simpa using this
    refine wpAny_pyNext_enum_itemC (draws_k (A := X.A.in1) (show X.A.in1.handled = none from I.ok.hd hc) k hfw hia.symm its.toArray) he ⟨hit, p⟩ hlt hne (by simp [hne, hea]) fun u' h' tk hP ho st' hT hsz hk => ?_
    have eu : u' = u := by
      have h2 : its.toArray[i]? = some u' := hP
      rw [List.getElem?_toArray, hu] at h2
      exact (Option.some.inj h2).symm
    subst eu
    refine ⟨_, rfl, wpAny_letOwnedTupleGo_enum (s := { s with heap := h', toks := tk + 1 }) ho fun h'' he' sb => ?_⟩
    have hT2 : h''.get? s.heap.objs.size = some { cls := .type "tuple", data := .seq #[.int i tk, u'] } := (sb.2 _ (Nat.ne_of_gt hel)).trans hT
    have new : ObjOk X.prog X.w (upd H s.heap.objs.size (.tup [.int (i : Nat), x])) h'' s.heap.objs.size (.tup [.int (i : Nat), x]) :=
      ⟨by show 2 ≤ sizeLine; decide, [.int i tk, u'], .cons ⟨_, rfl⟩ (.cons ru .nil), ⟨_, hT2, rfl, _, rfl⟩⟩
    have I1 : Inv X pins σ (upd H s.heap.objs.size (.tup [.int (i : Nat), x])) { s with heap := h'', toks := tk + 1 } :=
      I.turnedNew (ch := [e, it]) (fun b ob hb q => (sb.2 b (fun z => hb (by simp [z]))).trans (hk b ob (fun z => hb (by simp [z])) (fun z => hb (by simp [z])) q)) hf (Nat.le_refl _) new
    refine ⟨.ref s.heap.objs.size, _, I1, rfl, ⟨_, x, rfl, I.hok.fresh (Nat.le_refl _), rfl, fun ys hy => by rw [seq_inj I hy hq]; exact hx⟩, ⟨⟨u', ?_⟩, st'.1.at fun o q => (sb.2 it (Ne.symm hne)).trans q⟩, fun b hb => ?_⟩
    · have e1 : ((i + 1 : Nat) : Int) = (i : Int) + 1 := by omega
      rw [e1]; exact he'
    · have hb' : b < s.heap.objs.size := by
        have e' : b = e ∨ b = it := by simpa using hb
        rcases e' with z | z
        · rw [z]; exact hel
        · rw [z]; exact hil
      rw [upd_ne (Nat.ne_of_lt hb')]
      exact (hf b hb).1
  done := by
    intro X hP hw hK hc i pins s σ H E I hf st hg
    subst hP hw hK
    obtain ⟨⟨old, he⟩, hit⟩ := st
    obtain ⟨xs, hq, hx⟩ := hg
    obtain ⟨its, rv, p⟩ := seq_at I hq
    have hl := rv.length
    have hit' : IterK k s.heap it a its.toArray.size := by
      have e : its.toArray.size = i := by simp; omega
      rw [e]; exact hit
    obtain ⟨f0, f1, f2, f3, f4, f5⟩ := hf it (by simp)
    exact wpAny_pyNext_enum_endD (draws_k (A := X.A.in1) (show X.A.in1.handled = none from I.ok.hd hc) k hfw hia.symm its.toArray) he ⟨hit', p⟩ fun h' eb => ⟨rfl, I.turned (t' := s.toks) (fun b o hb q => eb b o hb q) f0 f1 f3 f4 f5⟩
  self := fun A i s Q E st h => let ⟨⟨_, he⟩, _⟩ := st; wpAny_pyIter_enum he h
theorem meets_enumB {v : Value} {o : Obj} {H : Heap → Prop} (B : Begins v o H) :
    Meets (Builtin.«enumerate.__new__» ⟨[.type "enumerate", v], []⟩) (fun _ R s => H s.heap ∧
      R (.ok (.ret (.ref (s.heap.push o).objs.size))) { s with heap := (s.heap.push o).push { cls := .type "enumerate", data := .fields #[.none, .bool false, .ref s.heap.objs.size, rawInt 0, .none, .none] } }) :=
  .of_wp fun prog w A R s h => by
    obtain ⟨hp, g, d, tk, os⟩ := s; obtain ⟨h1, h⟩ := h
    have hsub := sub_enumerate
    have q1 : ∀ {A' : Around} {E : Value → Shared → Prop} {Q : Value → Shared → Prop}, Q (.ref hp.objs.size) ⟨hp.push o, g, d, tk, os⟩ → wpAny (model prog w) A' (pyIter v) Q E ⟨hp, g, d, tk, os⟩ :=
      fun q => B.iter prog w _ _ ⟨hp, g, d, tk, os⟩ _ h1 q
    wp_walk using q1
    refine wpAny_stack_any fun st => wpAny_pure ?_
    split
    · rename_i c _ _ _ _ _
      cases (c == Value.type "enumerate")
      · wp_walk using q1
        exact ⟨_, rfl, h⟩
      · wp_walk using q1
        exact ⟨_, rfl, h⟩
    · wp_walk using q1
      exact ⟨_, rfl, h⟩
theorem enum_beg {prog : Program} {w : World} {A : Around} {E : Value → Shared → Prop} {s : Shared} {v : Value} {o : Obj} {H : Heap → Prop} {Q : Value → Shared → Prop} (B : Begins v o H) (h1 : H s.heap)
    (h : ∀ h', IsEnum h' (s.heap.objs.size + 1) s.heap.objs.size 0 .none → h'.get? s.heap.objs.size = some o → h'.objs.size = s.heap.objs.size + 2 →
      (∀ b o, s.heap.get? b = some o → h'.get? b = some o) → Q (.ref (s.heap.objs.size + 1)) { s with heap := h' }) :
    wpAny (model prog w) A (call (.type "enumerate") [v]) Q E s := by
  refine callType_new F.called_enumerate (by decide) (F.typeCall_enumerate_1 _) (F.newCall_enumerate_1 _) (fun obj => F.args_object_init_2 obj _) F.entry_enumerate_new (meets_enumB B) ⟨h1, ?_⟩
  have hz : (s.heap.push o).objs.size = s.heap.objs.size + 1 := Heap.size_push ..
  show _ ∧ _
  rw [hz]
  have he : IsEnum ((s.heap.push o).push { cls := .type "enumerate", data := .fields #[.none, .bool false, .ref s.heap.objs.size, rawInt 0, .none, .none] }) (s.heap.objs.size + 1) s.heap.objs.size 0 .none := by
    have := Heap.get?_push_size (s.heap.push o) (o := { cls := .type "enumerate", data := .fields #[.none, .bool false, .ref s.heap.objs.size, rawInt 0, .none, .none] }) rfl
    rw [hz] at this; exact this
  exact ⟨⟨_, he, rfl⟩, h _ he (Heap.get?_push_of_some _ (Heap.get?_push_size _ B.free)) (by rw [Heap.size_push, hz]) fun b o x => Heap.get?_push_of_some _ (Heap.get?_push_of_some _ x)⟩
def iEnumK (K : PySem.W.Frag) (ta : TA) : TI := fun σ H R => ta σ H fun vs H1 => ∃ k a xs, vs = [.ref a] ∧ fwK k = true ∧ SqK K k H1 a xs ∧ (xs.length ≤ sizeLine → R (ItE K k a) H1)
theorem pi_enumK {X : Cx} {e : Expr} {ta : TA} {p pos tpos : Pos} {elts : List Expr} {kk : Nat} (hg : Gl X "enumerate") (hm : X.mg "enumerate" = none) (ha : PA X [e] ta) (hs : starEach [e] X.env = (false, eval e X.env) :: starEach [] X.env) :
    PI X (.Tuple elts kk tpos) (.Call (.Name "enumerate" p) [e] [] pos) (iEnumK X.K ta) := by
  refine ⟨fun pins s σ H R I h => ?_⟩
  refine Call_ (ld_blt I hg hm boot_enumerate (PyProof.Rows.callWith_type1 (thn (ha.run pos pins s σ H _ I h) fun us s1 ⟨vs, H1, I1, r1, q1⟩ => ?_) hs rfl))
  obtain ⟨k, a, xs, ex, hfw, hq, q⟩ := q1
  subst ex
  cases r1 with
  | cons r rr =>
    cases rr
    obtain rfl := ref_v r
    obtain ⟨its, rv, p'⟩ := seq_at I1 hq
    refine enum_beg (beg_k k hfw a its.toArray) p' fun h' he hit hsz hk => wpAny_pyIter_enum he ?_
    have I2 : Inv X pins σ H1 { s1 with heap := h' } := I1.kept (t' := s1.toks) hk
    refine ⟨s1.heap.objs.size + 1, [s1.heap.objs.size + 1, s1.heap.objs.size], _, _, H1, rfl, I2, turn_enumK hfw (Nat.succ_ne_self _) (Nat.ne_of_gt (Nat.lt_succ_of_lt p'.lt)) (Nat.ne_of_gt p'.lt), ⟨⟨.none, he⟩, IterK.new hit⟩, fresh_n (s := s1) I1 fun b hb => ?_, q (seq_line I1 hq)⟩
    simp only [List.mem_cons, List.not_mem_nil, or_false] at hb
    rcases hb with rfl | rfl
    · exact ⟨1, rfl⟩
    · exact ⟨0, rfl⟩
end MZ

set_option Elab.async false
set_option linter.all false
set_option maxRecDepth 100000
set_option maxHeartbeats 4000000
/-! a list of a range with a step -/
namespace MF
open PySem PySem.Spec PyProof.Rows L2

/-- the numbers lo, lo + c, .. -/
def stepV (lo c : Int) (n : Nat) : List V := (List.range n).map fun j => V.int (lo + (j : Nat) * c)
theorem stepV_vals {lo c : Int} {n : Nat} {got : Array Value} (g : ItemsOf (fun j v => ∃ t, v = .int (lo + j * c) t) got n) : Vals (stepV lo c n) got.toList := by
  have len : got.toList.length = n := by rw [Array.length_toList]; exact g.1
  unfold stepV
  rw [← len]
  refine vals_of_get got.toList _ fun j u hj => ?_
  have hj' : got[j]? = some u := by rw [← Array.getElem?_toList]; exact hj
  obtain ⟨t, e⟩ := g.2 j u hj'
  exact ⟨t, e⟩
section
variable {X : Cx} {x y z : Expr} {ta : TA} {pl pr pos pos' : Pos}
/-- list(range(x, y, z)) -/
def tListStep (ta : TA) : TE := fun σ H Q => ta σ H fun vs H1 => ∃ (lo up c : Int) (n : Nat), vs = [.int lo, .int up, .int c] ∧ RgC lo up c n ∧ n ≤ 1000000 ∧ ∀ q, H1 q = none → Q (.ref q) (upd H1 q (.lst (stepV lo c n)))
/-- what range(x, y, z) makes -/
def AtStep (X : Cx) (pins : List (Addr × Obj)) (σ : L2.St) (Q : VK) (v : Value) (s1 : Shared) : Prop := ∃ (r : Addr) (lo up c : Int) (t1 t2 t3 : Tok) (n : Nat) (H1 : Hp), v = .ref r ∧ IsRange s1.heap r lo up c t1 t2 t3 ∧ Inv X pins σ H1 s1 ∧ RgC lo up c n ∧ n ≤ 1000000 ∧ ∀ q, H1 q = none → Q (.ref q) (upd H1 q (.lst (stepV lo c n)))
theorem step_range (gr : Gl X "range") (mr : X.mg "range" = none) (ha : PA X [x, y, z] ta) (h1 : starEach [x, y, z] X.env = (false, eval x X.env) :: starEach [y, z] X.env) (h2 : (backTo pos' (starEach [y, z] X.env)).any (·.1) = false)
    {pins : List (Addr × Obj)} {s : Shared} {σ : L2.St} {H : Hp} {Q : VK} (I : Inv X pins σ H s) (h : tListStep ta σ H Q) : wpAny (model X.prog X.w) X.A (eval (.Call (.Name "range" pr) [x, y, z] [] pos') X.env) (AtStep X pins σ Q) X.xe s := by
  have key := ha.run pos' pins s σ H _ I h
  refine Call_ (ld_blt I gr mr boot_range (PyProof.Rows.callWith_type1 (thn key fun us s1 got => ?_) h1 h2))
  obtain ⟨vs, H1, I1, rs, lo, up, c, n, ev, ok, hn, q⟩ := got
  subst ev
  obtain ⟨k0, k1, k2, k3⟩ := id ok
  match us, rs with
  | [_, _, _], .cons ⟨t1, e1⟩ (.cons ⟨t2, e2⟩ (.cons ⟨t3, e3⟩ .nil)) =>
    subst e1 e2 e3
    refine call_range_3 k0 ?_ (.inl (PyProof.noPylong_small k1))
    exact ⟨_, lo, up, c, t1, t2, t3, n, H1, rfl, IsRange.new .., I1.kept (t' := s1.toks) fun b o e => Heap.get?_push_of_some _ e, ok, hn, q⟩
theorem pe_listStep (calm : X.calm = true) (gl : Gl X "list") (ml : X.mg "list" = none) (gr : Gl X "range") (mr : X.mg "range" = none) (ha : PA X [x, y, z] ta)
    (h1 : starEach [x, y, z] X.env = (false, eval x X.env) :: starEach [y, z] X.env) (h2 : (backTo pos' (starEach [y, z] X.env)).any (·.1) = false)
    (one : starEach [Expr.Call (.Name "range" pr) [x, y, z] [] pos'] X.env = (false, eval (.Call (.Name "range" pr) [x, y, z] [] pos') X.env) :: starEach [] X.env := by rfl) :
    PE X (.Call (.Name "list" pl) [.Call (.Name "range" pr) [x, y, z] [] pos'] [] pos) (tListStep ta) := by
  refine ⟨fun pins s σ H Q I h => ?_⟩
  refine Call_ (ld_blt I gl ml boot_list (PyProof.Rows.callWith_type1 (args_cons (thn (step_range gr mr ha h1 h2 I h) fun v s1 ⟨r, lo, up, c, t1, t2, t3, n, H1, ev, isr, J, ok, hn, q⟩ => args_nil ?_) one) one))
  subst ev
  obtain ⟨k0, k1, k2, k3⟩ := ok
  refine call_list_range (n := n) (J.ok.hd calm) isr k2 k3 (by omega) fun h' tk got cap keep eS items => ?_
  refine ⟨.ref s1.heap.objs.size, upd H1 s1.heap.objs.size (.lst (stepV lo c n)), J.laid keep (Nat.le_refl _) (show ObjOk X.prog X.w _ _ _ (.lst (stepV lo c n)) from ⟨?_, got.toList, cap, stepV_vals items, ?_⟩), rfl, q _ (J.hok.fresh (Nat.le_refl _))⟩
  · unfold stepV
    rw [List.length_map, List.length_range, sizeLine_eq]; omega
  · rw [Array.toArray_toList]; exact eS
end
end MF

set_option Elab.async false
set_option linter.all false
set_option maxRecDepth 100000
set_option maxHeartbeats 4000000
/-! the set of a tuple's ints -/
namespace MF
open PySem PySem.Spec PyProof.Rows L2
theorem insU_mem {x k : Int} : ∀ {l : List Int}, k ∈ insU x l ↔ k = x ∨ k ∈ l
  | [] => by simp [insU]
  | y :: r => by
    unfold insU
    split
    · simp
    · split
      · rename_i e
        subst e
        simp
      · simp only [List.mem_cons, insU_mem (l := r)]
        constructor
        · rintro (h | h | h)
          · exact .inr (.inl h)
          · exact .inl h
          · exact .inr (.inr h)
        · rintro (h | h | h)
          · exact .inr (.inl h)
          · exact .inl h
          · exact .inr (.inr h)
theorem insU_pw {x : Int} : ∀ {l : List Int}, l.Pairwise (· < ·) → (insU x l).Pairwise (· < ·)
  | [], _ => by simp [insU]
  | y :: r, h => by
    obtain ⟨h1, h2⟩ := List.pairwise_cons.mp h
    unfold insU
    split
    · rename_i c
      refine List.pairwise_cons.mpr ⟨fun z hz => ?_, h⟩
      rcases List.mem_cons.mp hz with rfl | hz
      · exact c
      · exact Int.lt_trans c (h1 z hz)
    · split
      · exact h
      · refine List.pairwise_cons.mpr ⟨fun z hz => ?_, insU_pw h2⟩
        rcases insU_mem.mp hz with rfl | hz
        · omega
        · exact h1 z hz
theorem srtU_pw : ∀ l : List Int, (srtU l).Pairwise (· < ·)
  | [] => List.Pairwise.nil
  | _ :: r => insU_pw (srtU_pw r)
theorem srtU_mem {k : Int} : ∀ {l : List Int}, k ∈ srtU l ↔ k ∈ l
  | [] => Iff.rfl
  | x :: r => by
    show k ∈ insU x (srtU r) ↔ _
    rw [insU_mem, srtU_mem, List.mem_cons]
theorem lt_uniq : ∀ {a b : List Int}, a.Pairwise (· < ·) → b.Pairwise (· < ·) → (∀ k, k ∈ a ↔ k ∈ b) → a = b
  | [], [], _, _, _ => rfl
  | [], y :: b, _, _, m => absurd ((m y).mpr List.mem_cons_self) (by simp)
  | x :: a, [], _, _, m => absurd ((m x).mp List.mem_cons_self) (by simp)
  | x :: a, y :: b, h, g, m => by
    obtain ⟨h1, h2⟩ := List.pairwise_cons.mp h
    obtain ⟨g1, g2⟩ := List.pairwise_cons.mp g
    have e : x = y := by
      rcases List.mem_cons.mp ((m x).mp List.mem_cons_self) with e | e
      · exact e
      · rcases List.mem_cons.mp ((m y).mpr List.mem_cons_self) with f | f
        · exact f.symm
        · have := g1 x e
          have := h1 y f
          omega
    subst e
    rw [lt_uniq h2 g2 fun k => ⟨fun hk => ?_, fun hk => ?_⟩]
    · rcases List.mem_cons.mp ((m k).mp (List.mem_cons_of_mem _ hk)) with e | e
      · have := h1 k hk
        omega
      · exact e
    · rcases List.mem_cons.mp ((m k).mpr (List.mem_cons_of_mem _ hk)) with e | e
      · have := g1 k hk
        omega
      · exact e
theorem srtU_uniq {ns ys : List Int} (h : ys.Pairwise (· < ·)) (m : ∀ k, k ∈ ys ↔ k ∈ ns) : ys = srtU ns := lt_uniq h (srtU_pw ns) fun k => (m k).trans srtU_mem.symm
section
variable {X : Cx}
/-- set(t), t a tuple of fewer than 64 ints -/
theorem cr_setTup (hc : X.calm = true) : CallR X (.type "set") (fun vs H Q => ∃ (a : Addr) (ns : List Int), vs = [V.ref a] ∧ SqT X.K H a (ns.map V.int) ∧ ns.length < 64 ∧ ∀ (p : Addr) (c : Nat), c ≤ ns.length → H p = none → Q (.ref p) (upd H p (SetO X.w p (fun j => decide (j ∈ ns)) c))) := by
  intro pins s σ H vs us Q I r hq; obtain ⟨a, ns, e, ht, few, q⟩ := hq; subst e
  obtain ⟨its, rv, pt, hz⟩ := I.tuple ht
  rw [Vals.ref1 r]
  refine call_set_tupI ns (I.ok.hd hc) pt (by simpa using rv.ints) (by unfold scanBound; omega) fun h1 tk c R le keep => ?_
  exact ⟨.ref s.heap.objs.size, upd H s.heap.objs.size (SetO X.w s.heap.objs.size (fun j => decide (j ∈ ns)) c), I.laid (t' := tk) keep (Nat.le_refl _) (setO_new R), rfl, q _ c le (I.hok.fresh (Nat.le_refl _))⟩
end
end MF

set_option Elab.async false
set_option linter.all false
set_option maxRecDepth 100000
set_option maxHeartbeats 4000000
/-! calls, truth, states with one more that is busy -/
namespace MF
open PySem PySem.Spec PyProof.Rows L2 MZ
variable [LTab]

section
variable {K : PySem.W.Frag} {φ φ' : List Addr} {h h' : Hs} {H H' : Hp} {B : Addr → Prop} {p : Addr}
theorem Pg.optc {α : Type} {Ex : Nat → Hp → Prop} {o : Option α} {C : List Addr → Hs → Hp → α → Prop} (P : Pg K B φ h H Ex (Res.opt o h) C) : ∃ a, o = some a ∧ Pg K B φ h H Ex (.ok a h) C := by
  cases o with
  | none => exact P.elim
  | some a => exact ⟨a, rfl, P⟩
theorem Pg.monoE {α : Type} {Ex Ex' : Nat → Hp → Prop} {m : Res α} {C C' : List Addr → Hs → Hp → α → Prop} (P : Pg K B φ h H Ex m C) (hx : ∀ c H', Ex c H' → Ex' c H')
    (g : ∀ φ' h' H' a, m = .ok a h' → Ext φ h H φ' h' H' → RS K B φ' h' H' → C φ' h' H' a → C' φ' h' H' a) : Pg K B φ h H Ex' m C' := by
  cases m with
  | ok a h' => exact fun φ' H' x r => g φ' h' H' a rfl x r (P φ' H' x r)
  | exc c d h' => exact fun φ' H' x r => hx _ _ (P φ' H' x r)
  | bad => exact P
theorem bind_ok {α β : Type} {m : Res α} {f : α → Hs → Res β} {b : β} {h' : Hs} (e : m.bind f = .ok b h') : ∃ a h1, m = .ok a h1 ∧ f a h1 = .ok b h' := by
  cases m with
  | ok a h1 => exact ⟨a, h1, rfl, e⟩
  | exc c d h1 => cases e
  | bad => cases e
theorem opt_ok {α : Type} {o : Option α} {a : α} {h h' : Hs} (e : Res.opt o h = .ok a h') : o = some a ∧ h' = h := by
  cases o with
  | none => cases e
  | some b => cases e; exact ⟨rfl, rfl⟩
/-- fewer that may change -/
theorem Kp.less {M M' : Addr → Prop} (l : ∀ a, M' a → M a) : Kp K M M' H H := ⟨fun _ _ e => e, fun a _ m e => ⟨fun z => m (l a z), e⟩, fun a _ m e => ⟨fun z => m (l a z), e⟩⟩
theorem Mu.bp {a : Addr} : Mu (Bp B p) φ h a ↔ Mu B φ h a ∨ a = p := by
  unfold Mu Bp
  constructor
  · rintro ((z | z) | z)
    · exact .inl (.inl z)
    · exact .inr z
    · exact .inl (.inr z)
  · rintro ((z | z) | z)
    · exact .inl (.inl z)
    · exact .inr z
    · exact .inl (.inr z)
theorem RS.unbusy (r : RS K (Bp B p) φ h H) : RS K B φ h H := by
  have kp : Kp K (Mu (Bp B p) φ h) (Mu B φ h) H H := Kp.less fun a z => Mu.bp.mpr (.inl z)
  exact ⟨r.tb, r.len, r.inj, fun a b => r.nb a (.inl b), fun a b => r.hb a (.inl b), fun k o a e1 e2 => (r.ob k o a e1 e2).kp kp rfl⟩
/-- a new object, busy -/
theorem kp_bp {o : HO} (hp : H p = none) : Kp K (Mu B φ h) (Mu (Bp B p) φ h) H (upd H p o) := by
  have x : Ext φ h H φ h (upd H p o) := Ext.fresh hp
  refine ⟨fun a vs q => ((x.kp (K := K) (B := B)).tu a vs q), fun a vs m e => ⟨fun z => ?_, ?_⟩, fun a kv m e => ⟨fun z => ?_, ?_⟩⟩
  · rcases Mu.bp.mp z with z | z
    · exact m z
    · rw [z, hp] at e; cases e
  · exact ((x.kp (K := K) (B := B)).ls a vs m e).2
  · rcases Mu.bp.mp z with z | z
    · exact m z
    · rw [z] at e; exact rd_some e hp
  · exact ((x.kp (K := K) (B := B)).di a kv m e).2
theorem RS.busy {o : HO} (r : RS K B φ h H) (hp : H p = none) : RS K (Bp B p) φ h (upd H p o) := by
  refine ⟨tabs_upd r.tb (.inl hp), r.len, r.inj, fun a b => ?_, fun a b => ?_, fun k u a e1 e2 => ?_⟩
  · rcases b with b | b
    · exact r.nb a b
    · exact fun l => r.live l (by rw [b]; exact hp)
  · by_cases ha : a = p
    · rw [ha, upd_same]; exact fun z => nomatch z
    · rw [upd_ne ha]
      rcases b with b | b
      · exact r.hb a b
      · exact absurd b ha
  · have q := r.ob k u a e1 e2
    cases u with
    | dead => trivial
    | lst xs => exact q.kp (kp_bp hp) (upd_ne fun z => by obtain ⟨vs, e, _⟩ := q; rw [z, hp] at e; cases e)
    | dct xs => exact q.kp (kp_bp hp) (upd_ne fun z => by obtain ⟨vs, e, _⟩ := q; rw [z, hp] at e; cases e)
/-- what is busy is written -/
theorem kp_wr {M : Addr → Prop} {vs : List V} {o : HO} (m : M p) (e : H p = some (.lst vs)) : Kp K M M H (upd H p o) := by
  refine ⟨fun a ws q => ?_, fun a ws n q => ⟨n, by rw [upd_ne fun z => n (by rw [z]; exact m)]; exact q⟩, fun a kv n q => ⟨n, ?_⟩⟩
  · rcases q with (q | ⟨u, q⟩) | q
    · exact .inl (.inl (by rw [upd_ne fun z => by rw [z, e] at q; cases q]; exact q))
    · exact .inl (.inr ⟨u, by rw [upd_ne fun z => by rw [z, e] at q; cases q]; exact q⟩)
    · exact .inr q
  · have na : a ≠ p := fun z => n (by rw [z]; exact m)
    rcases q with q | ⟨u, q⟩
    · exact .inl (by rw [upd_ne na]; exact q)
    · exact .inr ⟨u, by rw [upd_ne na]; exact q⟩
theorem RS.wr {vs : List V} {o : HO} (r : RS K B φ h H) (b : B p) (e : H p = some (.lst vs)) : RS K B φ h (upd H p o) := by
  refine ⟨tabs_upd r.tb (.inr (.inl ⟨_, e⟩)), r.len, r.inj, r.nb, fun a ba => ?_, fun k u a e1 e2 => ?_⟩
  · by_cases ha : a = p
    · rw [ha, upd_same]; exact fun z => nomatch z
    · rw [upd_ne ha]; exact r.hb a ba
  · have q := r.ob k u a e1 e2
    by_cases hu : u = .dead
    · subst hu; trivial
    · exact q.kp (kp_wr (.inl b) e) (upd_ne fun z => r.nb p b ⟨k, u, e1, hu, by rw [← z]; exact e2⟩)
theorem Ext.wr {o : HO} (x : Ext φ h H φ' h' H') (hp : H p = none) : Ext φ h H φ' h' (upd H' p o) := by
  have na : ∀ {a : Addr} {u : HO}, H a = some u → a ≠ p := fun e z => by rw [z, hp] at e; cases e
  refine ⟨x.pre, fun a u e h1 h2 h3 h4 => by rw [upd_ne (na e)]; exact x.keep a u e h1 h2 h3 h4, fun a xs e n => by rw [upd_ne (na e)]; exact x.keepL a xs e n, fun a l e n => ?_, fun a ob l e => by rw [upd_ne (na e)]; exact x.keepF a ob l e, x.new, fun a e => ?_⟩
  · have n2 : a ≠ p := fun z => by rw [z] at e; exact rd_some e hp
    rcases x.keepD a l e n with q | ⟨u, q⟩
    · exact .inl (by rw [upd_ne n2]; exact q)
    · exact .inr ⟨u, by rw [upd_ne n2]; exact q⟩
  · by_cases ha : a = p
    · rw [ha]; exact hp
    · rw [upd_ne ha] at e; exact x.dom a e
/-- the busy one becomes one of the heap's objects -/
theorem RS.adopt {ob : Ob} (r : RS K (Bp B p) φ h H) (ho : RO K (Mu (Bp B p) φ h) H p ob) (hn : ¬ B p) : RS K B (φ ++ [p]) (h ++ [ob]) H := by
  have old : ∀ (k : Nat) (u : Ob) (a : Addr), (h ++ [ob])[k]? = some u → (φ ++ [p])[k]? = some a → (h[k]? = some u ∧ φ[k]? = some a) ∨ (k = h.length ∧ u = ob ∧ a = p) := fun k u a e1 e2 => by
    by_cases hk : k < h.length
    · rw [List.getElem?_append_left hk] at e1
      rw [List.getElem?_append_left (by rw [r.len]; exact hk)] at e2
      exact .inl ⟨e1, e2⟩
    · have hk' : k = h.length := by
        have := (List.getElem?_eq_some_iff.mp e1).1
        rw [List.length_append, List.length_singleton] at this
        omega
      subst hk'
      rw [List.getElem?_append_right (Nat.le_refl _)] at e1
      rw [List.getElem?_append_right (by rw [r.len]; exact Nat.le_refl _), r.len] at e2
      simp at e1 e2
      exact .inr ⟨rfl, e1.symm, e2.symm⟩
  have hlive : ∀ a, Live (φ ++ [p]) (h ++ [ob]) a → Live φ h a ∨ a = p := fun a ⟨k, u, h1, h2, h3⟩ => by
    rcases old k u a h1 h3 with ⟨q1, q2⟩ | ⟨_, _, q⟩
    · exact .inl ⟨k, u, q1, h2, q2⟩
    · exact .inr q
  have kp : Kp K (Mu (Bp B p) φ h) (Mu B (φ ++ [p]) (h ++ [ob])) H H := Kp.less fun a z => Mu.bp.mpr (by
    rcases z with z | z
    · exact .inl (.inl z)
    · rcases hlive a z with q | q
      · exact .inl (.inr q)
      · exact .inr q)
  have npl : ¬ Live φ h p := r.nb p (.inr rfl)
  refine ⟨r.tb, by rw [List.length_append, List.length_append, r.len]; rfl, fun i j a e1 e2 l1 l2 => ?_, fun a b z => ?_, fun a b => r.hb a (.inl b), fun k u a e1 e2 => ?_⟩
  · obtain ⟨u1, l1, d1⟩ := l1
    obtain ⟨u2, l2, d2⟩ := l2
    rcases old i u1 a l1 e1 with ⟨q1, q2⟩ | ⟨q1, _, q2⟩ <;> rcases old j u2 a l2 e2 with ⟨q3, q4⟩ | ⟨q3, _, q4⟩
    · exact r.inj i j a q2 q4 ⟨u1, q1, d1⟩ ⟨u2, q3, d2⟩
    · exact absurd ⟨i, u1, q1, d1, by rw [← q4]; exact q2⟩ npl
    · exact absurd ⟨j, u2, q3, d2, by rw [← q2]; exact q4⟩ npl
    · rw [q1, q3]
  · rcases hlive a z with q | q
    · exact r.nb a (.inl b) q
    · exact hn (by rw [← q]; exact b)
  · rcases old k u a e1 e2 with ⟨q1, q2⟩ | ⟨_, q1, q2⟩
    · exact (r.ob k u a q1 q2).kp kp rfl
    · subst q1 q2
      exact ho.kp kp rfl
theorem Ext.adopt {ob : Ob} (x : Ext φ h H φ' h' H') (hl : φ'.length = h'.length) (hp : H p = none) : Ext φ h H (φ' ++ [p]) (h' ++ [ob]) H' := by
  obtain ⟨ψ, e⟩ := x.pre
  refine ⟨⟨ψ ++ [p], by rw [e, List.append_assoc]⟩, x.keep, x.keepL, x.keepD, x.keepF, fun a ⟨k, u, h1, h2, h3⟩ => ?_, x.dom⟩
  by_cases hk : k < h'.length
  · rw [List.getElem?_append_left hk] at h1
    rw [List.getElem?_append_left (by rw [hl]; exact hk)] at h3
    exact x.new a ⟨k, u, h1, h2, h3⟩
  · have hk' : k = h'.length := by
      have := (List.getElem?_eq_some_iff.mp h1).1
      rw [List.length_append, List.length_singleton] at this
      omega
    subst hk'
    rw [List.getElem?_append_right (by rw [hl]; exact Nat.le_refl _), hl] at h3
    simp at h3
    rw [← h3]
    exact .inr hp
end

/-! ### a call -/
section
variable {X : Cx} {k : Nat} {f : Addr} {fd : FuncData} {ps : List Str} {sp : Sp} {W : WX} {x : Str} {p pos : Pos} {e : Expr} {es : List Expr} {t : TA}
theorem run_g {pins : List (Addr × Obj)} {σ : L2.St} {H : Hp} {s : Shared} {Q : VK} {us : List Value} {vs : List V} (F : FG X.prog X.w X.K X.mg X.base k f fd ps sp) (hr : Room k X.A) (hgu : X.A.guards = some []) (hb : Binds X.K fd ps []) (tk : Takes X W)
    (I : Inv X pins σ H s) (r : Vals vs us) (h : sp vs H Q (WE W σ)) : wpAny (model X.prog X.w) X.A (call (.ref f) us) (EP X pins σ Q) X.xe s := by
  have hl : us.length = ps.length := by rw [← r.length]; exact F.len _ _ _ _ h
  have b := hb s us I.kIn (by rw [List.append_nil]; exact hl)
  rw [List.append_nil] at b
  refine wpAny_call (codeAny_mono (F.run X.A X.stack s H ⟨us, []⟩ us vs Q (WE W σ) hr hgu I.env0 b r h) fun r s' hq => ?_)
  cases r with
  | error e => exact passAt tk σ pins H s e s' I hq
  | ok fl =>
    cases fl with
    | ret u => exact I.after hq
    | next => exact False.elim hq
    | brk => exact False.elim hq
    | cont => exact False.elim hq
def tCallG (sp : Sp) (W : WX) (t : TA) : TE := fun σ H Q => t σ H fun vs H1 => sp vs H1 Q (WE W σ)
theorem pe_callG (F : FG X.prog X.w X.K X.mg X.base k f fd ps sp) (hr : Room k X.A) (hgu : X.A.guards = some []) (hg : Gl X x) (hm : X.mg x = some (.ref f)) (hk : PySem.W.keepIn X.K (.ref f) = true) (hb : Binds X.K fd ps []) (tk : Takes X W)
    (ha : PA X (e :: es) t) (hdb : (x == ("__debug__" : Str)) = false) (he : starEach (e :: es) X.env = (false, eval e X.env) :: starEach es X.env) (hpl : (backTo pos (starEach es X.env)).any (·.1) = false) :
    PE X (.Call (.Name x p) (e :: es) [] pos) (tCallG sp W t) := by
  refine ⟨fun pins s σ H Q I h => ?_⟩
  refine wpAny_Call_Name_kw (ld_glob I hg hm ?_ hdb)
  refine PySem.W.callWith_K (h₀ := X.base) I.ok.mod.kin hk (thn (ha.run pos pins s σ H _ I h) fun us s1 ⟨vs, H1, I1, r, q⟩ => ⟨I1.kIn, ?_⟩) he hpl
  exact run_g F hr hgu hb tk I1 r q
end

/-! ### truth -/
section
variable {X : Cx} {a b : Expr} {ta tb : TE} {rest : List Expr} {pos : Pos}
def tTru (K : PySem.W.Frag) (ta : TE) : TT := fun σ H Q => ta σ H fun x H1 => ∃ (B : Addr → Prop) (φ : List Addr) (h : Hs) (d : D) (k : Bool), RP K (Mu B φ h) H1 d x ∧ truD d = some k ∧ Q k H1
def tAndD (K : PySem.W.Frag) (ta tb : TE) : TE := fun σ H Q => ta σ H fun x H1 => ∃ (B : Addr → Prop) (φ : List Addr) (h : Hs) (d : D) (k : Bool), RP K (Mu B φ h) H1 d x ∧ truD d = some k ∧ if k = true then tb σ H1 Q else Q x H1
def tOrD (K : PySem.W.Frag) (ta tb : TE) : TE := fun σ H Q => ta σ H fun x H1 => ∃ (B : Addr → Prop) (φ : List Addr) (h : Hs) (d : D) (k : Bool), RP K (Mu B φ h) H1 d x ∧ truD d = some k ∧ if k = true then Q x H1 else tb σ H1 Q
def tNotD (K : PySem.W.Frag) (ta : TE) : TE := fun σ H Q => ta σ H fun x H1 => ∃ (B : Addr → Prop) (φ : List Addr) (h : Hs) (d : D) (k : Bool), RP K (Mu B φ h) H1 d x ∧ truD d = some k ∧ Q (.bl (!k)) H1
theorem tru_at {pins : List (Addr × Obj)} {s : Shared} {σ : L2.St} {H1 : Hp} {x : V} {v : Value} {B : Addr → Prop} {φ : List Addr} {h : Hs} {d : D} {k : Bool} (I : Inv X pins σ H1 s) (r : RelV x v) (p : RP X.K (Mu B φ h) H1 d x) (e : truD d = some k) :
    wpAny (model X.prog X.w) X.A (truthy v) (fun c s2 => c = k ∧ Inv X pins σ H1 s2) X.xe s := by
  refine thn (tru_D pins s σ H1 x v (fun c H2 => c = k ∧ H2 = H1) I r ⟨B, φ, h, d, k, p, e, rfl, rfl⟩) fun c s2 ⟨H2, I2, e1, e2⟩ => ⟨e1, ?_⟩
  rw [← e2]; exact I2
theorem pt_D (ha : PE X a ta) (he : ∀ whole, isTrue a X.env whole = (do let v ← whole; standAt a.pos; holding [v] (truthy v))) : PT X a (tTru X.K ta) := by
  refine ⟨fun pins s σ H Q I h => ?_⟩
  exact isTrue_plain (thn (ha.run pins s σ H _ I h) fun v s1 ⟨x, H1, I1, r1, B, φ, hh, d, k, p, e, q⟩ => thn (tru_at I1 r1 p e) fun c s2 ⟨e2, I2⟩ => ⟨H1, I2, by rw [e2]; exact q⟩) (he _)
theorem pe_andD (ha : PE X a ta) (hb : PE X (.BoolOp .And (b :: rest) pos) tb) : PE X (.BoolOp .And (a :: b :: rest) pos) (tAndD X.K ta tb) := by
  refine ⟨fun pins s σ H Q I h => ?_⟩
  refine BoolOp_and (thn (ha.run pins s σ H _ I h) fun v s1 ⟨x, H1, I1, r1, B, φ, hh, d, k, p, e, q⟩ => ?_)
  refine thn (tru_at I1 r1 p e) fun c s2 ⟨e2, I2⟩ => ?_
  rw [e2]
  cases k with
  | true => exact hb.run pins s2 σ H1 Q I2 q
  | false => exact ⟨x, H1, I2, r1, q⟩
theorem pe_orD (ha : PE X a ta) (hb : PE X (.BoolOp .Or (b :: rest) pos) tb) : PE X (.BoolOp .Or (a :: b :: rest) pos) (tOrD X.K ta tb) := by
  refine ⟨fun pins s σ H Q I h => ?_⟩
  refine BoolOp_or (thn (ha.run pins s σ H _ I h) fun v s1 ⟨x, H1, I1, r1, B, φ, hh, d, k, p, e, q⟩ => ?_)
  refine thn (tru_at I1 r1 p e) fun c s2 ⟨e2, I2⟩ => ?_
  rw [e2]
  cases k with
  | true => exact ⟨x, H1, I2, r1, q⟩
  | false => exact hb.run pins s2 σ H1 Q I2 q
theorem pe_notD (ha : PE X a ta) : PE X (.UnaryOp .Not a pos) (tNotD X.K ta) := by
  refine ⟨fun pins s σ H Q I h => ?_⟩
  refine UnaryOp_ (thn (ha.run pins s σ H _ I h) fun v s1 ⟨x, H1, I1, r1, B, φ, hh, d, k, p, e, q⟩ => ?_)
  exact not_of (thn (tru_at I1 r1 p e) fun c s2 ⟨e2, I2⟩ => ⟨.bl (!c), H1, I2, rfl, by rw [e2]; exact q⟩)
/-- a tree is walked -/
def ItS (K : PySem.W.Frag) (k : IK) (a : Addr) : It :=
  ⟨fun i H => ∃ (xs : List V) (x : V), SqK K k H a xs ∧ xs[i]? = some x, fun i H x H' => H' = H ∧ ∀ xs, SqK K k H a xs → xs[i]? = some x, fun i H => ∃ xs : List V, SqK K k H a xs ∧ xs.length ≤ i⟩
def iSeqK (K : PySem.W.Frag) (tl : TE) : TI := fun σ H R => tl σ H fun x H1 => ∃ k a xs, x = .ref a ∧ fwK k = true ∧ SqK K k H1 a xs ∧ (xs.length ≤ sizeLine → R (ItS K k a) H1)
theorem pi_seqK {l tg : Expr} {tl : TE} (hl : PE X l tl) : PI X tg l (iSeqK X.K tl) := by
  refine ⟨fun pins s σ H R I h => ?_⟩
  refine thn (hl.run pins s σ H _ I h) fun v s1 ⟨x, H1, I1, r1, k, a, xs, e, hfw, hq, q⟩ => ?_
  subst e
  obtain rfl := ref_v r1
  have q := q (seq_line I1 hq)
  have fr : ∀ b ∈ [s1.heap.objs.size], FpOk X pins H1 b := fresh_n (s := s1) I1 fun b hb => by
    have e : b = s1.heap.objs.size := by simpa using hb
    exact ⟨0, e⟩
  cases k with
  | l =>
    obtain ⟨its, rv, p, hz⟩ := I1.list hq
    refine wpAny_pyIter_list p.isList ?_
    exact ⟨s1.heap.objs.size, [s1.heap.objs.size], _, _, H1, rfl, I1.kept (t' := s1.toks) fun b o e => Heap.get?_push_of_some _ e, turn_list a _, ⟨_, Heap.get?_push_size _ rfl, rfl, rfl⟩, fr, q⟩
  | t =>
    obtain ⟨its, rv, p, hz⟩ := I1.tuple hq
    refine wpAny_pyIter_tuple (show s1.heap.IsTuple a its.toArray from p) ?_
    exact ⟨s1.heap.objs.size, [s1.heap.objs.size], _, _, H1, rfl, I1.kept (t' := s1.toks) fun b o e => Heap.get?_push_of_some _ e, turn_tuple a _, ⟨_, Heap.get?_push_size _ rfl, rfl, rfl⟩, fr, q⟩
  | rl n => cases hfw
  | rt n => cases hfw
end
end MF

set_option Elab.async false
set_option linter.all false
set_option maxRecDepth 100000
set_option maxHeartbeats 4000000
/-! the law's own def that tells the word of a caught refusal -/
namespace MF
open PySem PySem.Spec PyProof.Rows L2 MZ
variable [LTab]

/-- all that stood stands -/
def FrE (H H' : Hp) : Prop := ∀ b o, H b = some o → H' b = some o
theorem FrE.refl {H : Hp} : FrE H H := fun _ _ e => e
theorem FrE.trans {H H1 H2 : Hp} (a : FrE H H1) (b : FrE H1 H2) : FrE H H2 := fun c o e => b c o (a c o e)
theorem FrE.new {H : Hp} {p : Addr} {o : HO} (hp : H p = none) : FrE H (upd H p o) := fun b u e => by
  rw [upd_ne (ne_of_none e hp)]; exact e

section
variable {X : Cx} {a D : Addr} {oe : Obj}
/-- isinstance of the exception that the context pins -/
theorem call_isP (C : ExcC X.K D) (hz : Zc (.ref D) none oe) (hf : ∃ vs, oe.data = .fields vs) (hp : (a, oe) ∈ X.pn) : CallR X (.builtin "isinstance") (rIsE X.K D a) := by
  intro pins s σ H xs us Q I r h
  obtain ⟨c, cv, b, ex, hcv, ek, q⟩ := h
  subst ex
  obtain ⟨ru, rt⟩ : ∃ u w, us = [u, w] ∧ RelV (.ref a) u ∧ RelV c w := by
    cases r with
    | cons r1 r2 =>
      cases r2 with
      | cons r3 r4 =>
        cases r4
        exact ⟨_, _, rfl, r1, r3⟩
  obtain ⟨w, eu, r1, r2⟩ := rt
  subst eu
  obtain rfl : ru = Value.ref a := r1
  obtain rfl := hcv _ r2
  have here := (I.pin (a, oe) (List.mem_append_left _ hp)).1
  obtain ⟨vs, hv⟩ := hf
  have at1 : PySem.W.InstAt s.heap a oe D none := by
    obtain ⟨c1, d1, v1, s1⟩ := oe
    obtain ⟨z1, z2⟩ := hz
    dsimp only at z1 z2 hv
    subst z1 z2 hv
    exact ⟨here, rfl, rfl, trivial⟩
  refine PySem.W.kia_one (PySem.W.handS_kitx_exc C.hg C.hk C.hs C.hd C.ha C.hn C.ht C.hm) I.kIn at1 ek (fun z => nomatch z) fun tk => ?_
  exact ⟨.bl b, H, I.kept (t' := tk) fun _ _ z => z, rfl, q⟩
def tIs (a : Addr) (b : Bool) : TE := fun σ H Q => σ[0]? = some (some (.ref a)) ∧ Q (.bl b) H
/-- what the module tells of the class c of an exception of the class D -/
structure KindF (X : Cx) (D : Addr) (c : Str) (b : Bool) : Prop where
  at_ : (∃ C, X.mg c = some (.ref C) ∧ PySem.W.kitOne X.K (.ref D) (.ref C) = some b) ∨ (X.mg c = none ∧ c = "ValueError" ∧ PySem.W.kitOne X.K (.ref D) (.type "ValueError") = some b)
  gl : glB X.env.scope c = true
  nm : okNm c = true
structure ExcX (X : Cx) (a D : Addr) (oe : Obj) (e : Str) : Prop where
  C : ExcC X.K D
  hz : Zc (.ref D) none oe
  hf : ∃ vs, oe.data = .fields vs
  hp : (a, oe) ∈ X.pn
  n0 : X.N[0]? = some e
  v0 : visB X.env.scope e = true
  k0 : okNm e = true
  gi : glB X.env.scope "isinstance" = true
  mi : X.mg "isinstance" = none
theorem boot_VE : bootBuiltins "ValueError" = some (.type "ValueError") := by decide +kernel
theorem pe_is {e c : Str} {x : Expr} {b : Bool} (G : ExcX X a D oe e) (K : KindF X D c b) (h : dIs e x = some c) : PE X x (tIs a b) := by
  obtain ⟨p1, p2, p3, p4, rfl⟩ := dIs_eq h
  obtain ⟨h1, h2, h3⟩ := okNm_nm G.k0
  obtain ⟨g1, g2, g3⟩ := okNm_nm K.nm
  have hv : PE X (.Name e p2) (tVar 0) := pe_var G.n0 (visB_vis G.v0) h1 h2
  rcases K.at_ with ⟨C, m, k⟩ | ⟨m, rfl, k⟩
  · have hc : PE X (.Name c p3) (tC (.ref C)) := pe_glob (glB_gl K.gl) m rfl g1
    refine pe_of (pe_callB (call_isP G.C G.hz G.hf G.hp) (glB_gl G.gi) G.mi boot_isinstance (pa_cons hv (pa_cons hc pa_nil))) fun σ H Q ⟨q1, q2⟩ => ?_
    exact ⟨.ref a, q1, _, _, b, rfl, fun u r => r, k, q2⟩
  · have hc : PE X (.Name "ValueError" p3) (tC (.ty "ValueError")) := pe_bltn (glB_gl K.gl) m boot_VE rfl
    refine pe_of (pe_callB (call_isP G.C G.hz G.hf G.hp) (glB_gl G.gi) G.mi boot_isinstance (pa_cons hv (pa_cons hc pa_nil))) fun σ H Q ⟨q1, q2⟩ => ?_
    exact ⟨.ref a, q1, _, _, b, rfl, fun u r => r, k, q2⟩
theorem is_star {e c : Str} {x : Expr} {r : List Expr} {env : Env} (h : dIs e x = some c) : starEach (x :: r) env = (false, eval x env) :: starEach r env := by
  obtain ⟨p1, p2, p3, p4, rfl⟩ := dIs_eq h
  rfl
theorem pa_iss {e : Str} (G : ExcX X a D oe e) {f : Str → Bool} : ∀ {xs : List Expr} {cs : List Str}, dIss e xs = some cs → (∀ c ∈ cs, KindF X D c (f c)) → PA X xs (fun σ H Q => σ[0]? = some (some (.ref a)) ∧ Q (cs.map fun c => V.bl (f c)) H)
  | [], cs, h, _ => by
    cases h
    exact pa_of pa_nil fun σ H Q ⟨_, q⟩ => q
  | x :: r, cs, h, k => by
    unfold dIss at h
    obtain ⟨c, h1, h2⟩ := Option.bind_eq_some_iff.mp h
    obtain ⟨cs', h3, rfl⟩ := Option.map_eq_some_iff.mp h2
    exact pa_of (pa_cons (pe_is G (k c List.mem_cons_self) h1) (pa_iss G h3 fun d hd => k d (List.mem_cons_of_mem _ hd)) (is_star h1)) fun σ H Q ⟨q1, q2⟩ => ⟨q1, q1, q2⟩
theorem ps_ofW {st : Stmt} {t t' : TS} (h : PS X st t) (g : ∀ E σ H, t' E σ H → t E σ H) : PS X st t' := ⟨fun pins s σ H E I q => h.run pins s σ H E I (g E σ H q)⟩
theorem pss_ofW {st : List Stmt} {t t' : TS} (h : PSs X st t) (g : ∀ E σ H, t' E σ H → t E σ H) : PSs X st t' := ⟨fun pins s σ H E I q => h.run pins s σ H E I (g E σ H q)⟩
/-! the marks -/
/-- the state: the exception, the marks; H0: all that stood at first -/
structure StW (a : Addr) (n : Nat) (bs : List Bool) (H0 : Hp) (σ : L2.St) (H : Hp) : Prop where
  len : σ.length = n
  e : σ[0]? = some (some (.ref a))
  m : ∃ q, σ[1]? = some (some (.ref q)) ∧ H q = some (.lst (bs.map V.bl)) ∧ H0 q = none
  x : FrE H0 H
/-- what is wanted in the end -/
def FinW (H : Hp) (D : Ends) (w : Str) : Prop := ∀ H' p, FrE H H' → H' p = some (.tup [.str w]) → D.rt (.ref p) H'
structure NamesW (X : Cx) (m w : Str) : Prop where
  nd : X.N.Nodup
  l3 : 3 ≤ X.N.length
  n1 : X.N[1]? = some m
  l1 : X.env.scope.names.lookup m = some .local
  k1 : okNm m = true
  n2 : X.N[2]? = some w
  l2 : X.env.scope.names.lookup w = some .local
  k2 : okNm w = true
theorem map_bl {f : Str → Bool} {cs : List Str} : (cs.map fun c => V.bl (f c)) = (cs.map f).map V.bl := by rw [List.map_map]; rfl
variable {m w e : Str} {f : Str → Bool} {st : Stmt} {cs : List Str} {bs : List Bool}
theorem s_m1 (G : ExcX X a D oe e) (N : NamesW X m w) (h : dM1 e m st = some cs) (k : ∀ c ∈ cs, KindF X D c (f c)) (hz : cs.length ≤ 1000) :
    PS X st (fun D σ H => (σ.length = X.N.length ∧ σ[0]? = some (some (.ref a))) ∧ ∀ σ' H', StW a X.N.length (cs.map f) H σ' H' → D.nx σ' H') := by
  have hl := N.l3
  unfold dM1 at h
  split at h
  · split at h
    · rename_i m' pm as pl ps z
      subst z
      refine ps_ofW (ps_set N.nd N.n1 (.inl N.l1) (pe_lst (pa_iss G h k)) rfl (.inr N.l1)) fun D σ H ⟨⟨q0, q1⟩, q2⟩ => ⟨q1, ?_, fun p hp => ?_⟩
      · rw [List.length_map]; exact Nat.le_trans hz (by rw [sizeLine_eq]; omega)
      · refine q2 _ _ ⟨by rw [List.length_set]; exact q0, by rw [List.getElem?_set_ne (by decide)]; exact q1, ⟨p, List.getElem?_set_self (by rw [q0]; omega), ?_, hp⟩, FrE.new hp⟩
        rw [upd_same, map_bl]
    · cases h
  · cases h
theorem s_m2 (G : ExcX X a D oe e) (N : NamesW X m w) (h : dM2 e m st = some cs) (k : ∀ c ∈ cs, KindF X D c (f c)) (hz : bs.length + cs.length ≤ 1000) {H0 : Hp} :
    PS X st (fun D σ H => StW a X.N.length bs H0 σ H ∧ ∀ σ' H', StW a X.N.length (bs ++ cs.map f) H0 σ' H' → D.nx σ' H') := by
  have hl := N.l3
  unfold dM2 at h
  split at h
  · split at h
    · rename_i m' pm m2 p2 as pl po ps z
      obtain ⟨z1, z2⟩ := z
      subst z1 z2
      obtain ⟨h1, h2, h3⟩ := okNm_nm N.k1
      have hm : PE X (.Name m2 p2) (tVar 1) := pe_var N.n1 (.inl N.l1) h1 h2
      refine ps_ofW (ps_set N.nd N.n1 (.inl N.l1) (pe_op op_cat hm (pe_lst (pa_iss G h k))) rfl (.inr N.l1)) fun D σ H ⟨W, q2⟩ => ?_
      obtain ⟨q, e1, e2, e3⟩ := W.m
      refine ⟨.ref q, e1, W.e, ?_, fun p hp => ?_⟩
      · rw [List.length_map]; exact Nat.le_trans (Nat.le_of_add_left_le hz) (by rw [sizeLine_eq]; omega)
      have n1 : p ≠ q := fun z => by rw [z, e2] at hp; cases hp
      refine ⟨q, p, bs.map V.bl, cs.map fun c => V.bl (f c), rfl, rfl, by rw [upd_ne fun z => n1 z.symm]; exact e2, upd_same, ?_, fun r hr => ?_⟩
      · rw [List.length_map, List.length_map, sizeLine_eq]; omega
      · have x2 : FrE H0 (upd (upd H p (.lst (cs.map fun c => V.bl (f c)))) r (.lst (bs.map V.bl ++ cs.map fun c => V.bl (f c)))) := W.x.trans ((FrE.new hp).trans (FrE.new hr))
        refine q2 _ _ ⟨by rw [List.length_set]; exact W.len, by rw [List.getElem?_set_ne (by decide)]; exact W.e, ⟨r, List.getElem?_set_self (by rw [W.len]; omega), ?_, ?_⟩, x2⟩
        · rw [upd_same, map_bl, List.map_append]
        · cases z : H0 r with
          | none => rfl
          | some o =>
            have y := W.x.trans (FrE.new (o := .lst (cs.map fun c => V.bl (f c))) hp) r o z
            rw [hr] at y; cases y
    · cases h
  · cases h
theorem s_ma (G : ExcX X a D oe e) (N : NamesW X m w) {c : Str} (h : dMA e m st = some c) (k : KindF X D c (f c)) (hz : bs.length ≤ 1000) {H0 : Hp} :
    PS X st (fun D σ H => StW a X.N.length bs H0 σ H ∧ ∀ σ' H', StW a X.N.length (bs ++ [f c]) H0 σ' H' → D.nx σ' H') := by
  unfold dMA at h
  split at h
  · split at h
    · rename_i m' pm at1 ap x cp p z
      obtain ⟨rfl, rfl, z3⟩ := z
      obtain ⟨h1, h2, h3⟩ := okNm_nm N.k1
      obtain ⟨p1, p2, p3, p4, rfl⟩ := dIs_eq h
      have hm : PE X (.Name m' pm) (tVar 1) := pe_var N.n1 (.inl N.l1) h1 h2
      have hx : PA X [.Call (.Name "isinstance" p1) [.Name e p2, .Name c p3] [] p4] _ := pa_cons (pe_is G k h) pa_nil
      refine ps_ofW (ps_expr (pe_bm (T := "list") (id := "list.append") F.plainAttrs_list F.slot_list_append F.type_list_append mt_append hm hx rfl rfl z3 rfl rfl)) fun D σ H ⟨W, q2⟩ => ?_
      obtain ⟨q, e1, e2, e3⟩ := W.m
      refine ⟨.ref q, e1, (.inl ⟨rfl, _, SqL.of e2⟩), W.e, q, bs.map V.bl, .bl (f c), rfl, rfl, e2, by rw [List.length_map, sizeLine_eq]; omega, ?_⟩
      refine q2 _ _ ⟨W.len, W.e, ⟨q, e1, ?_, e3⟩, fun b o z => ?_⟩
      · rw [upd_same, List.map_append]; rfl
      · rw [upd_ne fun y => by rw [y, e3] at z; cases z]
        exact W.x b o z
    · cases h
  · cases h
/-! ### count, index of truths -/
def truV : Value → Bool
  | .bool b => b
  | _ => false
theorem eqg_bool (b : Bool) : MeetsSeq.EqGives (.bool b) (.bool true) b := fun prog w A E s Q h => PySem.SeqAt.EqAt.bool_bool (A := A) (s := s) b true prog w E Q (by cases b <;> exact h)
theorem bl_vals : ∀ {bs : List Bool} {us : List Value}, Vals (bs.map V.bl) us → us = bs.map Value.bool
  | [], _, .nil => rfl
  | b :: bs, _, .cons r s => by
    rw [bl_vals s]
    obtain rfl := (show _ = Value.bool b from r)
    rfl
theorem eqg_all {bs : List Bool} : ∀ y, y ∈ (bs.map Value.bool).toArray → MeetsSeq.EqGives y (.bool true) (truV y) := fun y hy => by
  have : y ∈ bs.map Value.bool := by simpa using hy
  obtain ⟨b, -, rfl⟩ := List.mem_map.mp this
  exact eqg_bool b
theorem count_bl (bs : List Bool) : (bs.map Value.bool).countP truV = bs.countP id := by
  rw [List.countP_map]; rfl
def rCountB : V → List V → Hp → VK → Prop := fun x vs H Q => ∃ (l : Addr) (bs : List Bool), x = .ref l ∧ vs = [.bl true] ∧ H l = some (.lst (bs.map V.bl)) ∧ Q (.int (bs.countP id : Nat)) H
theorem mt_countB : MtM X "list.count" rCountB := by
  intro pins s σ H x vs v us Q I rx rv h
  obtain ⟨l, bs, rfl, rfl, hH, q⟩ := h
  cases rx
  obtain ⟨u, rfl, r1⟩ := Vals.one rv
  obtain rfl := (show u = Value.bool true from r1)
  obtain ⟨z, its, n, r, hl, e⟩ := I.lstM hH
  obtain rfl := bl_vals r
  refine call_meets F.slot_list_count ⟨_, e, rfl⟩ F.entry_list_count (F.args_list_count_2 _ _) (MeetsSeq.list_count l _ n (.bool true) truV eqg_all) ⟨e, ?_⟩
  have ec : ((bs.map Value.bool).toArray.toList.countP truV : Nat) = bs.countP id := count_bl bs
  refine ⟨.int (bs.countP id : Nat), H, I.tok _, ⟨s.toks, ?_⟩, q⟩
  rw [← ec]
def rIndexB : V → List V → Hp → VK → Prop := fun x vs H Q => ∃ (l : Addr) (bs : List Bool) (j : Nat), x = .ref l ∧ vs = [.bl true] ∧ H l = some (.lst (bs.map V.bl)) ∧ bs[j]? = some true ∧ (∀ i, i < j → bs[i]? = some false) ∧ j < 1000 ∧ Q (.int (j : Nat)) H
theorem mt_indexB : MtM X "list.index" rIndexB := by
  intro pins s σ H x vs v us Q I rx rv h
  obtain ⟨l, bs, j, rfl, rfl, hH, hj, hno, h3, q⟩ := h
  cases rx
  obtain ⟨u, rfl, r1⟩ := Vals.one rv
  obtain rfl := (show u = Value.bool true from r1)
  obtain ⟨z, its, n, r, hl, e⟩ := I.lstM hH
  obtain rfl := bl_vals r
  obtain ⟨hlt, ej⟩ := List.getElem?_eq_some_iff.mp hj
  refine call_meets F.slot_list_index ⟨_, e, rfl⟩ F.entry_list_index (F.args_list_index_2 _ _) (MeetsSeq.list_index l _ n (.bool true) truV eqg_all j (by simpa using hlt) (by omega) (by simp [truV, ej]) (fun i hi hlt2 => ?_)) ⟨e, ?_⟩
  · have := hno i hlt2
    obtain ⟨h4, e4⟩ := List.getElem?_eq_some_iff.mp this
    simp [truV, e4]
  · exact ⟨.int (j : Nat), H, I.tok _, ⟨s.toks, rfl⟩, q⟩
/-! ### the words -/
theorem pa_strs : ∀ {xs : List Expr} {ws : List Str}, dStrs xs = some ws → PA X xs (fun σ H Q => Q (ws.map V.str) H)
  | [], ws, h => by
    cases h
    exact pa_of pa_nil fun σ H Q q => q
  | x :: r, ws, h => by
    unfold dStrs at h
    split at h
    · rename_i e; cases e
    · rename_i s j p r' e
      cases e
      obtain ⟨ws', h3, rfl⟩ := Option.map_eq_some_iff.mp h
      exact pa_of (pa_cons pe_str (pa_strs h3)) fun σ H Q q => q
    · cases h
/-- the state behind the words -/
structure StX (a : Addr) (n : Nat) (bs : List Bool) (ws : List Str) (H0 : Hp) (σ : L2.St) (H : Hp) : Prop extends StW a n bs H0 σ H where
  w : ∃ q, σ[2]? = some (some (.ref q)) ∧ H q = some (.lst (ws.map V.str))
variable {ws vs : List Str}
theorem StW.set2 {n : Nat} {H0 : Hp} {σ : L2.St} {H : Hp} {v : V} {i : Nat} (hi : 2 ≤ i) (W : StW a n bs H0 σ H) {p : Addr} {o : HO} (hp : H p = none) : StW a n bs H0 (σ.set i (some v)) (upd H p o) := by
  obtain ⟨q, e1, e2, e3⟩ := W.m
  exact ⟨by rw [List.length_set]; exact W.len, by rw [List.getElem?_set_ne (by omega)]; exact W.e, ⟨q, by rw [List.getElem?_set_ne (by omega)]; exact e1, (FrE.new hp) q _ e2, e3⟩, W.x.trans (FrE.new hp)⟩
theorem s_w1 (N : NamesW X m w) (h : dW1 w st = some ws) (hz : ws.length ≤ 1000) {H0 : Hp} :
    PS X st (fun D σ H => StW a X.N.length bs H0 σ H ∧ ∀ σ' H', StX a X.N.length bs ws H0 σ' H' → D.nx σ' H') := by
  have hl := N.l3
  unfold dW1 at h
  split at h
  · split at h
    · rename_i w' pm as pl ps z
      subst z
      refine ps_ofW (ps_set N.nd N.n2 (.inl N.l2) (pe_lst (pa_strs h)) rfl (.inr N.l2)) fun D σ H ⟨W, q2⟩ => ⟨?_, fun p hp => ?_⟩
      · rw [List.length_map]; exact Nat.le_trans hz (by rw [sizeLine_eq]; omega)
      · exact q2 _ _ ⟨W.set2 (Nat.le_refl _) hp, p, List.getElem?_set_self (by rw [W.len]; omega), upd_same⟩
    · cases h
  · cases h
theorem s_w2 (N : NamesW X m w) (h : dW2 w st = some vs) (hz : ws.length + vs.length ≤ 1000) {H0 : Hp} :
    PS X st (fun D σ H => StX a X.N.length bs ws H0 σ H ∧ ∀ σ' H', StX a X.N.length bs (ws ++ vs) H0 σ' H' → D.nx σ' H') := by
  have hl := N.l3
  unfold dW2 at h
  split at h
  · split at h
    · rename_i w' pm w2 p2 as pl po ps z
      obtain ⟨z1, z2⟩ := z
      subst z1 z2
      obtain ⟨h1, h2, h3⟩ := okNm_nm N.k2
      have hm : PE X (.Name w2 p2) (tVar 2) := pe_var N.n2 (.inl N.l2) h1 h2
      refine ps_ofW (ps_set N.nd N.n2 (.inl N.l2) (pe_op op_cat hm (pe_lst (pa_strs h))) rfl (.inr N.l2)) fun D σ H ⟨W, q2⟩ => ?_
      obtain ⟨q, e1, e2⟩ := W.w
      refine ⟨.ref q, e1, ?_, fun p hp => ?_⟩
      · rw [List.length_map]; exact Nat.le_trans (Nat.le_of_add_left_le hz) (by rw [sizeLine_eq]; omega)
      have n1 : p ≠ q := fun z => by rw [z, e2] at hp; cases hp
      refine ⟨q, p, ws.map V.str, vs.map V.str, rfl, rfl, by rw [upd_ne fun z => n1 z.symm]; exact e2, upd_same, ?_, fun r hr => ?_⟩
      · rw [List.length_map, List.length_map, sizeLine_eq]; omega
      · have W1 : StW a X.N.length bs H0 (σ.set 2 (some (.ref r))) (upd H p (.lst (vs.map V.str))) := W.toStW.set2 (Nat.le_refl _) hp
        have W2 := W1.set2 (v := .ref r) (i := 2) (o := .lst (ws.map V.str ++ vs.map V.str)) (Nat.le_refl _) hr
        rw [List.set_set] at W2
        refine q2 _ _ ⟨W2, r, List.getElem?_set_self (by rw [W.len]; omega), ?_⟩
        rw [upd_same, List.map_append]
    · cases h
  · cases h
/-- m.count(True), m.index(True) -/
theorem pe_countW (N : NamesW X m w) {x : Expr} (h : dMf "count" m x = true) {H0 : Hp} : PE X x (fun σ H Q => StW a X.N.length bs H0 σ H ∧ Q (.int (bs.countP id : Nat)) H) := by
  obtain ⟨p1, ap, j, p2, cp, rfl, hl⟩ := dMf_eq h
  obtain ⟨h1, h2, h3⟩ := okNm_nm N.k1
  have hm : PE X (.Name m p1) (tVar 1) := pe_var N.n1 (.inl N.l1) h1 h2
  refine pe_of (pe_bm (T := "list") (id := "list.count") F.plainAttrs_list F.slot_list_count F.type_list_count mt_countB hm (pa_cons pe_bl pa_nil) rfl rfl hl rfl rfl) fun σ H Q ⟨W, q⟩ => ?_
  obtain ⟨l, e1, e2, e3⟩ := W.m
  exact ⟨.ref l, e1, (.inl ⟨rfl, _, SqL.of e2⟩), l, bs, rfl, rfl, e2, q⟩
theorem pe_indexW (N : NamesW X m w) {x : Expr} (h : dMf "index" m x = true) {j : Nat} (hj : bs[j]? = some true) (hno : ∀ i, i < j → bs[i]? = some false) (h3 : j < 1000) {H0 : Hp} : PE X x (fun σ H Q => StW a X.N.length bs H0 σ H ∧ Q (.int (j : Nat)) H) := by
  obtain ⟨p1, ap, jj, p2, cp, rfl, hl⟩ := dMf_eq h
  obtain ⟨h1, h2, h3'⟩ := okNm_nm N.k1
  have hm : PE X (.Name m p1) (tVar 1) := pe_var N.n1 (.inl N.l1) h1 h2
  refine pe_of (pe_bm (T := "list") (id := "list.index") F.plainAttrs_list F.slot_list_index F.type_list_index mt_indexB hm (pa_cons pe_bl pa_nil) rfl rfl hl rfl rfl) fun σ H Q ⟨W, q⟩ => ?_
  obtain ⟨l, e1, e2, e3⟩ := W.m
  exact ⟨.ref l, e1, (.inl ⟨rfl, _, SqL.of e2⟩), l, bs, j, rfl, rfl, e2, hj, hno, h3, q⟩
/-- the if goes on -/
theorem s_if (G : ExcX X a D oe e) (N : NamesW X m w) (hu : X.A.units + 64 < cLine) (h : dIfW e m st = true) (k : KindF X D "ValueError" true) (h1 : bs.countP id = 1) {H0 : Hp} :
    PS X st (fun D σ H => StW a X.N.length bs H0 σ H ∧ D.nx σ H) := by
  obtain ⟨x, j, p1, p2, y, p3, p4, o, j2, p5, j3, p6, p7, p8, rfl, hx, hy⟩ := dIfW_eq h
  have t1 : PT X (.Compare x [.NotEq] [.Constant (.int 1) j p1] p2) _ := pt_cmpR (op_cmp hu .ne) (pe_countW (a := a) (bs := bs) (H0 := H0) N hx) pe_int rfl
  have t2 : PT X (.UnaryOp .Not y p3) _ := pt_not (pt_D (pe_is G k hy) (fun whole => by
    obtain ⟨q1, q2, q3, q4, rfl⟩ := dIs_eq hy
    rfl))
  have tt := (pw_or t1 (pw_or1 (pos := p4) t2)).pt
  refine ps_ofW (ps_if tt (pss_one (ps_ret (pe_tup (pa_cons pe_str pa_nil)))) pss_nil) fun D σ H ⟨W, q⟩ => ?_
  refine ⟨W, fun _ => False, [], [], .int (bs.countP id : Nat), .int 1, false, RD.int _, RD.int _, ?_, false, rfl, ?_⟩
  · show (eqD (.int ((bs.countP id : Nat) : Int)) (.int 1)).map (!·) = some false
    rw [h1]; rfl
  · show tNot (tTru X.K (tIs a true)) σ H (fun b H1 => if b = true then tRet (tTup (tCons (tC (V.str o)) tNil)) D σ H1 else tNext D σ H1)
    refine ⟨W.e, fun _ => False, [], [], .bool true, true, RD.bl true, rfl, ?_⟩
    exact q
/-! ### the end: the word's tuple -/
theorem at_words {ws : List Str} {j : Nat} {z : Str} (h : ws[j]? = some z) : atI (ws.map V.str) (j : Int) = some (V.str z) := by
  have hj := (List.getElem?_eq_some_iff.mp h).1
  unfold atI ixN
  rw [if_pos (by omega), if_pos (by rw [List.length_map]; omega)]
  simp only [Option.bind_some, Int.toNat_natCast, List.getElem?_map, h, Option.map_some]
theorem dMf_ix {f : Str} {x : Expr} (h : dMf f m x = true) : PlainIx x := by
  obtain ⟨p1, ap, jj, p2, cp, rfl, hl⟩ := dMf_eq h
  intro o i
  rfl
theorem s_r1 (N : NamesW X m w) (h : dR1 m w st = true) {j : Nat} (hj : bs[j]? = some true) (hno : ∀ i, i < j → bs[i]? = some false) (h3 : j < 1000) {z : Str} (hz : ws[j]? = some z) {H0 : Hp} :
    PS X st (fun D σ H => StX a X.N.length bs ws H0 σ H ∧ FinW H0 D z) := by
  obtain ⟨p1, x, p2, jj, p3, p4, rfl, hx⟩ := dR1_eq h
  obtain ⟨h1, h2, h4⟩ := okNm_nm N.k2
  have hw : PE X (.Name w p1) (tVar 2) := pe_var N.n2 (.inl N.l2) h1 h2
  refine ps_ofW (ps_ret (pe_tup (pa_cons (pe_ix ix_list hw (pe_indexW (a := a) (bs := bs) (H0 := H0) N hx hj hno h3) (dMf_ix hx)) pa_nil))) fun D σ H ⟨W, q⟩ => ?_
  obtain ⟨l, e1, e2⟩ := W.w
  refine ⟨.ref l, e1, W.toStW, l, ws.map V.str, (j : Int), .str z, rfl, rfl, SqL.of e2, at_words hz, ?_, fun p hp => ?_⟩
  · show 1 ≤ sizeLine; rw [sizeLine_eq]; omega
  · exact q _ p (W.x.trans (FrE.new hp)) upd_same
theorem s_a1 (N : NamesW X m w) {v : Str} (n3 : X.N[3]? = some v) (l3 : X.env.scope.names.lookup v = some .local) (h : dA1 m w v st = true) {j : Nat} (hj : bs[j]? = some true) (hno : ∀ i, i < j → bs[i]? = some false) (h3 : j < 1000) {z : Str} (hz : ws[j]? = some z) {H0 : Hp} :
    PS X st (fun D σ H => StX a X.N.length bs ws H0 σ H ∧ ∀ σ' H', σ'[3]? = some (some (.str z)) → FrE H0 H' → D.nx σ' H') := by
  obtain ⟨p1, p2, x, p3, p4, rfl, hx⟩ := dA1_eq h
  obtain ⟨h1, h2, h4⟩ := okNm_nm N.k2
  have hw : PE X (.Name w p2) (tVar 2) := pe_var N.n2 (.inl N.l2) h1 h2
  refine ps_ofW (ps_set N.nd n3 (.inl l3) (pe_ix ix_list hw (pe_indexW (a := a) (bs := bs) (H0 := H0) N hx hj hno h3) (dMf_ix hx)) rfl (.inr l3)) fun D σ H ⟨W, q⟩ => ?_
  obtain ⟨l, e1, e2⟩ := W.w
  refine ⟨.ref l, e1, W.toStW, l, ws.map V.str, (j : Int), .str z, rfl, rfl, SqL.of e2, at_words hz, ?_⟩
  refine q _ _ (List.getElem?_set_self ?_) W.x
  rw [W.len]
  exact (List.getElem?_eq_some_iff.mp n3).1
theorem s_r2 {v z : Str} (n3 : X.N[3]? = some v) (l3 : X.env.scope.names.lookup v = some .local) (k3 : okNm v = true) (hu : X.A.units + 64 < cLine) (h : dR2 v st = true) (hne : (z == ("text" : Str)) = false) {H0 : Hp} :
    PS X st (fun D σ H => (σ[3]? = some (some (.str z)) ∧ FrE H0 H) ∧ FinW H0 D z) := by
  obtain ⟨p1, j, p2, p3, x, p4, j2, p5, p6, p7, rfl⟩ := dR2_eq h
  obtain ⟨h1, h2, h4⟩ := okNm_nm k3
  have hv : ∀ p, PE X (.Name v p) (tVar 3) := fun p => pe_var n3 (.inl l3) h1 h2
  have t1 : PT X (.Compare (.Name v p1) [.Eq] [.Constant (.str "text") j p2] p3) _ := pt_cmpR (op_cmp hu .eq) (hv p1) pe_str rfl
  have nv : PE X x (fun _ _ _ => False) := ⟨fun _ _ _ _ _ _ q => q.elim⟩
  refine ps_ofW (ps_ret (pe_ifExp t1 nv (pe_tup (pa_cons (hv p4) pa_nil)))) fun D σ H ⟨⟨e3, x0⟩, q⟩ => ?_
  refine ⟨.str z, e3, fun _ => False, [], [], .str z, .str "text", false, RD.str _, RD.str _, ?_, false, rfl, ?_⟩
  · show eqT (.str z) (.str "text") = some false
    have : eqD (.str z) (.str "text") = some (z == ("text" : Str)) := rfl
    unfold eqT
    rw [this, hne]
  · show tTup (tCons (tVar 3) tNil) σ H D.rt
    refine ⟨.str z, e3, ?_, fun p hp => ?_⟩
    · show 1 ≤ sizeLine; rw [sizeLine_eq]; omega
    · exact q _ p (x0.trans (FrE.new hp)) upd_same
/-! ### all of the def -/
omit [LTab] in
theorem ms_mem {e m w v : Str} : ∀ {sts : List Stmt} {acc : List Str}, chkMs e m w v acc sts = true → acc.length ≤ 19 ∧ ∀ c ∈ acc, c ∈ clsAll
  | [], acc, h => by rw [chkMs] at h; cases h
  | st :: rest, acc, h => by
    rw [chkMs] at h
    split at h
    · obtain ⟨h1, h2⟩ := ms_mem h
      rw [List.length_append] at h1
      exact ⟨by omega, fun c hc => h2 c (List.mem_append_left _ hc)⟩
    · split at h
      · obtain ⟨h1, h2⟩ := ms_mem h
        rw [List.length_append] at h1
        exact ⟨by omega, fun c hc => h2 c (List.mem_append_left _ hc)⟩
      · rw [Bool.and_eq_true, decide_eq_true_eq] at h
        obtain ⟨rfl, -⟩ := h
        exact ⟨by decide, fun c hc => hc⟩
/-- which class it is: its mark alone is true -/
def markOf (c : Nat) : List Bool := clsAll.map fun y => decide (clsN.getD c "" = y)
omit [LTab] in
theorem mark_facts : ∀ c, c < 16 → (markOf c).countP id = 1 ∧ (markOf c)[c]? = some true ∧ ∀ i, i < c → (markOf c)[i]? = some false := by decide +kernel
omit [LTab] in
theorem words_text : ∀ c, c < 16 → ((wordsL.getD c "") == ("text" : Str)) = false := by decide +kernel
structure WhX (X : Cx) (a D : Addr) (oe : Obj) (c : Nat) : Prop where
  hc : c < 16
  hu : X.A.units + 64 < cLine
  cls : ∀ y ∈ clsAll, ∃ C, X.mg y = some (.ref C) ∧ PySem.W.kitOne X.K (.ref D) (.ref C) = some (decide (clsN.getD c "" = y))
  ve : X.mg "ValueError" = none ∧ PySem.W.kitOne X.K (.ref D) (.type "ValueError") = some true
  C : ExcC X.K D
  hz : Zc (.ref D) none oe
  hf : ∃ vs, oe.data = .fields vs
  hp : (a, oe) ∈ X.pn
  mi : X.mg "isinstance" = none
theorem tail_ok {e m w v : Str} {sts : List Stmt} {c : Nat} (W : WhX X a D oe c) (G : ExcX X a D oe e) (N : NamesW X m w) (n3 : v ≠ Str.empty → X.N[3]? = some v ∧ X.env.scope.names.lookup v = some .local ∧ okNm v = true) (kv : KindF X D "ValueError" true)
    (h : chkTail e m w v sts = true) {H0 : Hp} : PSs X sts (fun D σ H => StW a X.N.length (markOf c) H0 σ H ∧ FinW H0 D (wordsL.getD c "")) := by
  obtain ⟨m1, m2, m3⟩ := mark_facts c W.hc
  have hc := W.hc
  have wd : ∀ (ws vs : List Str), (ws ++ vs).take 16 = wordsL → (ws ++ vs)[c]? = some (wordsL.getD c "") := fun ws vs e => by
    have h1 : ((ws ++ vs).take 16)[c]? = (ws ++ vs)[c]? := List.getElem?_take_of_lt hc
    rw [← h1, e, List.getD_eq_getElem?_getD]
    have : c < wordsL.length := hc
    rw [List.getElem?_eq_getElem this]; rfl
  have wk : ∀ (s1 s2 : Stmt), wordsOk w s1 s2 = true → ∃ ws vs, dW1 w s1 = some ws ∧ dW2 w s2 = some vs ∧ (ws ++ vs).take 16 = wordsL ∧ ws.length + vs.length ≤ 1000 := fun s1 s2 z => by
    unfold wordsOk at z
    split at z
    · rename_i x y e1 e2
      rw [Bool.and_eq_true, decide_eq_true_eq, decide_eq_true_eq, List.length_append] at z
      exact ⟨x, y, e1, e2, z.1, z.2⟩
    · cases z
  unfold chkTail at h
  split at h
  · rename_i i w1 w2 r
    simp only [Bool.and_eq_true] at h
    obtain ⟨⟨h1, h2⟩, h3⟩ := h
    obtain ⟨ws, vs, e1, e2, e3, e5⟩ := wk _ _ h2
    refine pss_ofW (pss_cons (s_if (H0 := H0) G N W.hu h1 kv m1) (pss_cons (s_w1 (a := a) (bs := markOf c) (H0 := H0) N e1 (by omega)) (pss_cons (s_w2 (a := a) (bs := markOf c) (ws := ws) (H0 := H0) N e2 e5) (pss_one (s_r1 (a := a) (ws := ws ++ vs) (H0 := H0) N h3 m2 m3 (by omega) (wd _ _ e3)))))) fun D σ H ⟨S, q⟩ => ?_
    exact ⟨S, S, fun σ1 H1 S1 => ⟨S1, fun σ2 H2 S2 => ⟨S2, q⟩⟩⟩
  · rename_i i w1 w2 a1 r
    simp only [Bool.and_eq_true] at h
    obtain ⟨⟨⟨⟨h1, h2⟩, h3⟩, h5⟩, h6⟩ := h
    obtain ⟨ws, vs, e1, e2, e3, e5⟩ := wk _ _ h2
    obtain ⟨n3, l3, k3⟩ := n3 (of_decide_eq_true h6)
    refine pss_ofW (pss_cons (s_if (H0 := H0) G N W.hu h1 kv m1) (pss_cons (s_w1 (a := a) (bs := markOf c) (H0 := H0) N e1 (by omega)) (pss_cons (s_w2 (a := a) (bs := markOf c) (ws := ws) (H0 := H0) N e2 e5)
      (pss_cons (s_a1 (a := a) (ws := ws ++ vs) (H0 := H0) N n3 l3 h3 m2 m3 (by omega) (wd _ _ e3)) (pss_one (s_r2 (H0 := H0) n3 l3 k3 W.hu h5 (words_text c hc))))))) fun D σ H ⟨S, q⟩ => ?_
    exact ⟨S, S, fun σ1 H1 S1 => ⟨S1, fun σ2 H2 S2 => ⟨S2, fun σ3 H3 e x => ⟨⟨e, x⟩, q⟩⟩⟩⟩
  · cases h
theorem ms_ok {e m w v : Str} {c : Nat} (W : WhX X a D oe c) (G : ExcX X a D oe e) (N : NamesW X m w) (n3 : v ≠ Str.empty → X.N[3]? = some v ∧ X.env.scope.names.lookup v = some .local ∧ okNm v = true) (kv : KindF X D "ValueError" true)
    (kc : ∀ y ∈ clsAll, KindF X D y (decide (clsN.getD c "" = y))) {H0 : Hp} : ∀ {sts : List Stmt} {acc : List Str}, chkMs e m w v acc sts = true →
    PSs X sts (fun D σ H => StW a X.N.length (acc.map fun y => decide (clsN.getD c "" = y)) H0 σ H ∧ FinW H0 D (wordsL.getD c ""))
  | [], acc, h => by rw [chkMs] at h; cases h
  | st :: rest, acc, h => by
    rw [chkMs] at h
    split at h
    · rename_i cs e1
      obtain ⟨b1, b2⟩ := ms_mem h
      rw [List.length_append] at b1
      have kd : ∀ y ∈ cs, KindF X D y (decide (clsN.getD c "" = y)) := fun y hy => kc y (b2 y (List.mem_append_right _ hy))
      refine pss_ofW (pss_cons (s_m2 (a := a) (bs := acc.map fun y => decide (clsN.getD c "" = y)) (f := fun y => decide (clsN.getD c "" = y)) (H0 := H0) G N e1 kd (by rw [List.length_map]; omega)) (ms_ok (H0 := H0) W G N n3 kv kc h)) fun D σ H ⟨S, q⟩ => ?_
      exact ⟨S, fun σ' H' S' => ⟨by rw [List.map_append]; exact S', q⟩⟩
    · split at h
      · rename_i c1 e1
        obtain ⟨b1, b2⟩ := ms_mem h
        rw [List.length_append] at b1
        refine pss_ofW (pss_cons (s_ma (a := a) (bs := acc.map fun y => decide (clsN.getD c "" = y)) (f := fun y => decide (clsN.getD c "" = y)) (H0 := H0) G N e1 (kc c1 (b2 c1 (List.mem_append_right _ (List.mem_singleton.mpr rfl)))) (by rw [List.length_map]; omega)) (ms_ok (H0 := H0) W G N n3 kv kc h)) fun D σ H ⟨S, q⟩ => ?_
        exact ⟨S, fun σ' H' S' => ⟨by rw [List.map_append]; exact S', q⟩⟩
      · rw [Bool.and_eq_true, decide_eq_true_eq] at h
        obtain ⟨rfl, h2⟩ := h
        exact tail_ok W G N n3 kv h2
/-- the def's body, in the context that pins the exception -/
theorem which_ok {c : Nat} {body : List Stmt} (W : WhX X a D oe c) (h : chkWhich X.env.scope X.N body = true) :
    PSs X body (fun D σ H => (σ.length = X.N.length ∧ σ[0]? = some (some (.ref a))) ∧ FinW H D (wordsL.getD c "")) := by
  unfold chkWhich at h
  split at h
  · cases h
  · rename_i st rest
    split at h
    · rename_i e m w r eN
      simp only [Bool.and_eq_true, decide_eq_true_eq, List.all_eq_true] at h
      obtain ⟨⟨⟨⟨⟨⟨⟨⟨⟨⟨⟨⟨c1, c1'⟩, c2⟩, c3⟩, c4⟩, c5⟩, c6⟩, c7⟩, c8⟩, c9⟩, c10⟩, c11⟩, c12⟩ := h
      have G : ExcX X a D oe e := ⟨W.C, W.hz, W.hf, W.hp, by rw [eN]; rfl, c3, c4, c10, W.mi⟩
      have N : NamesW X m w := ⟨c2, c1, by rw [eN]; rfl, c8, c5, by rw [eN]; rfl, c9, c6⟩
      have kc : ∀ y ∈ clsAll, KindF X D y (decide (clsN.getD c "" = y)) := fun y hy => ⟨.inl (W.cls y hy), (c11 y (List.mem_cons_of_mem _ hy)).1, (c11 y (List.mem_cons_of_mem _ hy)).2⟩
      have kv : KindF X D "ValueError" true := ⟨.inr ⟨W.ve.1, rfl, W.ve.2⟩, (c11 _ List.mem_cons_self).1, (c11 _ List.mem_cons_self).2⟩
      have n3 : r.headD Str.empty ≠ Str.empty → X.N[3]? = some (r.headD Str.empty) ∧ X.env.scope.names.lookup (r.headD Str.empty) = some .local ∧ okNm (r.headD Str.empty) = true := fun hv => by
        cases r with
        | nil => exact (hv rfl).elim
        | cons v r =>
          have := c7 v List.mem_cons_self
          exact ⟨by rw [eN]; rfl, this.2, this.1⟩
      split at c12
      · rename_i cs e1
        obtain ⟨b1, b2⟩ := ms_mem c12
        have kd : ∀ y ∈ cs, KindF X D y (decide (clsN.getD c "" = y)) := fun y hy => kc y (b2 y hy)
        refine ⟨fun pins s σ H D0 I ⟨q1, q2⟩ => ?_⟩
        refine (pss_ofW (pss_cons (s_m1 (a := a) (f := fun y => decide (clsN.getD c "" = y)) G N e1 kd (by omega)) (ms_ok (H0 := H) W G N n3 kv kc c12)) (t' := fun D σ H' => H' = H ∧ (σ.length = X.N.length ∧ σ[0]? = some (some (.ref a))) ∧ FinW H D (wordsL.getD c "")) fun D σ H' ⟨e, q1, q2⟩ => ?_).run pins s σ H D0 I ⟨rfl, q1, q2⟩
        subst e
        exact ⟨q1, fun σ' H'' S' => ⟨S', q2⟩⟩
      · cases c12
    · cases h
end
end MF

set_option Elab.async false
set_option linter.all false
set_option maxRecDepth 100000
set_option maxHeartbeats 8000000
/-! a lambda made, handed to the def that tells of its call; that def -/
namespace MF
open PySem PySem.Spec PyProof.Rows L2 MZ
variable [LTab]

/-! ### the lambda's object is made -/
section
variable {X : Cx} {pins : List (Addr × Obj)} {σ : L2.St} {H : Hp} {s : Shared}
theorem lam_new {c P : Addr} {prm : Arguments} {e : Expr} {sc : Scope} {pos : Pos} {E : Value → Shared → Prop} {Q : Value → Shared → Prop} (I : Inv X pins σ H s) (tbl : LamX.TabB X.base X.mg c P) (hc : X.env.code = .ref c)
    (hin : (P, X.env.qual ++ "<lambda>") ∈ LTab.l) (one : ∀ z ∈ LTab.l, z.1 = P → z.2 = X.env.qual ++ "<lambda>") (tt : LamX.Tabs LTab.l H) (hd : defaultsOf prm X.env = ([], [])) (hfr : ∀ y ∈ sc.names, y.2 = .free → ∃ u, X.env.cells.lookup y.1 = some u)
    (h : ∀ (f d : Addr) (pm ctv : Value) (H1 : Hp) (s' : Shared), Inv X pins σ H1 s' → LamX.ExtN H H1 → (∀ b, H1 b = none → H b = none) → LamX.Tabs LTab.l H1 →
      s'.heap.get? f = some (PySem.W.kla_obj "<lambda>" (X.env.qual ++ "<lambda>") prm e sc (cloFrom X.env.cells sc.names []) pm d ctv) → H1 f = none → f ∉ frs X.stack → H1 d = some (LamX.CodeO d (X.env.qual ++ "<lambda>")) → Q (.ref f) s') :
    wpAny (model X.prog X.w) X.A (eval (.Lambda prm e sc pos) X.env) Q E s := by
  obtain ⟨rows, tP, okR, each⟩ := tt _ hin
  have blt : s.heap.BuiltinsAt X.mg P := (tbl.bm).keeps (I.bk)
  have cell := I.hok P _ tP
  have outside : ∀ f, s.heap.objs.size ≤ f → f ∉ frs X.stack := fun f big mem => by
    rcases List.mem_cons.mp (I.stkSub _ mem) with q | q
    · have := I.lt
      subst q
      exact absurd (Nat.lt_of_lt_of_le this big) (Nat.lt_irrefl _)
    · exact I.nofs big q
  refine PySem.W.kla_eval hd ?_
  cases known : codeAmong pos rows.toList with
  | some cv =>
    obtain ⟨d, rfl, hd2⟩ := each pos cv known
    refine PySem.W.kla_makeFunctionHit (mg := X.mg) (c := c) (P := P) (ps := rows) (closure_ok hfr) I.ok.glob (I.mod.glob.keeps I.bk) hc (tbl.code.keeps I.bk) cell okR known blt fun ctv h' tk keep grow => ?_
    refine h h'.objs.size d ((X.mg "__name__").getD .none) ctv H _ (I.kept fun b o q => Heap.get?_push_of_some _ (keep b o q)) (LamX.ExtN.refl H) (fun _ q => q) tt (Heap.get?_push_size _ rfl) (I.hok.fresh grow) (outside _ grow) hd2
  | none =>
    refine PySem.W.kla_makeFunction (mg := X.mg) (c := c) (P := P) (ps := rows) (closure_ok hfr) I.ok.glob (I.mod.glob.keeps I.bk) hc (tbl.code.keeps I.bk) cell okR known tbl.gP blt fun d ctv h' tk keep new old rec tab => ?_
    obtain ⟨d2, oc, vs, t, ed, got, dat, nam⟩ := rec
    cases ed
    have grow : s.heap.objs.size ≤ h'.objs.size := Nat.le_trans new (Nat.le_of_lt old)
    have nd : H d = none := I.hok.fresh new
    have nP : P ≠ d := ne_of_none tP nd
    have J := LamX.inv_table (q := X.env.qual ++ "<lambda>") (t' := tk) (more := #[rawInt pos.line, rawInt pos.col, .ref d]) (h' := h'.push (PySem.W.kla_obj "<lambda>" (X.env.qual ++ "<lambda>") prm e sc (cloFrom X.env.cells sc.names []) ((X.mg "__name__").getD .none) d ctv)) I tP
      (fun b o n q => Heap.get?_push_of_some _ (keep b o n q)) (Heap.get?_push_of_some _ tab) new ⟨oc, vs, t, Heap.get?_push_of_some _ got, dat, nam⟩
    have stay : LamX.ExtN H (upd (upd H P (.tbl (rows ++ #[rawInt pos.line, rawInt pos.col, .ref d]))) d (LamX.CodeO d (X.env.qual ++ "<lambda>"))) := fun b o q nt => by
      rw [upd_ne (ne_of_none q nd), upd_ne fun z => nt rows ?_]
      · exact q
      · rw [z, tP] at q; exact (Option.some.inj q).symm
    have lst : (rows ++ #[rawInt pos.line, rawInt pos.col, .ref d]).toList = rows.toList ++ [rawInt pos.line, rawInt pos.col, .ref d] := by simp
    refine h h'.objs.size d ((X.mg "__name__").getD .none) ctv _ _ J stay (fun b q => ?_) (fun z hz => ?_) (Heap.get?_push_size _ rfl) ?_ (outside _ grow) upd_same
    · by_cases b1 : b = d
      · rw [b1]; exact nd
      · rw [upd_ne b1] at q
        by_cases b2 : b = P
        · rw [b2, upd_same] at q; cases q
        · rw [upd_ne b2] at q; exact q
    · by_cases zP : z.1 = P
      · rw [one z hz zP, zP]
        refine ⟨_, by rw [upd_ne nP, upd_same], by rw [lst]; exact PySem.TriplesOk_snoc _ _ _ _ okR, fun p' u hu => ?_⟩
        rw [lst] at hu
        rcases LamX.among_app _ okR hu with y | y
        · obtain ⟨d0, y1, y2⟩ := each p' u y
          exact ⟨d0, y1, stay _ _ y2 LamX.codeO_ne⟩
        · exact ⟨d, y, upd_same⟩
      · obtain ⟨r2, y1, y2, y3⟩ := tt z hz
        refine ⟨r2, by rw [upd_ne (ne_of_none y1 nd), upd_ne zP]; exact y1, y2, fun p' u hu => ?_⟩
        obtain ⟨d0, w1, w2⟩ := y3 p' u hu
        exact ⟨d0, w1, stay _ _ w2 LamX.codeO_ne⟩
    · rw [upd_ne (Nat.ne_of_gt old), upd_ne fun z => ?_]
      · exact I.hok.fresh grow
      · have lt : P < s.heap.objs.size := Heap.lt_size (show s.heap.get? P = some _ from cell)
        have z : h'.objs.size = P := z
        rw [z] at grow
        exact absurd (Nat.lt_of_lt_of_le lt grow) (Nat.lt_irrefl _)
end
/-! ### a def called while an exception is handled, which the context pins -/
theorem run_pin {CX : CXT} {P : Program} {w : World} {K : PySem.W.Frag} {mg : Str → Option Value} {base : Heap} {f : Addr} {nm qual : Str} {prm : Arguments} {body : List Stmt} {sc : Scope} {dV kV doc pm cdv ct oc : Value} {an od : Option Addr}
    {osl : Array (Option Value)} {N ps : List Str} (lk : K.lookup f = some ⟨oc, od, .func (PySem.W.fnOf nm qual prm body sc dV kV doc pm an cdv ct), osl⟩) (cd : PySem.W.codeIn K cdv qual = true) (S : FnScope N ps sc)
    {A : Around} {outer : List Env} {s : Shared} {H : Hp} {args : Args} {us : List Value} {vs : List V} {Q : VK} {E : XK} {p : Addr × Obj} {t : TS} (deep : A.depth < recursionLimit) (pin : L2H.PinOk outer H s p) (e0 : Env0 P w K mg base A outer s H)
    (bd : BindsTo s (PySem.W.fnOf nm qual prm body sc dV kV doc pm an cdv ct) args (ps.zip us)) (rv : Vals vs us) (hl : vs.length = ps.length) (ht : PSs (L2H.cxH CX P w K mg base N qual sc f cdv A outer s H E p) body t)
    (q : t { nx := fun _ H' => Q .non H', rt := Q } (L2.start N vs) H) : codeAny (model P w) A (.call (.ref f) args) (CR CX outer P w H s Q E) s := by
  have kin : K.In s.heap := e0.mod.kin.keeps fun b o z => (e0.bs b o z).1
  have nolim : s.heap.NoLimit := e0.mod.nolimit.keeps fun b o z => (e0.bs b o z).1
  have kinds : ∀ y ∈ ps.zip us, sc.names.lookup y.1 = some .local ∨ (sc.names.lookup y.1 = some .cell ∧ ((cellsFrom (s.heap.objs.size + 1) sc.names []).lookup y.1).isSome = true) := fun y hy => by
    obtain ⟨n, v⟩ := y
    rcases S.par n (List.of_mem_zip hy).1 with z | z
    · exact .inl z
    · exact .inr ⟨z, PySem.W.cellsFrom_some _ _ _ (.inl z)⟩
  refine codeAny_call_function deep (kin _ _ lk) rfl S.co S.gen rfl (PySem.W.codeRec_of kin cd) (bd _ _ _ _ ?_)
  refine wpAny_newFunctionEnv_cells S.kind kinds fun env he s1 x => ?_
  subst he
  refine ⟨nolim.keeps x.toInCall.keep, codeAny_func ?_⟩
  have J := L2H.inv_startH (CX := CX) (E := E) S pin e0 hl rv x
  refine wpAny_mono (ht.run [] s1 (L2.start N vs) H _ J q) (fun fl s' hs => ?_) fun _ _ z => z
  have done : ∀ {σ' : L2.St} {H' : Hp} {v : V} {u : Value}, Inv (L2H.cxH CX P w K mg base N qual sc f cdv A outer s H E p) [] σ' H' s' → RelV v u → Q v H' → CE outer P w H s Q u s' := fun {σ' H' v u} J r z => ⟨v, H', J.os, J.bare, J.base, J.hok, r, z⟩
  cases fl with
  | next =>
    obtain ⟨σ', H', J2, z⟩ := hs
    exact done (v := V.non) (u := Value.none) J2 rfl z
  | ret u =>
    obtain ⟨v, σ', H', J2, r, z⟩ := hs
    exact done J2 r z
  | brk => obtain ⟨_, _, _, z⟩ := hs; exact z.elim
  | cont => obtain ⟨_, _, _, z⟩ := hs; exact z.elim
section
variable {X : Cx} {a D : Addr} {oe : Obj}
/-- which(e), in the suite that holds e -/
theorem pe_which {x e : Str} {i : Nat} {fw : Addr} {st : Stmt} {fd : FuncData} {Nw : List Str} {ew : Str} {c : Nat} {p p2 pos : Pos} (hp : (a, oe) ∈ X.pn) (deep : X.A.depth < recursionLimit) (un : X.A.units + 67 < cLine)
    (hg : Gl X x) (hm : X.mg x = some (.ref fw)) (F : FunD X.K x x (defArgs st) (defBody st) (defScope st) [] [] fw fd) (hb : Binds X.K fd [ew] []) (S : FnScope Nw [ew] (defScope st)) (ck : chkWhich (defScope st) Nw (defBody st) = true)
    (hc : c < 16) (cls : ∀ y ∈ clsAll, ∃ C, X.mg y = some (.ref C) ∧ PySem.W.kitOne X.K (.ref D) (.ref C) = some (decide (clsN.getD c "" = y))) (ve : X.mg "ValueError" = none ∧ PySem.W.kitOne X.K (.ref D) (.type "ValueError") = some true)
    (C : ExcC X.K D) (hz : Zc (.ref D) none oe) (hf : ∃ vs, oe.data = .fields vs) (mi : X.mg "isinstance" = none) (hi : X.N[i]? = some e) (hv : Vis X.env.scope e) (ke : okNm e = true) (kx : okNm x = true) :
    PE X (.Call (.Name x p) [.Name e p2] [] pos) (fun σ H Q => σ[i]? = some (some (.ref a)) ∧ ∀ H' q, FrE H H' → H' q = some (.tup [.str (wordsL.getD c "")]) → Q (.ref q) H') := by
  obtain ⟨k1, k2, -⟩ := okNm_nm ke
  obtain ⟨k3, -, -⟩ := okNm_nm kx
  refine ⟨fun pins s σ H Q I ⟨q1, q2⟩ => ?_⟩
  refine wpAny_Call_Name_kw (ld_glob I hg hm ?_ k3)
  have ha : PA X [.Name e p2] (tCons (tVar i) tNil) := pa_cons (pe_var hi hv k1 k2) pa_nil
  refine PySem.W.callWith_K (h₀ := X.base) I.ok.mod.kin F.kp (thn (ha.run pos pins s σ H (fun vs H1 => vs = [V.ref a] ∧ H1 = H) I ⟨.ref a, q1, rfl, rfl⟩) fun us s1 hh => ?_) rfl rfl
  obtain ⟨vs, H1, I1, r, ev, eH⟩ := hh
  subst ev eH
  refine ⟨I1.kIn, ?_⟩
  obtain ⟨oc, od, dV, kV, doc, pm, an, cdv, ct, osl, rfl, lk, hcd, _, _⟩ := F.ex
  have P1 := I1.pin (a, oe) (List.mem_append_left _ hp)
  have pin : L2H.PinOk X.stack H1 s1 (a, oe) := ⟨P1.1, P1.2.1, fun hm => (List.mem_cons.mp (I1.stkSub a hm)).elim P1.2.2.1 P1.2.2.2.1, P1.2.2.2.2⟩
  have len : us.length = [ew].length := by rw [← r.length]; rfl
  have b := hb s1 us I1.kIn (by rw [List.append_nil]; exact len)
  rw [List.append_nil] at b
  have W : WhX (L2H.cxH (L2.CX X.prog X.w) X.prog X.w X.K X.mg X.base Nw x (defScope st) fw cdv X.A X.stack s1 H1 (fun _ _ _ => False) (a, oe)) a D oe c :=
    ⟨hc, by show X.A.units + 3 + 64 < cLine; omega, cls, ve, C, hz, hf, by show (a, oe) ∈ [(a, oe)]; simp, mi⟩
  have run := run_pin (CX := L2.CX X.prog X.w) (E := fun _ _ _ => False) (Q := Q) (vs := [V.ref a]) lk hcd S deep pin I1.env0 b r rfl (which_ok W ck) ⟨⟨?_, ?_⟩, fun H' q x e => q2 H' q x e⟩
  · refine wpAny_call (codeAny_mono run fun r s' hq => ?_)
    cases r with
    | error e =>
      obtain ⟨_, _, _, _, _, _, _, _, _, _, _, _, z⟩ := hq
      exact z.elim
    | ok fl =>
      cases fl with
      | ret u => exact I1.after hq
      | next => exact False.elim hq
      | brk => exact False.elim hq
      | cont => exact False.elim hq
  · have hN : 1 ≤ Nw.length := by
      have := congrArg List.length S.pre
      rw [List.length_take] at this
      simp at this
      omega
    show (L2.start Nw [V.ref a]).length = Nw.length
    unfold L2.start
    simp
    omega
  · unfold L2.start
    rfl
end
/-! ### the lambda called, in the def that got it -/
theorem run_lam {X : Cx} {pins : List (Addr × Obj)} {σ : L2.St} {H : Hp} {s : Shared} {Eg : XK} {Ng : List Str} {qg : Str} {sg : Scope} {g f d : Addr} {cdg pm ctv : Value} {prm : Arguments} {e : Expr} {sc : Scope} {k i : Nat} {a : Str} {pn : List (Addr × Obj)} {xe : Value → Shared → Prop} {W : WX} {E : XK} {tb : TE} {p1 p2 : Pos}
    (I : Inv X pins σ H s) (L : LamX.LamS X.env.scope sc) (hf : s.heap.get? f = some (PySem.W.kla_obj "<lambda>" (X.env.qual ++ "<lambda>") prm e sc (cloFrom X.env.cells sc.names []) pm d ctv)) (hfn : H f = none) (hfr : f ∉ frs X.stack)
    (bind : bindArgs (PySem.W.kla_fn "<lambda>" (X.env.qual ++ "<lambda>") prm e sc (cloFrom X.env.cells sc.names []) pm (.ref d) ctv) ⟨[], []⟩ = pure [])
    (tk : Takes ((cxOf (L2.CX X.prog X.w) X.prog X.w X.K X.mg X.base Ng qg sg g cdg X.A X.stack s H Eg).tr pn xe) W) (hW : ∀ cls dd σ' H', E cls dd H' → W cls dd σ' H') (deep : (X.A.deeper (envOfC qg sg s.heap.objs.size g cdg)).depth < recursionLimit) (nh : X.A.handled = none)
    (body : ∀ (outer : List Env) (s1 : Shared) (H1 : Hp), PE (LamX.lamCx X (X.A.deeper (envOfC qg sg s.heap.objs.size g cdg)) outer s1 H1 E sc f d) e tb)
    (hN : Ng[i]? = some a) (hv : Vis sg a) (ka : okNm a = true) :
    PE ((cxOf (L2.CX X.prog X.w) X.prog X.w X.K X.mg X.base Ng qg sg g cdg X.A X.stack s H Eg).tr pn xe) (.Call (.Name a p1) [] [] p2)
      (fun σZ HZ Q => σZ[i]? = some (some (.ref f)) ∧ HZ d = some (LamX.CodeO d (X.env.qual ++ "<lambda>")) ∧ tb σ HZ Q) := by
  obtain ⟨k1, k2, -⟩ := okNm_nm ka
  refine ⟨fun pinsZ sZ σZ HZ Q IZ ⟨q1, q2, q3⟩ => ?_⟩
  refine wpAny_Call_Name_kw (thn ((pe_var (pos := p1) (i := i) hN hv k1 k2).run pinsZ sZ σZ HZ (fun v H1 => v = .ref f ∧ H1 = HZ) IZ ⟨.ref f, q1, rfl, rfl⟩) fun u s1 hh => ?_)
  obtain ⟨v, H1, I1, r1, ev, eH⟩ := hh
  subst ev eH
  obtain rfl : u = Value.ref f := r1
  have here : s1.heap.get? f = _ := I1.base.keep f _ hf hfn hfr (fun z => nomatch (show f ∈ ([] : List Addr) from z))
  refine PySem.W.callWith_F0 ⟨_, _, _, _, here⟩ ?_
  obtain ⟨⟨oc, vs, t, got, dat, nam⟩, _, _⟩ := I1.hok d _ q2
  have all : codeAny (model X.prog X.w) (X.A.deeper (envOfC qg sg s.heap.objs.size g cdg)) (.call (.ref f) ⟨[], []⟩) (CR (L2.CX X.prog X.w) (envOfC qg sg s.heap.objs.size g cdg :: X.stack) X.prog X.w H1 s1 Q E) s1 := by
    refine PySem.W.kla_callFunE deep here rfl L.co L.gen rfl ⟨d, oc, vs, t, rfl, got, dat, nam⟩ ?_
    rw [bind]
    refine wpAny_pure (wpAny_newFunctionEnv (fun y hy => (L.own y hy).2) (fun y hy => absurd hy (by simp)) (fun h₁ hns hsb => ⟨I1.nolimit.fresh _ hsb, ?_⟩) L.kind)
    show codeAny _ _ (.expr e (LamX.lamEnv X sc s1.heap.objs.size f d)) _ _
    have keep : ∀ b o, s1.heap.get? b = some o → h₁.get? b = some o := fun b o z => hsb.extBut b o (Nat.ne_of_lt (Heap.lt_size z)) (Heap.get?_push_of_some _ z)
    have J := LamX.lam_start2 (A := X.A.deeper (envOfC qg sg s.heap.objs.size g cdg)) (outer := envOfC qg sg s.heap.objs.size g cdg :: X.stack) (E := E) (f := f) (c' := d) (tk := s1.toks + ([] : List (Str × Value)).length) I L I1.env0 nh I1.base hns keep
    refine PySem.W.kla_codeExpr (wpAny_mono ((body _ s1 H1).run [] _ _ H1 Q J q3) (fun v s' z => ?_) fun _ _ z => z)
    obtain ⟨v', H', J', rv, z⟩ := z
    exact ⟨v', H', J'.os, J'.bare, J'.base, J'.hok, rv, z⟩
  have pass : Passes (L2.CX X.prog X.w) ((cxOf (L2.CX X.prog X.w) X.prog X.w X.K X.mg X.base Ng qg sg g cdg X.A X.stack s H Eg).tr pn xe) E := passes_call tk hW
  refine wpAny_call (codeAny_mono all fun r s' z => ?_)
  cases r with
  | error u => exact pass pinsZ σZ H1 s1 u s' I1 z
  | ok fl =>
    cases fl with
    | ret u => exact I1.after z
    | next => exact False.elim z
    | brk => exact False.elim z
    | cont => exact False.elim z
/-! ### all that stood stands: the relation goes on -/
section
variable {K : PySem.W.Frag} {B : Addr → Prop} {φ φ' : List Addr} {h h' : Hs} {H H' : Hp}
theorem Ext.frE (x : FrE H H') : Ext φ h H φ h H' where
  pre := ⟨[], by simp⟩
  keep := fun a o e _ _ _ _ => x a o e
  keepL := fun a xs e _ => x a _ e
  keepD := fun a l e _ => by
    rcases e with e | ⟨ob, e⟩
    · exact .inl (x _ _ e)
    · exact .inr ⟨ob, x _ _ e⟩
  keepF := fun a ob l e => x _ _ e
  new := fun _ e => .inl e
  dom := fun a e => by
    cases z : H a with
    | none => rfl
    | some o => have := x a o z; rw [e] at this; cases this
/-- what changes is no list, no dict -/
theorem RS.keptBy (S : RS K B φ h H) (X : Ext φ h H φ h H') (t : LamX.Tabs LTab.l H') (kL : ∀ a xs, H a = some (.lst xs) → H' a = some (.lst xs)) (kD : ∀ a l, H a = some (.dK l) → H' a = some (.dK l)) : RS K B φ h H' := by
  refine ⟨t, S.len, S.inj, S.nb, fun a b z => S.hb a b (X.dom a z), fun k o a e1 e2 => ?_⟩
  have q := S.ob k o a e1 e2
  cases o with
  | dead => trivial
  | lst xs =>
    obtain ⟨vs, e, r⟩ := q
    exact ⟨vs, kL _ _ e, r.kp X.kp⟩
  | dct l =>
    obtain ⟨kv, e, r⟩ := q
    exact ⟨kv, kD _ _ e, Paired.mapP r fun p q z => ⟨z.1, z.2.kp X.kp⟩⟩
theorem RS.frE (S : RS K B φ h H) (x : FrE H H') : RS K B φ h H' := S.keptBy (Ext.frE x) (S.tb.ext x) (fun a _ e => x a _ e) (fun a _ e => x a _ e)
/-- a lambda's making: the tables grow -/
theorem Ext.extN (x : LamX.ExtN H H') (dm : ∀ b, H' b = none → H b = none) : Ext φ h H φ h H' where
  pre := ⟨[], by simp⟩
  keep := fun a o e _ _ _ n => x a o e n
  keepL := fun a xs e _ => x a _ e fun _ z => nomatch z
  keepD := fun a l e _ => by
    rcases e with e | ⟨ob, e⟩
    · exact .inl (x _ _ e fun _ z => nomatch z)
    · exact .inr ⟨ob, x _ _ e fun _ z => nomatch z⟩
  keepF := fun a ob l e => x _ _ e fun _ z => nomatch z
  new := fun _ e => .inl e
  dom := dm
theorem RS.extN (S : RS K B φ h H) (x : LamX.ExtN H H') (dm : ∀ b, H' b = none → H b = none) (t : LamX.Tabs LTab.l H') : RS K B φ h H' :=
  S.keptBy (Ext.extN x dm) t (fun a _ e => x a _ e fun _ z => nomatch z) (fun a _ e => x a _ e fun _ z => nomatch z)
end
/-- what a told call answers, behind its objects' end -/
def toldC (cl : List Nat) (m : Res W) (n : Nat) : Res W := (toldR cl m).bind fun w h => fin false n (.rt w) h
/-- what is wanted of an exception that the telling def catches -/
def EQ (cl : List Nat) (ca : Nat → Addr) (Q : VK) : XK := fun cls d H' => ∃ c, c < 16 ∧ c ∈ cl ∧ cls = .ref (ca c) ∧ d = none ∧ ∀ H'' p, FrE H' H'' → H'' p = some (.tup [.str (wordsL.getD c "")]) → Q (.ref p) H''
theorem told_pg {K : PySem.W.Frag} {B : Addr → Prop} {φ : List Addr} {h : Hs} {H : Hp} {Ex : Nat → Hp → Prop} {cl : List Nat} {ca : Nat → Addr} {m : Res W} {Q : VK} (S : RS K B φ h H) (P : Pg K B φ h H Ex (toldC cl m h.length) (CV K B Q)) :
    Pg K B φ h H (fun c H' => EQ cl ca Q (.ref (ca c)) none H') m (CV K B fun v H' => ∀ p, H' p = none → Q (.ref p) (upd H' p (.tup [.str "told", v]))) := by
  cases m with
  | bad => exact P.elim
  | ok w h2 =>
    simp only [toldC, toldR] at P
    cases ef : w.frz h2 with
    | none => rw [ef] at P; exact P.elim
    | some q =>
      obtain ⟨d, h3⟩ := q
      rw [ef] at P
      intro φ' H' X2 S2 v rv p hp
      obtain ⟨S3, X3, rd⟩ := frz_ok S2 rv ef
      have X4 : Ext φ h H φ' h3 (upd H' p (.tup [.str "told", v])) := (X2.trans X3).trans (Ext.fresh hp)
      have S4 : RS K B φ' h3 (upd H' p (.tup [.str "told", v])) := S3.fresh hp
      have R4 : RD K (Mu B φ' h3) (upd H' p (.tup [.str "told", v])) (.tuple [.str "told", d]) (.ref p) := .tup (SqT.of upd_same) (.cons (.str _) (.cons (rd.kp (Ext.fresh hp).kp) .nil))
      exact P (φ'.take h.length) _ (X4.cut S) (S4.cut _) _ (.t R4.cut)
  | exc c v h2 =>
    simp only [toldC, toldR] at P
    by_cases hcl : c ∈ cl
    rotate_left
    · rw [if_neg hcl] at P; exact P.elim
    rw [if_pos hcl] at P
    cases ew : wordsL[c]? with
    | none => rw [ew] at P; exact P.elim
    | some w =>
      rw [ew] at P
      intro φ' H' X2 S2
      have hc : c < 16 := (List.getElem?_eq_some_iff.mp ew).1
      refine ⟨c, hc, hcl, rfl, rfl, fun H'' p x e => ?_⟩
      have wd : wordsL.getD c "" = w := by rw [List.getD_eq_getElem?_getD, ew]; rfl
      rw [wd] at e
      have X4 : Ext φ h H φ' h2 H'' := X2.trans (Ext.frE x)
      have S4 : RS K B φ' h2 H'' := S2.frE x
      have R4 : RD K (Mu B φ' h2) H'' (.tuple [.str w]) (.ref p) := .tup (SqT.of e) (.cons (.str _) .nil)
      exact P (φ'.take h.length) _ (X4.cut S) (S4.cut _) _ (.t R4.cut)
/-! ### what a module tells of its refusals and of the def that tells of a call -/
structure ClsF (K : PySem.W.Frag) (mg : Str → Option Value) (a : Addr) (x : Str) : Prop where
  g : mg x = some (.ref a)
  k : PySem.W.keepIn K (.ref a) = true
  e : PySem.W.excIn K a [.type "ValueError", .type "Exception", .type "BaseException", .type "object"] "ValueError.__new__" = true
  s : PySem.W.subIn K (.ref a) (.type "BaseException") = some true
  t : PySem.W.typeIn K (.ref a) = some (.type "type")
def chkTold (sc : Scope) (N : List Str) (a e w : Str) : Bool := decide (N = [a, e]) && decide (a ≠ e) && visB sc a && decide (sc.names.lookup e = some .local) && glB sc w && glB sc "MainError" && okNm a && okNm e && okNm w
structure SaidM (K : PySem.W.Frag) (mg : Str → Option Value) (ca : Nat → Addr) (cl : List Nat) : Prop where
  cls : ∀ c, c ∈ cl → ClsF K mg (ca c) (clsN.getD c "")
  main : ∃ M, mg "MainError" = some (.ref M) ∧ ∀ c, c ∈ cl → PySem.W.exmOne K (.ref (ca c)) (.ref M) = some true
  exc : ∀ c, c ∈ cl → ExcC K (ca c)
  kind : ∀ c, c ∈ cl → ∀ y ∈ clsAll, ∃ C, mg y = some (.ref C) ∧ PySem.W.kitOne K (.ref (ca c)) (.ref C) = some (decide (clsN.getD c "" = y))
  ve : mg "ValueError" = none ∧ ∀ c, c ∈ cl → PySem.W.kitOne K (.ref (ca c)) (.type "ValueError") = some true
  mi : mg "isinstance" = none
  said : ∃ (st stw : Stmt) (g fw : Addr) (fd fdw : FuncData) (N Nw : List Str) (a e w ew : Str), mg "_law_said" = some (.ref g) ∧ FunD K "_law_said" "_law_said" (defArgs st) (defBody st) (defScope st) [] [] g fd ∧ Binds K fd [a] [] ∧ FnScope N [a] (defScope st) ∧ dTold (defBody st) = some (a, e, w) ∧
    chkTold (defScope st) N a e w = true ∧ mg w = some (.ref fw) ∧ FunD K w w (defArgs stw) (defBody stw) (defScope stw) [] [] fw fdw ∧ Binds K fdw [ew] [] ∧ FnScope Nw [ew] (defScope stw) ∧ chkWhich (defScope stw) Nw (defBody stw) = true
theorem takesF {X : Cx} : Takes X (fun _ _ _ _ => False) := fun _ _ x => by
  obtain ⟨_, _, _, _, _, _, _, _, _, _, _, _, _, _, _, _, z⟩ := x
  exact z.elim
theorem room2 {j : Nat} {A : Around} (r : Room (j + 1) A) (e1 e2 : Env) : Room j ((A.deeper e1).deeper e2) :=
  ⟨r.hd, by have := r.dp; show A.depth + 1 + 1 + 3 * j + 5 < _; omega, by have := r.un; show A.units + 3 + 3 + 16 * j + 200 < _; omega⟩
/-- what the call that the lambda holds does: its arguments, then the call -/
def tLb (K : PySem.W.Frag) (ca : Nat → Addr) (ms : Ev → Hs → Res (List W)) (mc : List W → Hs → Res W) (E : XK) : TE := fun σ H Q => ∃ (B : Addr → Prop) (φ : List Addr) (env : Ev) (h : Hs), RS K B φ h H ∧ RE K φ (Mu B φ h) H env σ ∧
  Pg K B φ h H (fun _ _ => False) (ms env h) fun φ1 h1 H1 ws => ∀ vs, RWs K φ1 (Mu B φ1 h1) H1 ws vs → Pg K B φ1 h1 H1 (fun c H' => E (.ref (ca c)) none H') (mc ws h1) (CV K B Q)
/-- .. told -/
def tLt (K : PySem.W.Frag) (cl : List Nat) (ca : Nat → Addr) (Wx : WX) (ms : Ev → Hs → Res (List W)) (mc : List W → Hs → Res W) : TE := fun σ H Q => ∃ (B : Addr → Prop) (φ : List Addr) (env : Ev) (h : Hs), RS K B φ h H ∧ RE K φ (Mu B φ h) H env σ ∧
  Pg K B φ h H (fun c H' => Wx (.ref (ca c)) none σ H') (((ms env h).nox).bind fun ws h1 => toldC cl (mc ws h1) h1.length) (CV K B Q)
theorem told_pgs {K : PySem.W.Frag} {B : Addr → Prop} {φ : List Addr} {h : Hs} {H : Hp} {Ex : Nat → Hp → Prop} {cl : List Nat} {ca : Nat → Addr} {m : Res (List W)} {mc : List W → Hs → Res W} {Q : VK} (P : Pg K B φ h H Ex ((m.nox).bind fun ws h1 => toldC cl (mc ws h1) h1.length) (CV K B Q)) :
    Pg K B φ h H (fun _ _ => False) m fun φ1 h1 H1 ws => ∀ vs, RWs K φ1 (Mu B φ1 h1) H1 ws vs → Pg K B φ1 h1 H1 (fun c H' => EQ cl ca Q (.ref (ca c)) none H') (mc ws h1) (CV K B fun v H' => ∀ p, H' p = none → Q (.ref p) (upd H' p (.tup [.str "told", v]))) := by
  cases m with
  | bad => exact P.elim
  | exc c v h1 => exact False.elim P
  | ok ws h1 =>
    have P2 : Pg K B φ h H Ex (toldC cl (mc ws h1) h1.length) (CV K B Q) := P
    exact fun φ' H' X S vs _ => told_pg S (P2.rebase X)
theorem pe_said {X : Cx} {Wx : WX} {cl : List Nat} {ca : Nat → Addr} {j : Nat} {c P : Addr} {prm : Arguments} {e : Expr} {sc : Scope} {ms : Ev → Hs → Res (List W)} {mc : List W → Hs → Res W} {p lp pos : Pos} (M : SaidM X.K X.mg ca cl) (hg : Gl X "_law_said") (hc : X.env.code = .ref c) (tbl : LamX.TabB X.base X.mg c P)
    (hin : (P, X.env.qual ++ "<lambda>") ∈ LTab.l) (one : ∀ z ∈ LTab.l, z.1 = P → z.2 = X.env.qual ++ "<lambda>") (hr : Room (j + 1) X.A) (gu : X.A.guards = some []) (L : LamX.LamS X.env.scope sc) (hd : defaultsOf prm X.env = ([], []))
    (bind : ∀ (q : Str) (cl : List (Str × Addr)) (pm cv ctv : Value), bindArgs (PySem.W.kla_fn "<lambda>" q prm e sc cl pm cv ctv) ⟨[], []⟩ = pure [])
    (body : ∀ (A1 : Around) (outer : List Env) (s1 : Shared) (H1 : Hp) (E : XK) (f d : Addr), A1.guards = some [] → Room j (A1.deeper (LamX.lamEnv X sc s1.heap.objs.size f d)) → PE (LamX.lamCx X A1 outer s1 H1 E sc f d) e (tLb X.K ca ms mc E)) :
    PE X (.Call (.Name "_law_said" p) [.Lambda prm e sc lp] [] pos) (tLt X.K cl ca Wx ms mc) := by
  refine ⟨fun pins s σ H Q I ⟨B, φ, env, h, S, R, G⟩ => ?_⟩
  obtain ⟨st, stw, g, fw, fd, fdw, N, Nw, a, en, w, ew, hm, F, hb, Sg, dt, ck, hmw, Fw, hbw, Sw, ckw⟩ := M.said
  obtain ⟨oc, od, dV, kV, doc, pm0, an, cdv, ct, osl, rfl, lk, hcd, _, _⟩ := F.ex
  refine wpAny_Call_Name_kw (ld_glob I hg hm ?_ (by decide))
  refine PySem.W.callWith_K (h₀ := X.base) I.ok.mod.kin F.kp ?_ (by rfl) (by rfl)
  show wpAny _ _ (spliced ((false, eval (.Lambda prm e sc lp) X.env) :: backTo pos (starEach [] X.env))) _ _ s
  refine Calls.spliced_cons (lam_new I tbl hc hin one S.tb hd (L.has I.ok) fun f d pm ctv H1 s' I1 eN dm T1 hf hfn hfr hco => ?_)
  refine Calls.spliced_nil ⟨I1.kIn, ?_⟩
  have X1 : Ext φ h H φ h H1 := Ext.extN eN dm
  have S1 := S.extN eN dm T1
  have R1 := R.ext X1
  have G2 := told_pgs (ca := ca) (G.rebase X1)
  have rc : codeAny (model X.prog X.w) X.A (.call (.ref g) ⟨[.ref f], []⟩) (CR (L2.CX X.prog X.w) X.stack X.prog X.w H1 s' Q (fun _ _ _ => False)) s' := by
    obtain ⟨j1, p1, p2, p3, j2, p4, p5, p6, p7, p8, p9, p10, p11, p12, eb⟩ := dTold_eq dt
    unfold chkTold at ck
    simp only [Bool.and_eq_true, decide_eq_true_eq] at ck
    obtain ⟨⟨⟨⟨⟨⟨⟨⟨eN2, hne⟩, va⟩, le⟩, gw⟩, gm⟩, ka⟩, ke⟩, kw⟩ := ck
    subst eN2
    obtain ⟨Mm, hMm, hex⟩ := M.main
    refine LamX.run_ofS (CX := L2.CX X.prog X.w) (N := [a, en]) (ps := [a]) (us := [.ref f]) (vs := [.ref f]) lk hcd Sg hr I1.env0 (hb s' [.ref f] I1.kIn rfl) (.cons rfl .nil) rfl fun hr' => ?_
    rw [eb]
    refine ⟨_, pss_one (ps_try_as (X := cxOf (L2.CX X.prog X.w) X.prog X.w X.K X.mg X.base [a, en] "_law_said" (defScope st) g cdv X.A X.stack s' H1 (fun _ _ _ => False)) (c := .ref Mm) (i := 1) (n := en) (x := "MainError") (Wout := fun _ _ _ _ => False)
      (tb := fun W D σZ HZ => ∃ Ech : XK, (∀ cls dd σ' H', Ech cls dd H' → W cls dd σ' H') ∧ σZ[0]? = some (some (.ref f)) ∧ HZ d = some (LamX.CodeO d (X.env.qual ++ "<lambda>")) ∧ tLb X.K ca ms mc Ech σ HZ fun v H' => ∀ p, H' p = none → D.rt (.ref p) (upd H' p (.tup [.str "told", v])))
      (ts := fun a cls dd D σZ HZ => ∃ (c : Nat) (σ0 : L2.St), c < 16 ∧ c ∈ cl ∧ cls = .ref (ca c) ∧ dd = none ∧ σZ = σ0.set 1 (some (.ref a)) ∧ ∀ H' q, FrE HZ H' → H' q = some (.tup [.str (wordsL.getD c "")]) → D.rt (.ref q) H')
      rfl rfl (by show [a, en].Nodup; simpa using hne) rfl le ⟨glB_gl gm, by decide, .inl hMm⟩ takesF (fun W pn xe tk _ => ?_) (fun ad oe cls dd pn hz hf => ?_)), ?_⟩
    · refine ⟨fun pins s2 σ2 H2 D I2 h2 => ?_⟩
      obtain ⟨Ech, hW, q1, q2, q3⟩ := h2
      have hp := run_lam (k := j) (a := a) (i := 0) (p1 := p2) (p2 := p3) I1 L hf hfn hfr (bind _ _ _ _ _) tk hW hr'.depth hr.hd (fun outer s1 H1 => body _ outer s1 H1 Ech f d gu (room2 hr _ _)) rfl (visB_vis va) ka
      have hq := pss_one (ps_ret (pos := p5) (pe_tup (x1 := j2) (pos := p4) (pa_cons (pe_str (x := "told") (j := j1) (pos := p1)) (pa_cons hp pa_nil))))
      refine hq.run pins s2 σ2 H2 D I2 ?_
      obtain ⟨B1, φ1, env1, h1, S3, R3, P3⟩ := q3
      exact ⟨q1, q2, B1, φ1, env1, h1, S3, R3, P3.mono fun φ' h' H' ws X' S' cv vs rvs => (cv vs rvs).mono fun φ' h' H' w X' S' cv v rv => ⟨by show 2 ≤ sizeLine; decide, cv v rv⟩⟩
    · refine pss_one ⟨fun pins s2 σ2 H2 D I2 h2 => ?_⟩
      obtain ⟨c, σ0, hc, hcl, rfl, rfl, rfl, q⟩ := h2
      have hw := pe_which (X := (cxOf (L2.CX X.prog X.w) X.prog X.w X.K X.mg X.base [a, en] "_law_said" (defScope st) g cdv X.A X.stack s' H1 (fun _ _ _ => False)).suite ad ((ad, oe) :: pn)) (i := 1) (e := en) (x := w) (pos := p9) (p := p7) (p2 := p8) (oe := oe) List.mem_cons_self (by have := hr.dp; show X.A.depth + 1 < recursionLimit; omega) (by have := hr.un; show X.A.units + 3 + 67 < cLine; omega) (glB_gl gw) hmw Fw hbw Sw ckw hc (M.kind c hcl) ⟨M.ve.1, M.ve.2 c hcl⟩ (M.exc c hcl) hz hf M.mi rfl (.inl le) ke kw
      · refine (ps_ret (pos := p10) hw).run pins s2 _ H2 D I2 ⟨?_, q⟩
        have hlen := I2.len
        rw [List.length_set] at hlen
        rw [List.getElem?_set_self (by rw [hlen]; show 1 < [a, en].length; simp)]
    · exact ⟨EQ cl ca Q, fun cls dd σ' H' ⟨c, hc, hcl, e1, e2, z⟩ => ⟨true, by rw [e1]; exact hex c hcl, fun _ ad _ => ⟨c, σ', hc, hcl, e1, e2, rfl, z⟩, fun z => nomatch z⟩, rfl, hco, B, φ, env, h, S1, R1, G2⟩
  refine wpAny_call (codeAny_mono rc fun r s2 hq => ?_)
  cases r with
  | error e =>
    obtain ⟨_, _, _, _, _, _, _, _, _, _, _, _, z⟩ := hq
    exact z.elim
  | ok fl =>
    cases fl with
    | ret u => exact I1.after hq
    | next => exact False.elim hq
    | brk => exact False.elim hq
    | cont => exact False.elim hq
end MF

set_option Elab.async false
set_option linter.all false
set_option maxRecDepth 100000
set_option maxHeartbeats 8000000
/-! the context of a body -/
namespace MF
open PySem PySem.Spec PyProof.Rows L2 MZ
variable [LTab]

/-- what a body wants that hands a lambda on to the def that tells of its call -/
structure XF (ci : CI) (cf : CF) (ca : Nat → Addr) (k : Nat) (X : Cx) : Prop where
  md : SaidM X.K X.mg ca ci.cl
  tab : ci.lm = true → ∃ c P, X.env.code = .ref c ∧ LamX.TabB X.base X.mg c P ∧ (P, X.env.qual ++ "<lambda>") ∈ LTab.l ∧ ∀ z ∈ LTab.l, z.1 = P → z.2 = X.env.qual ++ "<lambda>"
  fn2 : ∀ (g : Nat) (x : Str), ci.fns[g]? = some x → (∀ ws h, cf (ci.fns.length + g) ws h = .bad) ∨ ∃ (j : Nat) (cf' : CF) (f : Addr) (fd : FuncData) (ps : List Str), k = j + 1 ∧ X.mg x = some (.ref f) ∧ PySem.W.keepIn X.K (.ref f) = true ∧ Binds X.K fd ps [] ∧
    (∀ ws h, cf' g ws h ≠ .bad → ws.length = ps.length) ∧ FG X.prog X.w X.K X.mg X.base j f fd ps (spF X.K ca cf' g ps.length) ∧ ∀ ws h, cf (ci.fns.length + g) ws h = toldC ci.cl (cf' g ws h) h.length
structure Gd (ci : CI) (cs : List D) (cf : CF) (ca : Nat → Addr) (k : Nat) (X : Cx) (Wx : WX) : Prop extends Ctx0 X where
  nd : X.N.Nodup
  room : Room k X.A
  tk : Takes X Wx
  blt : ∀ x ∈ (["len", "sum", "all", "any", "max", "min", "int", "str", "abs", "repr", "tuple", "list", "divmod", "sorted", "dict", "isinstance", "range", "enumerate", "zip", "reversed", "bool", "set"] : List Str), X.mg x = none
  fns : ∀ (i : Nat) (x : Str), ci.fns[i]? = some x → ∃ (f : Addr) (fd : FuncData) (ps : List Str), X.mg x = some (.ref f) ∧ PySem.W.keepIn X.K (.ref f) = true ∧ Binds X.K fd ps [] ∧ (∀ ws h, cf i ws h ≠ .bad → ws.length = ps.length) ∧ FG X.prog X.w X.K X.mg X.base k f fd ps (spF X.K ca cf i ps.length)
  con : ∀ (j : Nat) (x : Str) (d : D), ci.cons[j]? = some x → cs[j]? = some d → ∃ (u : Value) (v : V), X.mg x = some u ∧ RelV v u ∧ ∀ M H, RD X.K M H d v
  xf : ci.lam = true → XF ci cf ca k X

section
variable {ci : CI} {cs : List D} {cf : CF} {ca : Nat → Addr} {k : Nat} {X : Cx} {Wx : WX}
theorem f_said (G : Gd ci cs cf ca k X Wx) {f : Nat} {es : Es} {n : Str} {y : Expr} {ys : List Expr} {sc : Scope} {p p2 p3 p4 p5 : Pos} (hl : ci.lam = true) (hlm : ci.lm = true) (h1 : ci.fns.length ≤ f) (h2 : ci.fns[f - ci.fns.length]? = some n) (hL : LamX.lamSB X.env.scope sc = true)
    (hg : glB X.env.scope "_law_said" = true) (hn : glB sc n = true) (hk : okNm n = true) (hp : ∀ a ∈ y :: ys, Plain a)
    (ha : ∀ (X' : Cx) (Wx' : WX) (j : Nat), X'.K = X.K → X'.env.scope = sc → X'.N = X.N → Gd ⟨[], ci.cons, [], false⟩ cs cf ca j X' Wx' → PA X' (y :: ys) (tEs X'.K cs cf ca Wx' es)) :
    PE X (.Call (.Name "_law_said" p) [.Lambda ⟨[], [], none, [], [], none, []⟩ (.Call (.Name n p2) (y :: ys) [] p3) sc p4] [] p5) (tE X.K cs cf ca Wx (.said f es)) := by
  have F := G.xf hl
  obtain ⟨c, P, hc, tbl, hin, one⟩ := F.tab hlm
  have ef : ci.fns.length + (f - ci.fns.length) = f := by omega
  rcases F.fn2 _ n h2 with bad | ⟨j, cf', fa, fd, ps, rfl, hm, hkp, hb, har, FF, told⟩
  · refine ⟨fun pins s σ H Q I ⟨B, φ, env, h, S, R, Pp⟩ => ?_⟩
    rw [ev] at Pp
    rw [ef] at bad
    cases e : evs cs cf es env h with
    | bad => rw [e] at Pp; exact Pp.elim
    | exc c v h1 => rw [e] at Pp; exact False.elim Pp
    | ok ws h1 => rw [e] at Pp; simp only [Res.ok_nox, Res.ok_bind, bad] at Pp; exact Pp.elim
  · rw [ef] at told
    obtain ⟨n1, n2, n3⟩ := okNm_nm hk
    refine pe_of (pe_said (Wx := Wx) (ms := evs cs cf es) (mc := cf' (f - ci.fns.length)) F.md (glB_gl hg) hc tbl hin one G.room G.gu (LamX.lamS_by hL) rfl (fun _ _ _ _ _ => rfl) fun A1 outer s1 H1 E fl d gu rm => ?_) fun σ H Q ⟨B, φ, env, h, S, R, Pp⟩ => ?_
    · have G' : Gd ⟨[], ci.cons, [], false⟩ cs cf ca j (LamX.lamCx X A1 outer s1 H1 E sc fl d) (fun cls d _ H => E cls d H) :=
        { calm := rfl
          un := by
            have q := rm.un
            show A1.units + 3 + 150 < cLine
            have q : A1.units + 3 + 16 * j + 200 < cLine := q
            omega
          gu := gu
          md := G.md
          nd := G.nd
          room := rm
          tk := takes_of rfl rfl rfl rfl
          blt := G.blt
          fns := fun _ _ z => by simp at z
          con := G.con
          xf := fun z => nomatch z }
      refine pe_of (pe_callG (X := LamX.lamCx X A1 outer s1 H1 E sc fl d) FF rm gu (glB_gl (X := LamX.lamCx X A1 outer s1 H1 E sc fl d) hn) hm hkp hb G'.tk (ha _ _ j rfl rfl rfl G') n1 (star_one (hp y List.mem_cons_self)) (back_plain fun a h => hp a (List.mem_cons_of_mem _ h))) fun σ H Q ⟨B, φ, env, h, S, R, Pp⟩ => ?_
      refine ⟨B, φ, env, h, S, R, Pp.monoE (fun _ _ z => z.elim) fun φ1 h1 H1 ws _ X1 S1 z vs rvs => ?_⟩
      refine ⟨?_, B, φ1, h1, ws, S1, rvs, z vs rvs⟩
      rw [← Paired.length rvs]
      refine har ws h1 fun e => ?_
      have z2 := z vs rvs
      rw [e] at z2
      exact z2
    · rw [ev] at Pp
      simp only [told] at Pp
      exact ⟨B, φ, env, h, S, R, Pp⟩
end
end MF

set_option Elab.async false
set_option linter.all false
set_option maxRecDepth 100000
set_option maxHeartbeats 4000000
/-! a list, a tuple from its end: xs[::-1] -/
namespace MF
open PySem PySem.Spec PyProof.Rows L2 HT
variable [LTab]

theorem adj_rev (n : Nat) : Builtin.Slice.sliceAdjust none none (-1) (n : Int) = ((n : Int) - 1, -1) := by
  unfold Builtin.Slice.sliceAdjust
  simp
theorem plc_rev (n : Nat) : Builtin.Slice.slicePlaces ((n : Int) - 1) (-1) (-1) = n := by
  unfold Builtin.Slice.slicePlaces
  simp
  try omega
theorem pick_rev (xs : Array Value) : ((List.range xs.size).filterMap fun (m : Nat) => xs[(((xs.size : Int) - 1) + (m : Int) * -1).toNat]?).toArray = xs.toList.reverse.toArray := by
  congr 1
  have e : ∀ m ∈ List.range xs.size, xs[(((xs.size : Int) - 1) + (m : Int) * -1).toNat]? = xs.toList.reverse[m]? := by
    intro m hm
    have hm := List.mem_range.mp hm
    have h1 : (((xs.size : Int) - 1) + (m : Int) * -1).toNat = xs.toList.length - 1 - m := by
      rw [Array.length_toList]; omega
    rw [h1, List.getElem?_reverse (by rw [Array.length_toList]; exact hm), Array.getElem?_toList]
  have go : ∀ (l : List Value), ((List.range l.length).filterMap fun m => l[m]?) = l := by
    intro l
    have : ((List.range l.length).filterMap fun m => l[m]?) = ((List.range l.length).map fun m => l[m]?).filterMap id := by
      rw [List.filterMap_map]; rfl
    rw [this]
    have h2 : ((List.range l.length).map fun m => l[m]?) = l.map some := by
      apply List.ext_getElem
      · simp
      · intro i h1 h2
        simp at h1 ⊢
    rw [h2, List.filterMap_map]
    exact List.filterMap_some
  have h3 := go xs.toList.reverse
  rw [List.length_reverse, Array.length_toList] at h3
  have cg : ∀ {α β : Type} {f g : α → Option β} (l : List α), (∀ a ∈ l, f a = g a) → l.filterMap f = l.filterMap g := by
    intro α β f g l
    induction l with
    | nil => intro _; rfl
    | cons a l ih =>
      intro hh
      rw [List.filterMap_cons, List.filterMap_cons, hh a List.mem_cons_self, ih fun b hb => hh b (List.mem_cons_of_mem _ hb)]
  rw [cg _ e, h3]
section
variable {prog : Program} {w : World} {A : Around} {E : Value → Shared → Prop} {s : Shared}
theorem applied_rev {sl : Addr} {vl vu vs : Value} {n : Nat} {Q : Int × Int × Nat → Shared → Prop} (hsl : s.heap.IsSliceOf sl vl vu vs) (pl : IsPart vl none) (pu : IsPart vu none) (ps : IsPart vs (some (-1)))
    (hq : Q ((n : Int) - 1, -1, n) s) : wpAny (model prog w) A (Builtin.Slice.sliceApplied (.ref sl) (pure (n : Int))) Q E s := by
  obtain ⟨ob, hob, hco, hdo⟩ := id hsl
  unfold Builtin.Slice.sliceApplied Builtin.Slice.sliceFields
  refine wpAny_bind (wpAny_bind (wpAny_field hob hdo (x := vl) rfl (wpAny_bind (wpAny_field hob hdo (x := vu) rfl (wpAny_bind (wpAny_field hob hdo (x := vs) rfl (wpAny_pure ?_)))))))
  refine wpAny_bind (HT.slicePart_ ps ?_)
  show wpAny _ _ (if ((-1 : Int) == 0) = true then _ else _) _ _ s
  rw [if_neg (by decide)]
  refine wpAny_bind (HT.slicePart_ pl (wpAny_bind (HT.slicePart_ pu (wpAny_bind (wpAny_pure ?_)))))
  show wpAny _ _ (match Builtin.Slice.sliceAdjust none none (-1) (n : Int) with | (lo, hi) => pure (lo, (-1 : Int), Builtin.Slice.slicePlaces lo hi (-1))) _ _ s
  rw [adj_rev n]
  show wpAny _ _ (pure ((n : Int) - 1, (-1 : Int), Builtin.Slice.slicePlaces ((n : Int) - 1) (-1) (-1))) _ _ s
  rw [plc_rev]
  exact wpAny_pure hq
theorem getItem_tuple_rev {t sl : Addr} {items : Array Value} {vl vu vs : Value} {Q : Value → Shared → Prop} (ht : IsTup s.heap t items) (hsl : s.heap.IsSliceOf sl vl vu vs) (pl : IsPart vl none) (pu : IsPart vu none) (ps : IsPart vs (some (-1)))
    (hq : Q (.ref s.heap.objs.size) { s with heap := s.heap.push { cls := .type "tuple", data := .seq items.toList.reverse.toArray } })
    (hsz : items.size ≤ sizeLine) : wpAny (model prog w) A (getItem (.ref t) (.ref sl)) Q E s := by
  have hfit : sizeOk (.seq items.toList.reverse.toArray) := by
    show items.toList.reverse.toArray.size ≤ sizeLine
    rw [List.size_toArray, List.length_reverse, Array.length_toList]
    exact hsz
  obtain ⟨ob, hob, hco, hdo⟩ := id hsl
  have hSl : s.TypeIs (.ref sl) "slice" := ⟨ob, hob, hco⟩
  unfold getItem
  try with_reducible refine wpAny_holding ?_
  first | refine wpAny_bind (wpAny_pure ?_) | skip
  refine wpAny_bind (wpAny_sequenceKey ht.typeIs (by decide) ?_)
  refine wpAny_bind (wpAny_callSpecial?_slot (name := Str.ofString "__getitem__") ht.typeIs PyProof.Rows.slot_tuple_getitem
    (wpAny_call_entry PyProof.Rows.slot_tuple_getitem ht.typeIs entry_tuple_getitem ?_ (args_tuple_getitem _ _)))
  show wpAny _ _ (Builtin.Tuple.tupleItemsOf (.ref t) >>= _) _ _ s
  refine wpAny_bind (tupleItemsOf_ ht ?_)
  refine wpAny_bind (wpAny_typeOf hSl ?_)
  rw [if_pos (by decide)]
  refine wpAny_bind (applied_rev hsl pl pu ps ?_)
  have hno : ¬ ((((items.size : Int) - 1) == 0 && (-1 : Int) == 1 && items.size == items.size) = true) := by
    intro q
    rw [Bool.and_eq_true, Bool.and_eq_true] at q
    exact absurd q.1.2 (by decide)
  show wpAny _ _ (if (((items.size : Int) - 1) == 0 && (-1 : Int) == 1 && items.size == items.size) = true then _ else _) _ _ s
  rw [if_neg hno, pick_rev]
  first
    | exact wpAny_bind (m := Builtin.Tuple.tupleExact _) (wpAny_newObj_type (wpAny_pure ⟨_, rfl, wpAny_pure hq⟩) hfit)
    | exact wpAny_bind (m := Builtin.Tuple.tupleExact _) (wpAny_newObj_type (wpAny_bind (wpAny_pure (wpAny_pure ⟨_, rfl, wpAny_pure hq⟩))) hfit)
    | exact wpAny_bind (wpAny_bind (m := Builtin.Tuple.tupleExact _) (wpAny_newObj_type (wpAny_pure (wpAny_pure ⟨_, rfl, wpAny_pure hq⟩)) hfit))
    | exact wpAny_bind (wpAny_bind (m := Builtin.Tuple.tupleExact _) (wpAny_newObj_type (wpAny_pure ⟨_, rfl, wpAny_pure hq⟩) hfit))
end
def tRevD (K : PySem.W.Frag) (te : TE) : TE := fun σ H Q => te σ H fun x H1 => ∃ (B : Addr → Prop) (φ : List Addr) (h : Hs) (d r : D), RS K B φ h H1 ∧ RP K (Mu B φ h) H1 d x ∧ revD d = some r ∧ Yd K B φ h H1 r Q
theorem pe_revD {X : Cx} {e : Expr} {te : TE} {k : Nat} {p1 p2 p3 pos : Pos} (he : PE X e te) : PE X (.Subscript e (.Slice none none (some (.UnaryOp .USub (.Constant (.int 1) k p1) p2)) p3) pos) (tRevD X.K te) := by
  refine ⟨fun pins s σ H Q I h => ?_⟩
  refine Subscript_ (thn (he.run pins s σ H _ I h) fun v s1 ⟨x, H1, I1, r1, B, φ, hh, d, r, S, p, eq, yd⟩ => ?_)
  have hst : PO X (some (.UnaryOp .USub (.Constant (.int 1) k p1) p2)) (tPart (tUn (rU fun i => .int (-i)) (tC (.int 1)))) := po_some (pe_un un_neg pe_int)
  refine wpAny_Slice (thn (po_none.run pins s1 σ H1 (fun o H2 => o = none ∧ H2 = H1) I1 ⟨rfl, rfl⟩) fun vl s2 ⟨l, H2, I2, pl, el, e2⟩ => ?_)
  subst el e2
  refine thn (po_none.run pins s2 σ H2 (fun o H3 => o = none ∧ H3 = H2) I2 ⟨rfl, rfl⟩) fun vu s3 ⟨u, H3, I3, pu, eu, e3⟩ => ?_
  subst eu e3
  refine thn (hst.run pins s3 σ H3 (fun o H4 => o = some (-1) ∧ H4 = H3) I3 ⟨1, rfl, -1, rfl, rfl, rfl⟩) fun vs s4 ⟨o, H4, I4, ps, eo, e4⟩ => ?_
  subst eo e4
  have I5 : Inv X pins σ H4 { s4 with heap := s4.heap.push { cls := .type "slice", data := .fields #[vl, vu, vs] } } := I4.kept (t' := s4.toks) fun b ob q => Heap.get?_push_of_some _ q
  cases d <;> simp only [revD] at eq <;> try (cases eq)
  · obtain ⟨a, ws, rfl, h1, d1⟩ := p
    obtain rfl := MZ.ref_v r1
    obtain ⟨its, rv, ht, hz⟩ := I5.list (SqL.of h1)
    have hlen := rv.length
    show wpAny (model X.prog X.w) X.A (subscriptTail e (.Slice none none (some (.UnaryOp .USub (.Constant (.int 1) k p1) p2)) p3) (.ref a) (.ref s4.heap.objs.size)) (EP X pins σ Q) X.xe { s4 with heap := s4.heap.push { cls := .type "slice", data := .fields #[vl, vu, vs] } }
    refine tail_any (ops := [.ref a, .ref s4.heap.objs.size]) ht.isList.typeIs (PySem.slot_list_getitem.lookup) ?_ (by with_unfolding_all rfl)
    refine wpAny_getItem_list_slice ht.isList (Heap.IsSliceOf.new _ vl vu vs) pl pu ps (by decide) ?_ (by rw [List.size_toArray]; omega)
    rw [PySem.W.krv_pick]
    refine ⟨.ref _, _, I5.laid (t' := s4.toks) (o := .lst ws.reverse) (fun b ob q => Heap.get?_push_of_some _ q) (Nat.le_refl _) ?_, rfl, yd.lst S d1.rev _ (I5.hok.fresh (Nat.le_refl _))⟩
    exact ⟨by rw [List.length_reverse]; exact hz, _, 0, rv.reverse, Heap.get?_push_size _ rfl⟩
  · obtain ⟨a, ws, rfl, h1, d1⟩ := p.tup
    obtain rfl := MZ.ref_v r1
    obtain ⟨its, rv, ht, hz⟩ := I5.tuple h1
    have hlen := rv.length
    show wpAny (model X.prog X.w) X.A (subscriptTail e (.Slice none none (some (.UnaryOp .USub (.Constant (.int 1) k p1) p2)) p3) (.ref a) (.ref s4.heap.objs.size)) (EP X pins σ Q) X.xe { s4 with heap := s4.heap.push { cls := .type "slice", data := .fields #[vl, vu, vs] } }
    refine tail_any (ops := [.ref a, .ref s4.heap.objs.size]) ht.typeIs (PyProof.Rows.slot_tuple_getitem.lookup) ?_ (by with_unfolding_all rfl)
    refine getItem_tuple_rev ht (Heap.IsSliceOf.new _ vl vu vs) pl pu ps ?_ (by rw [List.size_toArray]; omega)
    refine ⟨.ref _, _, I5.laid (t' := s4.toks) (o := .tup ws.reverse) (fun b ob q => Heap.get?_push_of_some _ q) (Nat.le_refl _) ?_, rfl, yd.tup S d1.rev _ (I5.hok.fresh (Nat.le_refl _))⟩
    exact ⟨by rw [List.length_reverse]; exact hz, _, rv.reverse, IsTup.new _ _⟩
end MF

set_option Elab.async false
set_option linter.all false
set_option maxRecDepth 100000
set_option maxHeartbeats 4000000
/-! dicts: locked for a walk by pairs; a list of the values, the least value -/
namespace MF
open PySem PySem.Spec PyProof.Rows L2

section
variable {X : Cx}
/-! ### a dict that will not change any more is locked -/
def tLockD (t : TE) : TE := fun σ H Q => t σ H fun v H1 => ∃ (d : Addr) (kvs : List (Key × V)), v = .ref d ∧ Rd H1 d (.dK kvs) ∧ (kvs.length ≤ sizeLine → (∃ o, H1 d = some (.frz o (.dK kvs)) ∧ Q v H1) ∨ (H1 d = some (.dK kvs) ∧ ∀ o, Q v (upd H1 d (.frz o (.dK kvs)))))
theorem pe_lockD {e : Expr} {t : TE} (h : PE X e t) : PE X e (tLockD t) := by
  refine ⟨fun pins s σ H Q I hw => thn (h.run pins s σ H _ I hw) fun v s1 got => ?_⟩
  obtain ⟨x, H1, I1, r, d, kvs, ex, hd, q⟩ := got
  obtain ⟨hz, _⟩ := dk_rd I1.hok hd
  rcases q hz with ⟨o, _, q⟩ | ⟨ho, q⟩
  · exact ⟨x, H1, I1, r, q⟩
  · obtain ⟨od, I2⟩ := I1.lock ho trivial
    exact ⟨x, _, I2, r, q od⟩
/-! ### values -/
/-- what o.values() makes -/
def AtVals (X : Cx) (pins : List (Addr × Obj)) (σ : L2.St) (Fin : List (Key × V) → Hp → Prop) (v : Value) (s1 : Shared) : Prop :=
  ∃ (r d : Addr) (kvs : List (Key × V)) (vs : List (Key × Value)) (ep : Nat) (H1 : Hp), v = .ref r ∧ s1.heap.IsValuesView r d ∧ s1.heap.DictAt (mixKind X.prog X.w) d vs ep ∧ (KV kvs vs ∧ kvs.length ≤ sizeLine) ∧ Inv X pins σ H1 s1 ∧ Fin kvs H1
variable {o : Expr} {p pos apos mpos : Pos} {td : TE}
theorem step_vals (ho : PE X o td) (base : attributeBase o "values" X.env (eval o X.env) = eval o X.env) (line : (apos.endLine == mpos.line) = true)
    {pins : List (Addr × Obj)} {s : Shared} {σ : L2.St} {H : Hp} {Fin : List (Key × V) → Hp → Prop} (I : Inv X pins σ H s) (h : td σ H fun x H1 => ∃ (d : Addr) (kvs : List (Key × V)), x = .ref d ∧ Rd H1 d (.dK kvs) ∧ Fin kvs H1) :
    wpAny (model X.prog X.w) X.A (eval (.Call (.Attribute o "values" apos) [] [] mpos) X.env) (AtVals X pins σ Fin) X.xe s := by
  refine wpAny_Call_method (T := "dict") (id := "dict.values") base rfl line F.plainAttrs_dict F.slot_dict_values F.type_dict_values (thn (ho.run pins s σ H _ I h) fun u s1 got => ?_)
  obtain ⟨x, H1, J, rx, d, kvs, ex, hd, fin⟩ := got
  subst ex
  cases rx
  obtain ⟨hz, hs, vs, kv, dof⟩ := dk_rd J.hok hd
  obtain ⟨ep, at0⟩ := dof.dictAt
  refine ⟨dof.typeIs, dof.mapOf.noDict, ?_⟩
  show wpAny _ _ (callWith mpos (.builtin "dict.values") [.ref d] [] []) _ X.xe s1
  refine method_meetsIn F.slot_dict_values F.entry_dict_values rfl (PySem.evalArgs_none ⟨rfl, dof.typeIs, F.args_dict_values_1 _, _, meets_dict_values (mixKind X.prog X.w) d hs, ⟨vs, dof⟩, ?_⟩)
  exact ⟨_, d, kvs, vs, ep, H1, rfl, ⟨_, Heap.get?_push_size _ rfl, rfl, rfl⟩, at0.push _, ⟨kv, hz⟩, J.kept (t' := s1.toks) (fun b ob q => Heap.get?_push_of_some _ q), fin⟩
theorem kv_vals : ∀ {kvs : List (Key × V)} {vs : List (Key × Value)}, KV kvs vs → Vals (kvs.map (·.2)) (vs.map (·.2))
  | [], [], _ => .nil
  | p :: l, q :: m, .cons r t => .cons r.2 (kv_vals t)
/-- list(o.values()) -/
def tLVals (td : TE) : TE := fun σ H Q => td σ H fun x H1 => ∃ (d : Addr) (kvs : List (Key × V)), x = .ref d ∧ Rd H1 d (.dK kvs) ∧ ∀ q, H1 q = none → Q (.ref q) (upd H1 q (.lst (kvs.map (·.2))))
theorem pe_lvals (calm : X.calm = true) (gl : Gl X "list") (ml : X.mg "list" = none) (ho : PE X o td) (base : attributeBase o "values" X.env (eval o X.env) = eval o X.env) (line : (apos.endLine == mpos.line) = true)
    (one : starEach [Expr.Call (.Attribute o "values" apos) [] [] mpos] X.env = (false, eval (.Call (.Attribute o "values" apos) [] [] mpos) X.env) :: starEach [] X.env := by rfl) :
    PE X (.Call (.Name "list" p) [.Call (.Attribute o "values" apos) [] [] mpos] [] pos) (tLVals td) := by
  refine ⟨fun pins s σ H Q I h => ?_⟩
  refine Call_ (ld_blt I gl ml boot_list (PyProof.Rows.callWith_type1 (args_cons (thn (step_vals ho base line I h) fun v s1 got => args_nil ?_) one) one))
  obtain ⟨r, d, kvs, vs, ep, H1, ev, view, at0, ⟨kv, hz⟩, J, q⟩ := got
  subst ev
  have ln : kvs.length = vs.length := Paired.length kv
  refine PySem.W.kdl_call (PySem.W.kdl_values (knd := mixKind X.prog X.w) (r := r) (d := d) (kvs := vs) (ep := ep)) (J.ok.hd calm) ⟨view, at0⟩ (by omega) fun h' tk got cap keep eS items => ?_
  have es : got.toList = vs.map (·.2) := PySem.W.kdl_vals_eq _ (by rw [Array.length_toList]; exact items.1) fun j v e => items.2 j v (by rw [← Array.getElem?_toList]; exact e)
  refine ⟨.ref s1.heap.objs.size, upd H1 s1.heap.objs.size (.lst (kvs.map (·.2))), J.laid keep (Nat.le_refl _) (show ObjOk X.prog X.w _ _ _ (.lst (kvs.map (·.2))) from ⟨by rw [List.length_map]; exact hz, got.toList, cap, by rw [es]; exact kv_vals kv, ?_⟩), rfl, q _ (J.hok.fresh (Nat.le_refl _))⟩
  rw [Array.toArray_toList]
  exact eS
/-- min(o.values()) -/
def tMinV (td : TE) : TE := fun σ H Q => td σ H fun x H1 => ∃ (d : Addr) (kvs : List (Key × V)), x = .ref d ∧ Rd H1 d (.dK kvs) ∧ ∃ n r, kvs.map (·.2) = ((n :: r).map V.int) ∧ Q (.int (minI n r)) H1
theorem ints_at : ∀ {ns : List Int} {us : List Value}, Vals (ns.map V.int) us → ∀ {i : Nat} {v : Value}, us[i]? = some v → ∃ t, v = .int (ns.getD i 0) t
  | [], _, .nil, _, _, e => by simp at e
  | n :: ns, _, .cons ⟨t, e1⟩ r, 0, v, e => by
    simp at e
    subst e
    exact ⟨t, e1⟩
  | n :: ns, _, .cons _ r, i + 1, v, e => by
    obtain ⟨t, e2⟩ := ints_at r (i := i) (v := v) (by simpa using e)
    exact ⟨t, by rw [e2]; simp⟩
theorem pe_minV (calm : X.calm = true) (gm : Gl X "min") (mm : X.mg "min" = none) (ho : PE X o td) (base : attributeBase o "values" X.env (eval o X.env) = eval o X.env) (line : (apos.endLine == mpos.line) = true)
    (one : starEach [Expr.Call (.Attribute o "values" apos) [] [] mpos] X.env = [(false, eval (Expr.Call (.Attribute o "values" apos) [] [] mpos) X.env)] := by rfl) :
    PE X (.Call (.Name "min" p) [.Call (.Attribute o "values" apos) [] [] mpos] [] pos) (tMinV td) := by
  refine ⟨fun pins s σ H Q I h => ?_⟩
  have key := step_vals ho base line I h
  refine wpAny_Call_Name_kw (ld_blt I gm mm (u := .builtin "min") boot_min ?_ (by first | decide +kernel | decide) (by first | decide +kernel | decide))
  rw [one]
  refine PySem.callWith_builtin1 (thn key fun v s1 got => ?_)
  obtain ⟨x, a, kv, ws, ep, H1, ev, view, at0, ⟨rel, hz⟩, J, n, r, hk, q⟩ := got
  subst ev
  have vl := kv_vals rel
  rw [hk] at vl
  have ln : ws.length = r.length + 1 := by
    have := congrArg List.length hk
    have l2 : kv.length = ws.length := Paired.length rel
    simp at this
    omega
  have vals : ∀ (i : Nat) (v : Value), (∃ k, ws[i]? = some (k, v)) → ∃ t, v = Value.int ((n :: r).getD i 0) t := by
    rintro i v ⟨k, e⟩
    exact ints_at vl (by rw [List.getElem?_map, e]; rfl)
  have old : a < s1.heap.objs.size := at0.lt_size
  have walk := Walks.dictValues (knd := mixKind X.prog X.w) (A := X.A.in1) (I.ok.hd calm) s1.heap.objs.size a (Nat.ne_of_lt old) ws ep
  refine call_min_walk (wpAny_pyIter_values view at0 ⟨_, _, _, _, _, _, _, rfl, walk, ⟨⟨_, Heap.get?_push_size _ rfl, rfl, rfl⟩, at0.push _⟩, ?_, ?_, CmpOf.ints_lt (fun i => (n :: r).getD i 0) vals, ?_⟩)
  · intro b hb
    show b < (s1.heap.push _).objs.size
    rw [Heap.size_push]
    simp only [List.mem_cons, List.not_mem_nil, or_false] at hb
    exact hb.elim (fun e => e ▸ Nat.lt_succ_self _) fun e => e ▸ Nat.lt_succ_of_lt old
  · omega
  · intro v h' tk hp hkeep
    obtain ⟨t, rfl⟩ := vals _ v hp
    obtain ⟨c1, c2⟩ := argBest_lt (fun i => (n :: r).getD i 0) (ws.length - 1)
    have eqm : (n :: r).getD (argBest (fun i j => decide ((n :: r).getD i 0 < (n :: r).getD j 0)) (ws.length - 1)) 0 = minI n r := by
      obtain ⟨g1, g2⟩ := minI_spec r n
      refine Int.le_antisymm ?_ (g2 _ ?_)
      · obtain ⟨i, hi, ei⟩ := List.mem_iff_getElem.mp g1
        have e3 : (n :: r).getD i 0 = minI n r := by rw [List.getD_eq_getElem?_getD, List.getElem?_eq_getElem hi, ei]; rfl
        rw [← e3]
        exact c2 i (by simp at hi; omega)
      · have hb : argBest (fun i j => decide ((n :: r).getD i 0 < (n :: r).getD j 0)) (ws.length - 1) < (n :: r).length := by rw [List.length_cons]; omega
        rw [List.getD_eq_getElem?_getD, List.getElem?_eq_getElem hb]
        exact List.getElem_mem hb
    refine ⟨.int (minI n r), H1, J.kept (t' := tk) (fun b u e => hkeep b u (fun z => ?_) (Heap.get?_push_of_some _ e)), ⟨t, by rw [eqm]⟩, q⟩
    exact Nat.lt_irrefl _ ((List.mem_singleton.mp z) ▸ Heap.lt_size e)
end
end MF

set_option Elab.async false
set_option linter.all false
set_option maxRecDepth 100000
set_option maxHeartbeats 4000000
/-! a zip of two while the tuple that it gave out may be held: enumerate(zip(..)), list(zip(..)) -/
namespace MZ
open PySem PySem.Spec PyProof.Rows L2

section
variable {prog : Program} {w : World} {A : Around} {E : Value → Shared → Prop} {s : Shared} {z TI TO : Addr} {t1 t2 : Sub} {i : Nat} {a1 a2 : Array Value}
/-- the zip behind i turns, whatever became of what it gave out -/
structure ZG (h : Heap) (z TI TO : Addr) (t1 t2 : Sub) (i : Nat) : Prop where
  zp : ∃ f0 fb, IsZh h z TI TO f0 fb ∧ (f0 = .none ∨ ∃ T : Addr, f0 = rawInt T)
  ti : TupAt h TI [.ref t1.I, .ref t2.I]
  to : ∃ vs : List Value, vs.length = 2 ∧ TupAt h TO vs
  i1 : IterK t1.k h t1.I t1.a i
  i2 : IterK t2.k h t2.I t2.a i
theorem ZG.keep {h h' : Heap} (x : ZG h z TI TO t1 t2 i) (k : ∀ b, (b = z ∨ b = TI ∨ b = TO ∨ b = t1.I ∨ b = t2.I) → ∀ o, h.get? b = some o → h'.get? b = some o) : ZG h' z TI TO t1 t2 i :=
  ⟨let ⟨f0, fb, e, r⟩ := x.zp; ⟨f0, fb, k z (.inl rfl) _ e, r⟩, k TI (.inr (.inl rfl)) _ x.ti, let ⟨vs, h1, h2⟩ := x.to; ⟨vs, h1, k TO (.inr (.inr (.inl rfl))) _ h2⟩, x.i1.at fun o e => k t1.I (.inr (.inr (.inr (.inl rfl)))) o e, x.i2.at fun o e => k t2.I (.inr (.inr (.inr (.inr rfl)))) o e⟩
theorem two_subs {P : Sub → Prop} (h1 : P t1) (h2 : P t2) : ∀ t ∈ [t1, t2], P t := fun t ht => by
  simp only [List.mem_cons, List.not_mem_nil, or_false] at ht
  rcases ht with rfl | rfl
  · exact h1
  · exact h2
/-- one turn while it is held -/
theorem held_item {x y : Value} {T : Addr} {fb : Bool} {oT : Obj} {Q : Value → Shared → Prop} (ok : ZOk z TI TO [t1, t2]) (hz : IsZh s.heap z TI TO (rawInt T) fb) (hT : s.heap.get? T = some oT) (zg : ZG s.heap z TI TO t1 t2 i)
    (q1 : SeqK t1.k s.heap t1.a a1) (q2 : SeqK t2.k s.heap t2.a a2) (hx : a1[i]? = some x) (hy : a2[i]? = some y)
    (hQ : ∀ h' tk, ZG h' z TI TO t1 t2 (i + 1) → TupAt h' s.heap.objs.size [x, y] → h'.objs.size = s.heap.objs.size + 1 → (∀ c o, c ≠ z → c ≠ TO → c ≠ t1.I → c ≠ t2.I → s.heap.get? c = some o → h'.get? c = some o) → Q (.ref s.heap.objs.size) { s with heap := h', toks := tk }) :
    wpAny (model prog w) A (Builtin.«zip.__next__» ⟨[.ref z], []⟩) (fun fin s' => ∃ v, fin = .done (.ret v) ∧ Q v s') E s := by
  have m1 : t1 ∈ [t1, t2] := List.mem_cons_self
  have m2 : t2 ∈ [t1, t2] := List.mem_cons_of_mem _ List.mem_cons_self
  have n12 : t1.I ≠ t2.I := fun e => by
    have := ok.nd
    simp [e] at this
  show wpAny _ _ (field (.ref z) 2 >>= _) _ _ s
  refine wpAny_bind (wpAny_field hz rfl (x := .bool false) rfl ?_)
  show wpAny _ _ (field (.ref z) 3 >>= _) _ _ s
  refine wpAny_bind (wpAny_field hz rfl (x := .ref TI) rfl (wpAny_bind (wpAny_seqItems zg.ti rfl ?_)))
  show wpAny _ _ (Builtin.SmallTypes.ownedTupleIsFree (.ref z) >>= _) _ _ s
  refine wpAny_bind (PySem.wpAny_tupleHeld_zip hz hT fun g1 z1 b1 => ?_)
  rw [if_neg Bool.false_ne_true]
  refine wpAny_bind ?_
  rw [← Array.forIn_toList]
  show wpAny _ _ (forIn [Value.ref t1.I, Value.ref t2.I] _ _) _ _ _
  simp only [List.forIn_cons, List.forIn_nil]
  refine wpAny_bind (wpAny_bind (wpAny_holding ?_))
  show wpAny _ _ (Builtin.SmallTypes.nextOf (.ref t1.I) >>= _) _ _ { s with heap := g1 }
  refine wpAny_bind (next_k (s := { s with heap := g1 }) (zg.i1.at fun o e => b1.extBut _ o (ok.Iz m1) e) (q1.at fun o e => b1.extBut _ o (ok.az m1) e) hx fun g2 tk2 j1 b2 => wpAny_pure (wpAny_pure ?_))
  refine wpAny_bind (wpAny_bind (wpAny_holding ?_))
  show wpAny _ _ (Builtin.SmallTypes.nextOf (.ref t2.I) >>= _) _ _ { s with heap := g2, toks := tk2 }
  refine wpAny_bind (next_k (s := { s with heap := g2, toks := tk2 }) (zg.i2.at fun o e => b2.extBut _ o n12.symm (b1.extBut _ o (ok.Iz m2) e)) (q2.at fun o e => b2.extBut _ o (ok.ne _ m2 _ m1) (b1.extBut _ o (ok.az m2) e)) hy fun g3 tk3 j2 b3 => wpAny_pure (wpAny_pure (wpAny_pure ?_)))
  show wpAny _ _ (newTuple [x, y] >>= _) _ _ { s with heap := g3, toks := tk3 }
  refine wpAny_bind (wpAny_newTuple (wpAny_pure ⟨_, rfl, ?_⟩))
  have sz : g3.objs.size = s.heap.objs.size := by rw [b3.1, b2.1, b1.1]
  have kp : ∀ c o, c ≠ z → c ≠ t1.I → c ≠ t2.I → s.heap.get? c = some o → g3.get? c = some o := fun c o c1 c2 c3 e => b3.extBut _ o c3 (b2.extBut _ o c2 (b1.extBut _ o c1 e))
  have z3 : IsZh g3 z TI TO (rawInt T) true := b3.extBut _ _ (ok.Iz m2).symm (b2.extBut _ _ (ok.Iz m1).symm z1)
  show Q (.ref g3.objs.size) _
  have tp : TupAt (g3.push { cls := .type "tuple", data := .seq #[x, y] }) g3.objs.size [x, y] := Heap.get?_push_size _ rfl
  have z4 : (g3.push { cls := .type "tuple", data := .seq #[x, y] }).objs.size = g3.objs.size + 1 := Heap.size_push ..
  rw [sz] at tp z4 ⊢
  have up : ∀ c o, g3.get? c = some o → (g3.push { cls := .type "tuple", data := .seq #[x, y] }).get? c = some o := fun c o e => Heap.get?_push_of_some _ e
  refine hQ _ _ ⟨⟨_, _, up _ _ z3, .inr ⟨T, rfl⟩⟩, up _ _ (kp _ _ ok.TIz (ok.ITI m1).symm (ok.ITI m2).symm zg.ti), ?_, (j1.at fun o e => b3.extBut _ o n12 e).at fun o e => up _ o e, j2.at fun o e => up _ o e⟩ tp z4 fun c o c1 _ c2 c3 e => up _ _ (kp c o c1 c2 c3 e)
  obtain ⟨vs, v1, v2⟩ := zg.to
  exact ⟨vs, v1, up _ _ (kp _ _ ok.zTO.symm (ok.ITO m1).symm (ok.ITO m2).symm v2)⟩
theorem held_end {T : Addr} {fb : Bool} {oT : Obj} {Q : Fin → Shared → Prop} (hh : A.handled = none) (ok : ZOk z TI TO [t1, t2]) (hz : IsZh s.heap z TI TO (rawInt T) fb) (hT : s.heap.get? T = some oT) (zg : ZG s.heap z TI TO t1 t2 i)
    (q1 : SeqK t1.k s.heap t1.a a1) (q2 : SeqK t2.k s.heap t2.a a2) (hend : a1[i]? = none ∨ a2[i]? = none)
    (hE : ∀ h' tk e, (∀ c o, c ≠ z → c ≠ TO → c ≠ t1.I → c ≠ t2.I → s.heap.get? c = some o → h'.get? c = some o) → (∃ o, h'.get? e = some o ∧ o.cls = .type "StopIteration") → E (.ref e) { s with heap := h', toks := tk }) :
    wpAny (model prog w) A (Builtin.«zip.__next__» ⟨[.ref z], []⟩) Q E s := by
  have m1 : t1 ∈ [t1, t2] := List.mem_cons_self
  have m2 : t2 ∈ [t1, t2] := List.mem_cons_of_mem _ List.mem_cons_self
  have n12 : t1.I ≠ t2.I := fun e => by
    have := ok.nd
    simp [e] at this
  show wpAny _ _ (field (.ref z) 2 >>= _) _ _ s
  refine wpAny_bind (wpAny_field hz rfl (x := .bool false) rfl ?_)
  show wpAny _ _ (field (.ref z) 3 >>= _) _ _ s
  refine wpAny_bind (wpAny_field hz rfl (x := .ref TI) rfl (wpAny_bind (wpAny_seqItems zg.ti rfl ?_)))
  show wpAny _ _ (Builtin.SmallTypes.ownedTupleIsFree (.ref z) >>= _) _ _ s
  refine wpAny_bind (PySem.wpAny_tupleHeld_zip hz hT fun g1 z1 b1 => ?_)
  rw [if_neg Bool.false_ne_true]
  refine wpAny_bind ?_
  rw [← Array.forIn_toList]
  show wpAny _ _ (forIn [Value.ref t1.I, Value.ref t2.I] _ _) _ _ _
  simp only [List.forIn_cons, List.forIn_nil]
  refine wpAny_bind (wpAny_bind (wpAny_holding ?_))
  show wpAny _ _ (Builtin.SmallTypes.nextOf (.ref t1.I) >>= _) _ _ { s with heap := g1 }
  cases hx : a1[i]? with
  | none =>
    refine wpAny_bind (stop_k (s := { s with heap := g1 }) hh (zg.i1.at fun o e => b1.extBut _ o (ok.Iz m1) e) (q1.at fun o e => b1.extBut _ o (ok.az m1) e) hx fun g2 e b2 he => ?_)
    exact hE g2 s.toks e (fun c o c1 _ c2 _ x => b2 _ _ c2 (b1.extBut _ _ c1 x)) he
  | some x =>
    have hy : a2[i]? = none := hend.resolve_left fun z => by rw [hx] at z; cases z
    refine wpAny_bind (next_k (s := { s with heap := g1 }) (zg.i1.at fun o e => b1.extBut _ o (ok.Iz m1) e) (q1.at fun o e => b1.extBut _ o (ok.az m1) e) hx fun g2 tk2 j1 b2 => wpAny_pure (wpAny_pure ?_))
    refine wpAny_bind (wpAny_bind (wpAny_holding ?_))
    show wpAny _ _ (Builtin.SmallTypes.nextOf (.ref t2.I) >>= _) _ _ { s with heap := g2, toks := tk2 }
    refine wpAny_bind (stop_k (s := { s with heap := g2, toks := tk2 }) hh (zg.i2.at fun o e => b2.extBut _ o n12.symm (b1.extBut _ o (ok.Iz m2) e)) (q2.at fun o e => b2.extBut _ o (ok.ne _ m2 _ m1) (b1.extBut _ o (ok.az m2) e)) hy fun g3 e b3 he => ?_)
    exact hE g3 tk2 e (fun c o c1 _ c2 c3 x => b3 _ _ c3 (b2.extBut _ _ c2 (b1.extBut _ _ c1 x))) he
/-- one turn, either way -/
theorem zg_raw {x y : Value} {Q : Value → Shared → Prop} (ok : ZOk z TI TO [t1, t2]) (zg : ZG s.heap z TI TO t1 t2 i) (q1 : SeqK t1.k s.heap t1.a a1) (q2 : SeqK t2.k s.heap t2.a a2) (hx : a1[i]? = some x) (hy : a2[i]? = some y)
    (hQ : ∀ h' tk, ZG h' z TI TO t1 t2 (i + 1) → TupAt h' s.heap.objs.size [x, y] → h'.objs.size = s.heap.objs.size + 1 → (∀ c o, c ≠ z → c ≠ TO → c ≠ t1.I → c ≠ t2.I → s.heap.get? c = some o → h'.get? c = some o) → Q (.ref s.heap.objs.size) { s with heap := h', toks := tk }) :
    wpAny (model prog w) A (Builtin.«zip.__next__» ⟨[.ref z], []⟩) (fun fin s' => ∃ v, fin = .done (.ret v) ∧ Q v s') E s := by
  obtain ⟨f0, fb, hz, fr⟩ := zg.zp
  have free : (f0 = .none ∨ ∃ T : Addr, f0 = rawInt T ∧ s.heap.get? T = none) → wpAny (model prog w) A (Builtin.«zip.__next__» ⟨[.ref z], []⟩) (fun fin s' => ∃ v, fin = .done (.ret v) ∧ Q v s') E s := fun fr => by
    refine zip_item0 (f := fun t => if t.I = t1.I then a1 else a2) (xs := [x, y]) ok (by simp) (by simp) rfl (two_subs (by rw [if_pos rfl]; exact q1) ?_) hz fr zg.ti zg.to (two_subs zg.i1 zg.i2) (fun j t ht => ?_) fun h' tk za tp sz kp => hQ h' tk ⟨⟨_, _, za.zp, .inr ⟨_, rfl⟩⟩, za.ti, za.to, za.it _ List.mem_cons_self, za.it _ (List.mem_cons_of_mem _ List.mem_cons_self)⟩ tp sz fun c o c1 c2 c3 c4 e => kp c o c1 c2 (by simp [c3, c4]) e
    · have : t2.I ≠ t1.I := fun e => by
        have := ok.nd
        simp [e] at this
      rw [if_neg this]; exact q2
    · match j, ht with
      | 0, ht => cases ht; exact ⟨x, by rw [if_pos rfl]; exact hx, rfl⟩
      | 1, ht =>
        cases ht
        have : t2.I ≠ t1.I := fun e => by
          have := ok.nd
          simp [e] at this
        exact ⟨y, by rw [if_neg this]; exact hy, rfl⟩
  rcases fr with rfl | ⟨T, rfl⟩
  · exact free (.inl rfl)
  · cases hg : s.heap.get? T with
    | none => exact free (.inr ⟨T, rfl, hg⟩)
    | some oT => exact held_item ok hz hg zg q1 q2 hx hy fun h' tk a b c d => hQ h' tk a b c d
theorem zg_item {x y : Value} {Q : Value → Shared → Prop} (ok : ZOk z TI TO [t1, t2]) (zg : ZG s.heap z TI TO t1 t2 i) (q1 : SeqK t1.k s.heap t1.a a1) (q2 : SeqK t2.k s.heap t2.a a2) (hx : a1[i]? = some x) (hy : a2[i]? = some y)
    (hQ : ∀ h' tk, ZG h' z TI TO t1 t2 (i + 1) → TupAt h' s.heap.objs.size [x, y] → h'.objs.size = s.heap.objs.size + 1 → (∀ c o, c ≠ z → c ≠ TO → c ≠ t1.I → c ≠ t2.I → s.heap.get? c = some o → h'.get? c = some o) → Q (.ref s.heap.objs.size) { s with heap := h', toks := tk }) :
    wpAny (model prog w) A (Builtin.SmallTypes.nextOf (.ref z)) Q E s := by
  obtain ⟨f0, fb, hz, fr⟩ := zg.zp
  have hT : s.TypeIs (.ref z) "zip" := ⟨_, hz, rfl⟩
  unfold Builtin.SmallTypes.nextOf
  exact wpAny_bind (wpAny_callSpecial?_slot (name := Str.ofString "__next__") hT F.slot_zip_next (wpAny_call_entry F.slot_zip_next hT F.entry_zip_next (zg_raw ok zg q1 q2 hx hy fun h' tk a b c d => wpAny_pure (hQ h' tk a b c d)) (F.args_zip_next_1 _)))
theorem zg_next {x y : Value} {Q : Option Value → Shared → Prop} (ok : ZOk z TI TO [t1, t2]) (zg : ZG s.heap z TI TO t1 t2 i) (q1 : SeqK t1.k s.heap t1.a a1) (q2 : SeqK t2.k s.heap t2.a a2) (hx : a1[i]? = some x) (hy : a2[i]? = some y)
    (hQ : ∀ h' tk, ZG h' z TI TO t1 t2 (i + 1) → TupAt h' s.heap.objs.size [x, y] → h'.objs.size = s.heap.objs.size + 1 → (∀ c o, c ≠ z → c ≠ TO → c ≠ t1.I → c ≠ t2.I → s.heap.get? c = some o → h'.get? c = some o) → Q (some (.ref s.heap.objs.size)) { s with heap := h', toks := tk }) :
    wpAny (model prog w) A (pyNext (.ref z)) Q E s := by
  obtain ⟨f0, fb, hz, fr⟩ := zg.zp
  have hT : s.TypeIs (.ref z) "zip" := ⟨_, hz, rfl⟩
  unfold pyNext
  exact wpAny_bind (wpAny_attempt (wpAny_callSpecial?_slot (name := Str.ofString "__next__") hT F.slot_zip_next (wpAny_call_entry F.slot_zip_next hT F.entry_zip_next (zg_raw ok zg q1 q2 hx hy fun h' tk a b c d => wpAny_pure (hQ h' tk a b c d)) (F.args_zip_next_1 _))))
theorem zg_stop {Q : Fin → Shared → Prop} (hh : A.handled = none) (ok : ZOk z TI TO [t1, t2]) (zg : ZG s.heap z TI TO t1 t2 i) (q1 : SeqK t1.k s.heap t1.a a1) (q2 : SeqK t2.k s.heap t2.a a2) (hend : a1[i]? = none ∨ a2[i]? = none)
    (hE : ∀ h' tk e, (∀ c o, c ≠ z → c ≠ TO → c ≠ t1.I → c ≠ t2.I → s.heap.get? c = some o → h'.get? c = some o) → (∃ o, h'.get? e = some o ∧ o.cls = .type "StopIteration") → E (.ref e) { s with heap := h', toks := tk }) :
    wpAny (model prog w) A (Builtin.«zip.__next__» ⟨[.ref z], []⟩) Q E s := by
  obtain ⟨f0, fb, hz, fr⟩ := zg.zp
  have n21 : t2.I ≠ t1.I := fun e => by
    have := ok.nd
    simp [e] at this
  have free : (f0 = .none ∨ ∃ T : Addr, f0 = rawInt T ∧ s.heap.get? T = none) → wpAny (model prog w) A (Builtin.«zip.__next__» ⟨[.ref z], []⟩) Q E s := fun fr => by
    have go : ∀ (m : Nat) (t : Sub), [t1, t2][m]? = some t → ((if t.I = t1.I then a1 else a2) : Array Value)[i]? = none → (∀ j t', j < m → [t1, t2][j]? = some t' → ∃ x, ((if t'.I = t1.I then a1 else a2) : Array Value)[i]? = some x ∧ [a1[i]?.getD .none, a2[i]?.getD .none][j]? = some x) → wpAny (model prog w) A (Builtin.«zip.__next__» ⟨[.ref z], []⟩) Q E s := fun m t ht hn hx =>
      zip_end0 (f := fun t => if t.I = t1.I then a1 else a2) (xs := [a1[i]?.getD .none, a2[i]?.getD .none]) (m := m) hh ok (by simp) (by simp) rfl (two_subs (by rw [if_pos rfl]; exact q1) (by rw [if_neg n21]; exact q2)) hz fr zg.ti zg.to (two_subs zg.i1 zg.i2) hx ⟨t, ht, hn⟩ fun h' tk e kp he => hE h' tk e (fun c o c1 c2 c3 c4 e => kp c o c1 c2 (by simp [c3, c4]) e) he
    cases h1 : a1[i]? with
    | none => exact go 0 t1 rfl (by rw [if_pos rfl]; exact h1) fun j t' hj => absurd hj (Nat.not_lt_zero j)
    | some x =>
      refine go 1 t2 rfl (by rw [if_neg n21]; exact hend.resolve_left fun z => by rw [h1] at z; cases z) fun j t' hj ht => ?_
      obtain rfl : j = 0 := by omega
      cases ht
      exact ⟨x, by rw [if_pos rfl]; exact h1, by simp [h1]⟩
  rcases fr with rfl | ⟨T, rfl⟩
  · exact free (.inl rfl)
  · cases hg : s.heap.get? T with
    | none => exact free (.inr ⟨T, rfl, hg⟩)
    | some oT => exact held_end hh ok hz hg zg q1 q2 hend hE
theorem zg_end {Q : Value → Shared → Prop} (hh : A.handled = none) (ok : ZOk z TI TO [t1, t2]) (zg : ZG s.heap z TI TO t1 t2 i) (q1 : SeqK t1.k s.heap t1.a a1) (q2 : SeqK t2.k s.heap t2.a a2) (hend : a1[i]? = none ∨ a2[i]? = none)
    (hE : ∀ h' tk e, (∀ c o, c ≠ z → c ≠ TO → c ≠ t1.I → c ≠ t2.I → s.heap.get? c = some o → h'.get? c = some o) → (∃ o, h'.get? e = some o ∧ o.cls = .type "StopIteration") → E (.ref e) { s with heap := h', toks := tk }) :
    wpAny (model prog w) A (Builtin.SmallTypes.nextOf (.ref z)) Q E s := by
  obtain ⟨f0, fb, hz, fr⟩ := zg.zp
  have hT : s.TypeIs (.ref z) "zip" := ⟨_, hz, rfl⟩
  unfold Builtin.SmallTypes.nextOf
  exact wpAny_bind (wpAny_callSpecial?_slot (name := Str.ofString "__next__") hT F.slot_zip_next (wpAny_call_entry F.slot_zip_next hT F.entry_zip_next (zg_stop hh ok zg q1 q2 hend hE) (F.args_zip_next_1 _)))
theorem zg_none {Q : Option Value → Shared → Prop} (hh : A.handled = none) (ok : ZOk z TI TO [t1, t2]) (zg : ZG s.heap z TI TO t1 t2 i) (q1 : SeqK t1.k s.heap t1.a a1) (q2 : SeqK t2.k s.heap t2.a a2) (hend : a1[i]? = none ∨ a2[i]? = none)
    (hQ : ∀ h' tk, (∀ c o, c ≠ z → c ≠ TO → c ≠ t1.I → c ≠ t2.I → s.heap.get? c = some o → h'.get? c = some o) → Q none { s with heap := h', toks := tk }) :
    wpAny (model prog w) A (pyNext (.ref z)) Q E s := by
  obtain ⟨f0, fb, hz, fr⟩ := zg.zp
  have hT : s.TypeIs (.ref z) "zip" := ⟨_, hz, rfl⟩
  unfold pyNext
  refine wpAny_bind (wpAny_attempt (wpAny_callSpecial?_slot (name := Str.ofString "__next__") hT F.slot_zip_next (wpAny_call_entry F.slot_zip_next hT F.entry_zip_next (zg_stop hh ok zg q1 q2 hend fun h' tk e kp he => ?_) (F.args_zip_next_1 _))))
  obtain ⟨o, ho, hc⟩ := he
  exact wpAny_bind (wpAny_isInstance (T := "StopIteration") (b := true) ⟨o, ho, hc⟩ isSubtype_stop (wpAny_pure (hQ h' tk kp)))
end
/-! ### enumerate(zip(..)) -/
section
variable {prog : Program} {w : World} {A : Around} {E : Value → Shared → Prop} {s : Shared} {e z TI TO : Addr} {t1 t2 : Sub} {i : Nat} {a1 a2 : Array Value}
/-- the enumerate stands behind all of the zip -/
structure EOk (e z TI TO : Addr) (t1 t2 : Sub) : Prop where
  ok : ZOk z TI TO [t1, t2]
  ze : z < e
namespace EOk
theorem ez (k : EOk e z TI TO t1 t2) : e ≠ z := Nat.ne_of_gt k.ze
theorem eTO (k : EOk e z TI TO t1 t2) : e ≠ TO := Nat.ne_of_gt (Nat.lt_trans k.ok.oz k.ze)
theorem eTI (k : EOk e z TI TO t1 t2) : e ≠ TI := Nat.ne_of_gt (Nat.lt_trans k.ok.oT (Nat.lt_trans k.ok.oz k.ze))
theorem e1 (k : EOk e z TI TO t1 t2) : e ≠ t1.I := Nat.ne_of_gt (Nat.lt_trans (k.ok.lt t1 List.mem_cons_self).1 (Nat.lt_trans k.ok.oT (Nat.lt_trans k.ok.oz k.ze)))
theorem e2 (k : EOk e z TI TO t1 t2) : e ≠ t2.I := Nat.ne_of_gt (Nat.lt_trans (k.ok.lt t2 (List.mem_cons_of_mem _ List.mem_cons_self)).1 (Nat.lt_trans k.ok.oT (Nat.lt_trans k.ok.oz k.ze)))
end EOk
theorem enumz_item {old x y : Value} {Q : Option Value → Shared → Prop} (k : EOk e z TI TO t1 t2) (he : IsEnum s.heap e z ((i : Nat) : Int) old) (zg : ZG s.heap z TI TO t1 t2 i) (q1 : SeqK t1.k s.heap t1.a a1) (q2 : SeqK t2.k s.heap t2.a a2) (hx : a1[i]? = some x) (hy : a2[i]? = some y)
    (hQ : ∀ h' tk, IsEnumOut h' e z ((i : Int) + 1) (.ref s.heap.objs.size) (s.heap.objs.size + 1) → ZG h' z TI TO t1 t2 (i + 1) → TupAt h' s.heap.objs.size [x, y] → TupAt h' (s.heap.objs.size + 1) [.int i tk, .ref s.heap.objs.size] →
      (∀ c o, c ≠ e → c ≠ z → c ≠ TO → c ≠ t1.I → c ≠ t2.I → s.heap.get? c = some o → h'.get? c = some o) → Q (some (.ref (s.heap.objs.size + 1))) { s with heap := h', toks := tk + 1 }) :
    wpAny (model prog w) A (pyNext (.ref e)) Q E s := by
  have hTy : s.TypeIs (.ref e) "enumerate" := ⟨_, he, rfl⟩
  have hel : e < s.heap.objs.size := Heap.lt_size he
  unfold pyNext
  refine wpAny_bind (wpAny_attempt (wpAny_callSpecial?_slot (name := Str.ofString "__next__") hTy F.slot_enumerate_next (wpAny_call_entry F.slot_enumerate_next hTy F.entry_enumerate_next ?_ (F.args_enumerate_next_1 _))))
  show wpAny _ _ (field (.ref e) 2 >>= _) _ _ s
  refine wpAny_bind (wpAny_field he rfl (x := .ref z) rfl (wpAny_bind (zg_item k.ok zg q1 q2 hx hy fun g1 tk zg1 tp1 sz1 kp1 => ?_)))
  have en1 : IsEnum g1 e z ((i : Nat) : Int) old := kp1 e _ k.ez k.eTO k.e1 k.e2 he
  show wpAny _ _ (field (.ref e) 3 >>= _) _ _ { s with heap := g1, toks := tk }
  refine wpAny_bind (wpAny_field en1 rfl (x := rawInt i) rfl ?_)
  show wpAny _ _ (field (.ref e) 4 >>= _) _ _ { s with heap := g1, toks := tk }
  refine wpAny_bind (wpAny_field en1 rfl (x := .none) rfl ?_)
  show wpAny _ _ (mkInt i >>= _) _ _ { s with heap := g1, toks := tk }
  refine wpAny_bind (wpAny_mkInt ?_)
  show wpAny _ _ (setField (.ref e) 3 (rawInt ((i : Int) + 1)) >>= _) _ _ { s with heap := g1, toks := tk + 1 }
  refine wpAny_bind (wpAny_setField_rec en1 (by simp) fun g2 en2 b2 => ?_)
  replace en2 : IsEnum g2 e z ((i : Int) + 1) old := en2
  show wpAny _ _ (setField (.ref e) 4 .none >>= _) _ _ { s with heap := g2, toks := tk + 1 }
  refine wpAny_bind (wpAny_setField_rec en2 (by simp) fun g3 en3 b3 => ?_)
  replace en3 : IsEnum g3 e z ((i : Int) + 1) old := en3
  show wpAny _ _ (newTuple [.int i tk, .ref s.heap.objs.size] >>= _) _ _ { s with heap := g3, toks := tk + 1 }
  refine wpAny_bind (wpAny_newTuple ?_)
  have sz3 : g3.objs.size = s.heap.objs.size + 1 := by rw [b3.1, b2.1, sz1]
  have en4 : IsEnum (g3.push { cls := .type "tuple", data := .seq #[.int i tk, .ref s.heap.objs.size] }) e z ((i : Int) + 1) old := Heap.get?_push_of_some _ en3
  have tp4 : TupAt (g3.push { cls := .type "tuple", data := .seq #[.int i tk, .ref s.heap.objs.size] }) g3.objs.size [.int i tk, .ref s.heap.objs.size] := Heap.get?_push_size _ rfl
  have up4 : ∀ c o, c ≠ e → g1.get? c = some o → (g3.push { cls := .type "tuple", data := .seq #[.int i tk, .ref s.heap.objs.size] }).get? c = some o := fun c o ce q => Heap.get?_push_of_some _ (b3.extBut c o ce (b2.extBut c o ce q))
  generalize hg4 : g3.push { cls := .type "tuple", data := .seq #[.int i tk, .ref s.heap.objs.size] } = g4 at en4 tp4 up4
  rw [sz3] at tp4
  show wpAny _ _ (Builtin.SmallTypes.ownedTupleIsFree (.ref e) >>= _) _ _ { s with heap := g4, toks := tk + 1 }
  rw [sz3]
  refine wpAny_bind ?_
  unfold Builtin.SmallTypes.ownedTupleIsFree
  refine wpAny_bind (wpAny_field en4 rfl (x := .none) rfl (wpAny_pure ?_))
  rw [if_pos rfl]
  refine wpAny_bind (wpAny_rule (wpAny_bind (wpAny_field en4 rfl (x := old) rfl (wpAny_bind (wpAny_setField_rec en4 (by simp) fun g5 en5 b5 => ?_)))))
  replace en5 : IsEnum g5 e z ((i : Int) + 1) (.ref s.heap.objs.size) := en5
  show wpAny _ _ (Builtin.SmallTypes.ownedTupleHandOut (.ref e) (.ref (s.heap.objs.size + 1)) >>= _) _ _ { s with heap := g5, toks := tk + 1 }
  refine wpAny_bind ?_
  unfold Builtin.SmallTypes.ownedTupleHandOut
  refine wpAny_bind (wpAny_setField_rec en5 (by simp) fun g6 en6 b6 => ?_)
  replace en6 : IsEnumOut g6 e z ((i : Int) + 1) (.ref s.heap.objs.size) (s.heap.objs.size + 1) := en6
  refine wpAny_setField_rec en6 (by simp) fun g7 en7 b7 => ?_
  replace en7 : IsEnumOut g7 e z ((i : Int) + 1) (.ref s.heap.objs.size) (s.heap.objs.size + 1) := en7
  have up7 : ∀ c o, c ≠ e → g4.get? c = some o → g7.get? c = some o := fun c o ce q => b7.extBut c o ce (b6.extBut c o ce (b5.extBut c o ce q))
  refine wpAny_bind (wpAny_letGo (wpAny_pure ⟨_, rfl, wpAny_pure (hQ g7 tk en7 (zg1.keep fun b hb o q => ?_) ?_ ?_ fun c o c0 c1 c2 c3 c4 q => up7 c o c0 (up4 c o c0 (kp1 c o c1 c2 c3 c4 q)))⟩))
  · have : b ≠ e := by
      rcases hb with r | r | r | r | r <;> rw [r]
      · exact k.ez.symm
      · exact k.eTI.symm
      · exact k.eTO.symm
      · exact k.e1.symm
      · exact k.e2.symm
    exact up7 b o this (up4 b o this q)
  · exact up7 _ _ (Nat.ne_of_gt hel) (up4 _ _ (Nat.ne_of_gt hel) tp1)
  · exact up7 _ _ (Nat.ne_of_gt (Nat.lt_succ_of_lt hel)) tp4
theorem enumz_end {old : Value} {n : Int} {Q : Option Value → Shared → Prop} (hh : A.handled = none) (k : EOk e z TI TO t1 t2) (he : IsEnum s.heap e z n old) (zg : ZG s.heap z TI TO t1 t2 i) (q1 : SeqK t1.k s.heap t1.a a1) (q2 : SeqK t2.k s.heap t2.a a2) (hend : a1[i]? = none ∨ a2[i]? = none)
    (hQ : ∀ h' tk, (∀ c o, c ≠ z → c ≠ TO → c ≠ t1.I → c ≠ t2.I → s.heap.get? c = some o → h'.get? c = some o) → Q none { s with heap := h', toks := tk }) :
    wpAny (model prog w) A (pyNext (.ref e)) Q E s := by
  have hTy : s.TypeIs (.ref e) "enumerate" := ⟨_, he, rfl⟩
  unfold pyNext
  refine wpAny_bind (wpAny_attempt (wpAny_callSpecial?_slot (name := Str.ofString "__next__") hTy F.slot_enumerate_next (wpAny_call_entry F.slot_enumerate_next hTy F.entry_enumerate_next ?_ (F.args_enumerate_next_1 _))))
  show wpAny _ _ (field (.ref e) 2 >>= _) _ _ s
  refine wpAny_bind (wpAny_field he rfl (x := .ref z) rfl (wpAny_bind (zg_end hh k.ok zg q1 q2 hend fun h' tk ex kp hex => ?_)))
  obtain ⟨o, ho, hc⟩ := hex
  exact wpAny_bind (wpAny_isInstance (T := "StopIteration") (b := true) ⟨o, ho, hc⟩ isSubtype_stop (wpAny_pure (hQ h' tk kp)))
end
/-! ### two new objects behind a turn -/
section
variable {X : Cx} {pins : List (Addr × Obj)} {σ : L2.St} {H : Hp} {s : Shared} {h' : Heap}
theorem turned2 {t' : Nat} {ch : List Addr} {T U : Addr} {ot ou : HO} (I : Inv X pins σ H s) (k : ∀ b o, b ∉ ch → s.heap.get? b = some o → h'.get? b = some o) (hf : ∀ b ∈ ch, FpOk X pins H b) (hT : s.heap.objs.size ≤ T) (hU : s.heap.objs.size ≤ U) (ne : U ≠ T)
    (nT : ObjOk X.prog X.w (upd (upd H T ot) U ou) h' T ot) (nU : ObjOk X.prog X.w (upd (upd H T ot) U ou) h' U ou) : Inv X pins σ (upd (upd H T ot) U ou) { s with heap := h', toks := t' } := by
  have fT : H T = none := I.hok.fresh hT
  have fU : H U = none := I.hok.fresh hU
  have away : ∀ {b : Addr} {o : HO}, H b = some o → upd (upd H T ot) U ou b = H b := fun {b o} q => by rw [upd_ne (ne_of_none q fU), upd_ne (ne_of_none q fT)]
  have nit : ∀ b u, H b = some u → b ∉ ch := fun b u q m => by
    have := (hf b m).1
    rw [this] at q
    cases q
  refine I.step (g' := s.gens) (d' := s.drawn) (ch := ch) (fun b hb => let f := hf b hb; ⟨f.2.2.2.1, f.2.1, f.2.2.2.2.1, f.2.2.2.2.2⟩) (fun b o _ _ hc q _ => k b o hc q) (fun b o _ _ hc q _ => ⟨o.slots, k b o hc q⟩) (fun b o _ q n => ?_) (fun b o hc q => ⟨o, k b o hc q⟩) (fun b xs q => (away q).trans q) (fun b o u q => (away q).trans q) (fun b ps q => ⟨#[], by rw [away q, q]; simp⟩) (fun m hm => ?_) (fun b u q => ?_) I.bare
  · have lt := Heap.lt_size q
    rw [upd_ne (Nat.ne_of_lt (Nat.lt_of_lt_of_le lt hU)), upd_ne (Nat.ne_of_lt (Nat.lt_of_lt_of_le lt hT))]
    exact n
  · obtain ⟨o, es, ep, ho, r⟩ := hm
    exact ⟨o, es, ep, k _ o (fun m => (hf _ m).2.1 rfl) ho, r⟩
  · by_cases hb : b = U
    · subst hb
      rw [upd_same] at q; cases q
      exact nU
    · rw [upd_ne hb] at q
      by_cases hb2 : b = T
      · subst hb2
        rw [upd_same] at q; cases q
        exact nT
      · rw [upd_ne hb2] at q
        refine (I.hok b u q).stay (fun c v hc g => k c v ?_ g) (fun c g => (away g).trans g) fun c xs g => (away g).trans g
        rcases hc with r | r
        · rw [r]; exact nit b u q
        · exact nit c _ r
end
/-- the sequences at a and b as they stand at each turn, numbered: each item in two new tuples -/
def ItEZ (K : PySem.W.Frag) (k1 : IK) (a : Addr) (k2 : IK) (b : Addr) : It :=
  ⟨fun i H => ∃ (xs ys : List V) (x y : V), SqK K k1 H a xs ∧ SqK K k2 H b ys ∧ xs[i]? = some x ∧ ys[i]? = some y,
    fun i H v H' => ∃ T U x y, v = .ref U ∧ H T = none ∧ H U = none ∧ U ≠ T ∧ H' = upd (upd H T (.tup [x, y])) U (.tup [.int (i : Nat), .ref T]) ∧ (∀ xs, SqK K k1 H a xs → xs[i]? = some x) ∧ ∀ ys, SqK K k2 H b ys → ys[i]? = some y,
    fun i H => ∃ xs ys : List V, SqK K k1 H a xs ∧ SqK K k2 H b ys ∧ (xs.length ≤ i ∨ ys.length ≤ i)⟩
theorem turn_enumZ {P : Program} {w : World} {K : PySem.W.Frag} {elts : List Expr} {kk : Nat} {tpos : Pos} {e z TI TO : Addr} {t1 t2 : Sub} (ko : EOk e z TI TO t1 t2) :
    Turn P w K (.Tuple elts kk tpos) (ItEZ K t1.k t1.a t2.k t2.a) [e, z, TI, TO, t1.I, t2.I] e (fun i h => (∃ old, IsEnum h e z ((i : Nat) : Int) old) ∧ ZG h z TI TO t1 t2 i) where
  mem := by simp
  obj := fun i h st b hb => by
    obtain ⟨⟨old, he⟩, zg⟩ := st
    obtain ⟨f0, fb, hz, _⟩ := zg.zp
    obtain ⟨vs, _, hTO⟩ := zg.to
    simp only [List.mem_cons, List.not_mem_nil, or_false] at hb
    rcases hb with r | r | r | r | r | r <;> rw [r]
    · exact ⟨_, he, fun v q => nomatch q⟩
    · exact ⟨_, hz, fun v q => nomatch q⟩
    · exact ⟨_, zg.ti, fun v q => nomatch q⟩
    · exact ⟨_, hTO, fun v q => nomatch q⟩
    · exact zg.i1.obj
    · exact zg.i2.obj
  keep := fun i h h' st k => let ⟨⟨old, he⟩, zg⟩ := st; ⟨⟨old, k e (by simp) _ he⟩, zg.keep fun b hb o q => k b (by
    rcases hb with r | r | r | r | r <;> rw [r] <;> simp) o q⟩
  item := by
    intro X hP hw hK hc i pins s σ H E I hf st hg
    subst hP hw hK
    obtain ⟨⟨old, he⟩, zg⟩ := st
    obtain ⟨xs, ys, x, y, hqx, hqy, hx, hy⟩ := hg
    obtain ⟨its, rv, p1⟩ := seq_at I hqx
    obtain ⟨jts, rw', p2⟩ := seq_at I hqy
    obtain ⟨u, hu, ru⟩ := rv.get hx
    obtain ⟨v, hv, rw2⟩ := rw'.get hy
    have hel : e < s.heap.objs.size := Heap.lt_size he
    refine enumz_item ko he zg p1 p2 (x := u) (y := v) (by simpa using hu) (by simpa using hv) fun h' tk ho zg' tp1 tp2 hk => ?_
    refine ⟨_, rfl, wpAny_letOwnedTupleGo_enum (s := { s with heap := h', toks := tk + 1 }) ho fun h'' he' sb => ?_⟩
    have t1' : TupAt h'' s.heap.objs.size [u, v] := (sb.2 _ (Nat.ne_of_gt hel)).trans tp1
    have t2' : TupAt h'' (s.heap.objs.size + 1) [.int i tk, .ref s.heap.objs.size] := (sb.2 _ (Nat.ne_of_gt (Nat.lt_succ_of_lt hel))).trans tp2
    have I1 : Inv X pins σ (upd (upd H s.heap.objs.size (.tup [x, y])) (s.heap.objs.size + 1) (.tup [.int (i : Nat), .ref s.heap.objs.size])) { s with heap := h'', toks := tk + 1 } :=
      turned2 (ch := [e, z, TI, TO, t1.I, t2.I]) I (fun b ob hb q => by
        simp only [List.mem_cons, List.not_mem_nil, or_false, not_or] at hb
        exact (sb.2 b hb.1).trans (hk b ob hb.1 hb.2.1 hb.2.2.2.1 hb.2.2.2.2.1 hb.2.2.2.2.2 q)) hf (Nat.le_refl _) (Nat.le_succ _) (Nat.succ_ne_self _)
        ⟨by show 2 ≤ sizeLine; decide, [u, v], .cons ru (.cons rw2 .nil), ⟨_, t1', rfl, _, rfl⟩⟩ ⟨by show 2 ≤ sizeLine; decide, [.int i tk, .ref s.heap.objs.size], .cons ⟨_, rfl⟩ (.cons rfl .nil), ⟨_, t2', rfl, _, rfl⟩⟩
    refine ⟨.ref (s.heap.objs.size + 1), _, I1, rfl, ⟨_, _, x, y, rfl, I.hok.fresh (Nat.le_refl _), I.hok.fresh (Nat.le_succ _), Nat.succ_ne_self _, rfl, fun l hl => by rw [seq_inj I hl hqx]; exact hx, fun l hl => by rw [seq_inj I hl hqy]; exact hy⟩, ⟨⟨.ref s.heap.objs.size, ?_⟩, zg'.keep fun b hb o q => (sb.2 b ?_).trans q⟩, fun b hb => ?_⟩
    · have e1 : ((i + 1 : Nat) : Int) = (i : Int) + 1 := by omega
      rw [e1]
      exact he'
    · rcases hb with r | r | r | r | r <;> rw [r]
      · exact ko.ez.symm
      · exact ko.eTI.symm
      · exact ko.eTO.symm
      · exact ko.e1.symm
      · exact ko.e2.symm
    · have hlt : b < s.heap.objs.size := by
        obtain ⟨f0, fb, hz, _⟩ := zg.zp
        obtain ⟨vs, _, hTO⟩ := zg.to
        have hb2 := hb
        simp only [List.mem_cons, List.not_mem_nil, or_false] at hb2
        rcases hb2 with r | r | r | r | r | r <;> rw [r]
        · exact hel
        · exact Heap.lt_size hz
        · exact Heap.lt_size zg.ti
        · exact Heap.lt_size hTO
        · exact zg.i1.lt
        · exact zg.i2.lt
      rw [upd_ne (Nat.ne_of_lt (Nat.lt_succ_of_lt hlt)), upd_ne (Nat.ne_of_lt hlt)]
      exact (hf b hb).1
  done := by
    intro X hP hw hK hc i pins s σ H E I hf st hg
    subst hP hw hK
    obtain ⟨⟨old, he⟩, zg⟩ := st
    obtain ⟨xs, ys, hqx, hqy, hend⟩ := hg
    obtain ⟨its, rv, p1⟩ := seq_at I hqx
    obtain ⟨jts, rw', p2⟩ := seq_at I hqy
    have l1 := rv.length
    have l2 := rw'.length
    refine enumz_end (show X.A.handled = none from I.ok.hd hc) ko he zg p1 p2 (hend.imp (fun q => by simp; omega) fun q => by simp; omega) fun h' tk kp => ⟨rfl, I.turnedL (t' := tk) (ch := [e, z, TI, TO, t1.I, t2.I]) (fun b o hb q => ?_) hf⟩
    simp only [List.mem_cons, List.not_mem_nil, or_false, not_or] at hb
    exact kp b o hb.2.1 hb.2.2.2.1 hb.2.2.2.2.1 hb.2.2.2.2.2 q
  self := fun A i s Q E st h => let ⟨⟨_, he⟩, _⟩ := st; wpAny_pyIter_enum he h
/-! ### the zip's own call -/
section
variable {X : Cx} {x y : Expr} {ta : TA} {p p1 pos pos1 tpos : Pos} {elts : List Expr} {kk : Nat}
/-- what zip(x, y) makes -/
def AtZip (X : Cx) (pins : List (Addr × Obj)) (σ : L2.St) (Fin : IK → Addr → IK → Addr → Hp → Prop) (v : Value) (s1 : Shared) : Prop :=
  ∃ (z TI TO : Addr) (t1 t2 : Sub) (H1 : Hp), v = .ref z ∧ ZOk z TI TO [t1, t2] ∧ ZG s1.heap z TI TO t1 t2 0 ∧ Inv X pins σ H1 s1 ∧ (∀ b ∈ [z, TI, TO, t1.I, t2.I], FpOk X pins H1 b) ∧ (∃ xs, SqK X.K t1.k H1 t1.a xs) ∧ (∃ ys, SqK X.K t2.k H1 t2.a ys) ∧ Fin t1.k t1.a t2.k t2.a H1
/-- two sequences come -/
def tTwo (K : PySem.W.Frag) (ta : TA) (σ : L2.St) (H : Hp) (Fin : IK → Addr → IK → Addr → Hp → Prop) : Prop := ta σ H fun vs H1 => ∃ (k1 : IK) (a : Addr) (k2 : IK) (b : Addr), vs = [V.ref a, V.ref b] ∧ fwK k1 = true ∧ fwK k2 = true ∧ (∃ xs, SqK K k1 H1 a xs) ∧ (∃ ys, SqK K k2 H1 b ys) ∧ Fin k1 a k2 b H1
theorem step_zip (gz : Gl X "zip") (mz : X.mg "zip" = none) (ha : PA X [x, y] ta) (hs : starEach [x, y] X.env = (false, eval x X.env) :: starEach [y] X.env) (hpl : (backTo pos1 (starEach [y] X.env)).any (·.1) = false)
    {pins : List (Addr × Obj)} {s : Shared} {σ : L2.St} {H : Hp} {Fin : IK → Addr → IK → Addr → Hp → Prop} (I : Inv X pins σ H s) (h : tTwo X.K ta σ H Fin) : wpAny (model X.prog X.w) X.A (eval (.Call (.Name "zip" p1) [x, y] [] pos1) X.env) (AtZip X pins σ Fin) X.xe s := by
  have run := ha.run pos1 pins s σ H _ I h
  refine Call_ (ld_blt I gz mz PyProof.Rows.boot_zip (PyProof.Rows.callWith_type1 (thn run fun us s1 got => ?_) hs hpl))
  obtain ⟨vs, H1, I1, r1, k1, b1, k2, b2, ex, f1, f2, ⟨x1, sq1⟩, ⟨x2, sq2⟩, fin⟩ := got
  subst ex
  match us, r1 with
  | [u, v], .cons r (.cons r' .nil) =>
    obtain rfl := ref_v r
    obtain rfl := ref_v r'
    obtain ⟨i1, _, p1⟩ := seq_at I1 sq1
    obtain ⟨i2, _, p2⟩ := seq_at I1 sq2
    refine zip_begins2 (beg_k k1 f1 b1 i1.toArray) (beg_k k2 f2 b2 i2.toArray) p1 p2 fun h' hz hTI hTO h1 h2 hsz hk => ?_
    have l1 := p1.lt
    have l2 := p2.lt
    refine ⟨s1.heap.objs.size + 4, s1.heap.objs.size + 2, s1.heap.objs.size + 3, ⟨k1, s1.heap.objs.size, b1⟩, ⟨k2, s1.heap.objs.size + 1, b2⟩, H1, rfl, ?_, ⟨⟨_, _, hz, .inl rfl⟩, hTI, ⟨[.none, .none], rfl, hTO⟩, IterK.new h1, IterK.new h2⟩, I1.kept (t' := s1.toks) hk, fresh_n (s := s1) I1 fun b hb => ?_, ⟨x1, sq1⟩, ⟨x2, sq2⟩, fin⟩
    · refine ⟨Nat.lt_succ_self _, Nat.lt_succ_self _, two_subs ⟨Nat.lt_add_of_pos_right (by decide), Nat.lt_add_right _ l1⟩ ⟨Nat.lt_succ_self _, Nat.lt_add_right _ l2⟩, by simp, ?_⟩
      have big : ∀ u ∈ [(⟨k1, s1.heap.objs.size, b1⟩ : Sub), ⟨k2, s1.heap.objs.size + 1, b2⟩], s1.heap.objs.size ≤ u.I := two_subs (Nat.le_refl _) (Nat.le_succ _)
      exact two_subs (fun u hu => Nat.ne_of_lt (Nat.lt_of_lt_of_le l1 (big u hu))) fun u hu => Nat.ne_of_lt (Nat.lt_of_lt_of_le l2 (big u hu))
    · simp only [List.mem_cons, List.not_mem_nil, or_false] at hb
      rcases hb with rfl | rfl | rfl | rfl | rfl
      · exact ⟨4, rfl⟩
      · exact ⟨2, rfl⟩
      · exact ⟨3, rfl⟩
      · exact ⟨0, rfl⟩
      · exact ⟨1, rfl⟩
/-! ### enumerate on what is its own iterator -/
theorem meets_enum_self {v : Value} {H1 : Heap → Prop} (B : Selfy v H1) :
    Meets (Builtin.«enumerate.__new__» ⟨[.type "enumerate", v], []⟩) (fun _ R s => H1 s.heap ∧ R (.ok (.ret (.ref s.heap.objs.size))) { s with heap := s.heap.push { cls := .type "enumerate", data := .fields #[.none, .bool false, v, rawInt 0, .none, .none] } }) :=
  .of_wp fun prog w A R s h => by
    obtain ⟨hp, g, d, tk, os⟩ := s
    obtain ⟨h1, h⟩ := h
    have hsub := sub_enumerate
    have it1 : ∀ {A' : Around} {E : Value → Shared → Prop} {Q : Value → Shared → Prop}, Q v ⟨hp, g, d, tk, os⟩ → wpAny (model prog w) A' (pyIter v) Q E ⟨hp, g, d, tk, os⟩ := fun q => B prog w _ _ ⟨hp, g, d, tk, os⟩ _ h1 q
    wp_walk using it1
    refine wpAny_stack_any fun st => wpAny_pure ?_
    split
    · rename_i c _ _ _ _ _
      cases (c == Value.type "enumerate") <;> (wp_walk using it1; exact ⟨_, rfl, h⟩)
    · wp_walk using it1
      exact ⟨_, rfl, h⟩
theorem selfy_zip {z TI TO : Addr} {t1 t2 : Sub} : Selfy (Value.ref z) (fun h => ZG h z TI TO t1 t2 0) := fun prog w A E s Q h q => by
  obtain ⟨f0, fb, hz, fr⟩ := h.zp
  refine wpAny_pyIter_slot ⟨_, hz, rfl⟩ F.slot_zip_iter (wpAny_call_entry F.slot_zip_iter ⟨_, hz, rfl⟩ F.entry_zip_iter ?_ (F.args_zip_iter_1 _))
  show wpAny _ _ (ret (.ref z)) _ _ s
  exact wpAny_pure ⟨_, rfl, "zip", _, ⟨_, hz, rfl⟩, F.slot_zip_next.lookup, q⟩
def iEnumZ (K : PySem.W.Frag) (ta : TA) : TI := fun σ H R => tTwo K ta σ H fun k1 a k2 b H1 => (∀ xs, SqK K k1 H1 a xs → xs.length ≤ sizeLine) → R (ItEZ K k1 a k2 b) H1
theorem pi_enumZ (ge : Gl X "enumerate") (me : X.mg "enumerate" = none) (gz : Gl X "zip") (mz : X.mg "zip" = none) (ha : PA X [x, y] ta) (hs : starEach [x, y] X.env = (false, eval x X.env) :: starEach [y] X.env) (hpl : (backTo pos1 (starEach [y] X.env)).any (·.1) = false)
    (one : starEach [Expr.Call (.Name "zip" p1) [x, y] [] pos1] X.env = (false, eval (.Call (.Name "zip" p1) [x, y] [] pos1) X.env) :: starEach [] X.env := by rfl) :
    PI X (.Tuple elts kk tpos) (.Call (.Name "enumerate" p) [.Call (.Name "zip" p1) [x, y] [] pos1] [] pos) (iEnumZ X.K ta) := by
  refine ⟨fun pins s σ H R I h => ?_⟩
  refine Call_ (ld_blt I ge me boot_enumerate (PyProof.Rows.callWith_type1 (args_cons (thn (step_zip gz mz ha hs hpl I h) fun v s1 got => args_nil ?_) one) one rfl))
  obtain ⟨z, TI, TO, t1, t2, H1, ev, ok, zg, J, fp, ⟨xs, sq1⟩, _, fin⟩ := got
  subst ev
  refine callType_new F.called_enumerate (by decide) (F.typeCall_enumerate_1 _) (F.newCall_enumerate_1 _) (fun obj => F.args_object_init_2 obj _) F.entry_enumerate_new (meets_enum_self (selfy_zip (z := z) (TI := TI) (TO := TO) (t1 := t1) (t2 := t2))) ⟨zg, ?_⟩
  have up : ∀ b o, s1.heap.get? b = some o → (s1.heap.push { cls := .type "enumerate", data := .fields #[.none, .bool false, .ref z, rawInt 0, .none, .none] }).get? b = some o := fun b o q => Heap.get?_push_of_some _ q
  have he : IsEnum (s1.heap.push { cls := .type "enumerate", data := .fields #[.none, .bool false, .ref z, rawInt 0, .none, .none] }) s1.heap.objs.size z 0 .none := Heap.get?_push_size _ rfl
  have zlt : z < s1.heap.objs.size := by
    obtain ⟨f0, fb, hz, _⟩ := zg.zp
    exact Heap.lt_size hz
  refine ⟨⟨_, he, rfl⟩, wpAny_pyIter_enum he ⟨s1.heap.objs.size, [s1.heap.objs.size, z, TI, TO, t1.I, t2.I], _, _, H1, rfl, J.kept (t' := s1.toks) up, turn_enumZ ⟨ok, zlt⟩, ⟨⟨.none, he⟩, zg.keep fun b _ o q => up b o q⟩, fun b hb => ?_, fin fun l hl => seq_line J hl⟩⟩
  rcases List.mem_cons.mp hb with rfl | hb
  · exact J.fpOk (Nat.le_refl _) (J.hok.fresh (Nat.le_refl _))
  · exact fp b hb
/-! ### list(zip(..)) -/
/-- what stood stands, but for S -/
def GrX (S : Addr) (H H' : Hp) : Prop := (∀ a o, a ≠ S → H a = some o → H' a = some o) ∧ ∀ a, H' a = none → H a = none
/-- the pairs, laid -/
def PrL (H : Hp) (vs xs ys : List V) : Prop := ∀ (j : Nat) (v : V), vs[j]? = some v → ∃ (T : Addr) (x y : V), v = V.ref T ∧ xs[j]? = some x ∧ ys[j]? = some y ∧ H T = some (.tup [x, y])
theorem sql_keep {K : PySem.W.Frag} {H H' : Hp} {a : Addr} {xs : List V} (k : ∀ o, H a = some o → H' a = some o) (q : SqL K H a xs) : SqL K H' a xs := by
  rcases q with (q | ⟨o, q⟩) | q
  · exact .inl (.inl (k _ q))
  · exact .inl (.inr ⟨o, k _ q⟩)
  · exact .inr q
theorem sqt_keep {K : PySem.W.Frag} {H H' : Hp} {a : Addr} {xs : List V} (k : ∀ o, H a = some o → H' a = some o) (q : SqT K H a xs) : SqT K H' a xs := by
  rcases q with (q | ⟨o, q⟩) | q
  · exact .inl (.inl (k _ q))
  · exact .inl (.inr ⟨o, k _ q⟩)
  · exact .inr q
theorem sqk_keep {K : PySem.W.Frag} {k : IK} {H H' : Hp} {a : Addr} {xs : List V} (kp : ∀ o, H a = some o → H' a = some o) (q : SqK K k H a xs) : SqK K k H' a xs := by
  cases k with
  | l => exact sql_keep kp q
  | t => exact sqt_keep kp q
  | rl n => exact ⟨q.1, sql_keep kp q.2⟩
  | rt n => exact ⟨q.1, sqt_keep kp q.2⟩
theorem lz_loop {pins : List (Addr × Obj)} {σ : L2.St} {z TI TO S : Addr} {t1 t2 : Sub} {res : Value} {R : Result → Shared → Prop} {A : Around} {xs ys : List V} (hh : A.handled = none) (ok : ZOk z TI TO [t1, t2]) (hS : S ∉ [z, TI, TO, t1.I, t2.I]) (s1 : t1.a ≠ S) (s2 : t2.a ≠ S) :
    ∀ (k i : Nat) (s : Shared) (H : Hp) (vs : List V), min xs.length ys.length - i = k → i ≤ min xs.length ys.length → Inv X pins σ H s → (∀ b ∈ [z, TI, TO, t1.I, t2.I], FpOk X pins H b) → ZG s.heap z TI TO t1 t2 i → SqK X.K t1.k H t1.a xs → SqK X.K t2.k H t2.a ys → H S = some (.lst vs) → vs.length = i → PrL H vs xs ys →
      (∀ s' H' vs', Inv X pins σ H' s' → GrX S H H' → H' S = some (.lst vs') → vs'.length = min xs.length ys.length → PrL H' vs' xs ys → R (.ok (.ret res)) s') →
      codeAny (model X.prog X.w) A (.builtin "list.extend.loop" ⟨[.ref S, .ref z, res], []⟩) R s := by
  intro k
  induction k with
  | zero =>
    intro i s H vs hk hi I fp zg q1 q2 eS lv pr hR
    obtain ⟨its, rv, p1⟩ := seq_at I q1
    obtain ⟨jts, rw', p2⟩ := seq_at I q2
    have l1 := rv.length
    have l2 := rw'.length
    refine codeAny_builtin F.entry_extend_loop ?_
    rw [Around.under_plainId F.plain_extend_loop _]
    show wpAny _ A.in1 (pyNext (.ref z) >>= _) _ _ s
    refine wpAny_bind (zg_none (A := A.in1) hh ok zg p1 p2 (by
      by_cases c : xs.length ≤ i
      · exact .inl (by simp; omega)
      · exact .inr (by simp; omega)) fun h' tk kp => wpAny_pure ?_)
    refine hR _ H vs (I.turnedL (t' := tk) (ch := [z, TI, TO, t1.I, t2.I]) (fun b o hb q => ?_) fp) ⟨fun _ _ _ q => q, fun _ q => q⟩ eS (by omega) pr
    simp only [List.mem_cons, List.not_mem_nil, or_false, not_or] at hb
    exact kp b o hb.1 hb.2.2.1 hb.2.2.2.1 hb.2.2.2.2 q
  | succ k ih =>
    intro i s H vs hk hi I fp zg q1 q2 eS lv pr hR
    obtain ⟨its, rv, p1⟩ := seq_at I q1
    obtain ⟨jts, rw', p2⟩ := seq_at I q2
    have i1 : i < xs.length := by omega
    have i2 : i < ys.length := by omega
    obtain ⟨u, hu, ru⟩ := rv.get (List.getElem?_eq_getElem i1)
    obtain ⟨v, hv, rw2⟩ := rw'.get (List.getElem?_eq_getElem i2)
    have big := seq_line I q1
    refine codeAny_builtin F.entry_extend_loop ?_
    rw [Around.under_plainId F.plain_extend_loop _]
    show wpAny _ A.in1 (pyNext (.ref z) >>= _) _ _ s
    refine wpAny_bind (zg_next (A := A.in1) ok zg p1 p2 (x := u) (y := v) (by simpa using hu) (by simpa using hv) fun h' tk zg' tp sz kp => ?_)
    have tl : S < s.heap.objs.size := by
      obtain ⟨_, _, _, _, _, e⟩ := I.lstM eS
      exact Heap.lt_size e
    have fT : H s.heap.objs.size = none := I.hok.fresh (Nat.le_refl _)
    have I1 : Inv X pins σ (upd H s.heap.objs.size (.tup [xs[i], ys[i]])) { s with heap := h', toks := tk } :=
      I.turnedNew (t' := tk) (ch := [z, TI, TO, t1.I, t2.I]) (fun b o hb q => by
        simp only [List.mem_cons, List.not_mem_nil, or_false, not_or] at hb
        exact kp b o hb.1 hb.2.2.1 hb.2.2.2.1 hb.2.2.2.2 q) fp (Nat.le_refl _) ⟨by show 2 ≤ sizeLine; decide, [u, v], .cons ru (.cons rw2 .nil), ⟨_, tp, rfl, _, rfl⟩⟩
    have eS1 : upd H s.heap.objs.size (.tup [xs[i], ys[i]]) S = some (.lst vs) := by rw [upd_ne (Nat.ne_of_lt tl)]; exact eS
    obtain ⟨vz, its2, n2, rvs, lvs, eo⟩ := I1.lstM eS1
    show wpAny _ A.in1 (updateSeq S (·.push (.ref s.heap.objs.size)) >>= _) _ _ { s with heap := h', toks := tk }
    have I2 := I1.lset (t' := tk) (f := (·.push (Value.ref s.heap.objs.size))) (its' := its2 ++ [.ref s.heap.objs.size]) (ys := vs ++ [.ref s.heap.objs.size]) eS1 eo (by simp) (rvs.append (.cons (show L2.RelV (.ref s.heap.objs.size) (.ref s.heap.objs.size) from rfl) .nil)) (by rw [List.length_append, List.length_singleton]; omega)
    have kH : ∀ a o, a ≠ S → H a = some o → upd (upd H s.heap.objs.size (.tup [xs[i], ys[i]])) S (.lst (vs ++ [.ref s.heap.objs.size])) a = some o := fun a o na q => by
      rw [upd_ne na, upd_ne (ne_of_none q fT)]; exact q
    refine wpAny_bind (wpAny_updateSeq eo rfl (wpAny_pure ⟨plainId_quiet F.plain_extend_loop _, ih (i + 1) _ _ (vs ++ [.ref s.heap.objs.size]) (by omega) (by omega) I2 (fun b hb => ⟨?_, (fp b hb).2⟩) (zg'.keep fun b hb o q => ?_) (sqk_keep (fun o q => kH _ o s1 q) q1) (sqk_keep (fun o q => kH _ o s2 q) q2) upd_same (by simp [lv]) ?_ fun s' H' vs' J g e l p => hR s' H' vs' J ⟨fun a o na q => g.1 a o na (kH a o na q), fun a q => ?_⟩ e l p⟩) (by rw [List.size_toArray]; omega) (by rw [Array.size_push, List.size_toArray]; omega))
    · have nb := (fp b hb).1
      have b1 : b ≠ S := fun r => hS (r ▸ hb)
      have b2 : b ≠ s.heap.objs.size := by
        obtain ⟨f0, fb, hz, _⟩ := zg.zp
        obtain ⟨ws, _, hTO⟩ := zg.to
        have lt : b < s.heap.objs.size := by
          simp only [List.mem_cons, List.not_mem_nil, or_false] at hb
          rcases hb with r | r | r | r | r <;> rw [r]
          · exact Heap.lt_size hz
          · exact Heap.lt_size zg.ti
          · exact Heap.lt_size hTO
          · exact zg.i1.lt
          · exact zg.i2.lt
        exact Nat.ne_of_lt lt
      rw [upd_ne b1, upd_ne b2]
      exact nb
    · have b1 : S ≠ b := fun r => hS (by
        rw [r]
        rcases hb with q | q | q | q | q <;> rw [q] <;> simp)
      exact (Heap.get?_update_other _ _ b1).trans q
    · show PrL _ _ _ _
      unfold PrL
      intro j w hj
      by_cases c : j < vs.length
      · rw [List.getElem?_append_left c] at hj
        obtain ⟨T, x, y, e1, e2, e3, e4⟩ := pr j w hj
        refine ⟨T, x, y, e1, e2, e3, kH T _ (fun r => ?_) e4⟩
        rw [r, eS] at e4; cases e4
      · have e : j = vs.length := by
          have := (List.getElem?_eq_some_iff.mp hj).1
          simp at this
          omega
        rw [e, List.getElem?_append_right (Nat.le_refl _), Nat.sub_self] at hj
        cases hj
        refine ⟨_, xs[i], ys[i], rfl, ?_, ?_, ?_⟩
        · rw [e, lv]; exact List.getElem?_eq_getElem i1
        · rw [e, lv]; exact List.getElem?_eq_getElem i2
        · rw [upd_ne (Nat.ne_of_gt tl), upd_same]
    · have z := g.2 a q
      by_cases c : a = S
      · rw [c, upd_same] at z; cases z
      · rw [upd_ne c] at z
        by_cases c2 : a = s.heap.objs.size
        · rw [c2, upd_same] at z; cases z
        · rw [upd_ne c2] at z
          exact z
theorem zip_no_len : typeLookup (.type "zip") "__len__" = pure none := by
  rw [typeLookup_type, builtinLookup_eq_fast]
  kernel_rfl
theorem zip_no_hint : typeLookup (.type "zip") "__length_hint__" = pure none := by
  rw [typeLookup_type, builtinLookup_eq_fast]
  kernel_rfl
/-- the list's begin: an empty list stands at S, the zip is asked for its length, the loop goes on -/
theorem lz_extend {z S : Addr} {res : Value} {R : Result → Shared → Prop} {prog : Program} {w : World} {A : Around} {s : Shared} {c₀ : Nat} (ne : S ≠ z) (hT : s.TypeIs (.ref z) "zip") (self : ∀ (A : Around) (E : Value → Shared → Prop) (Q : Value → Shared → Prop), Q (.ref z) s → wpAny (model prog w) A (pyIter (.ref z)) Q E s)
    (hS : s.heap.get? S = some { cls := .type "list", data := .seq #[] c₀ })
    (go : ∀ h' c, (∀ b o, b ≠ S → s.heap.get? b = some o → h'.get? b = some o) → h'.get? S = some { cls := .type "list", data := .seq #[] c } → codeAny (model prog w) A (.builtin "list.extend.loop" ⟨[.ref S, .ref z, res], []⟩) R { s with heap := h' }) :
    wpAny (model prog w) A.in1 (Builtin.List.listExtendWith (.ref S) (.ref z) res) (fun fin s' => match fin with | .done f => R (.ok f) s' | .again c' => c'.quiet = true ∧ codeAny (model prog w) A c' R s') (fun e s' => R (.error e) s') s := by
  unfold Builtin.List.listExtendWith
  refine wpAny_bind (wpAny_typeOf hT ?_)
  have h1 : Builtin.List.listSameRef (.ref S) (.ref z) = false := by simp [Builtin.List.listSameRef, ne]
  have h2 : (Value.type "zip" == Value.type "list") = false := by decide
  have h3 : (Value.type "zip" == Value.type "tuple") = false := by decide
  simp only [h1, h2, h3, Bool.or_false, Bool.false_eq_true, ↓reduceIte]
  refine wpAny_bind (self _ _ _ (wpAny_bind (wpAny_holding ?_)))
  unfold Builtin.List.listLengthHint
  refine wpAny_bind (wpAny_specialOf hT zip_no_len ?_)
  show wpAny _ A.in1 (specialOf (Value.ref z) (Str.ofString "__length_hint__") >>= _) _ _ s
  refine wpAny_bind (wpAny_specialOf hT zip_no_hint (wpAny_pure ?_))
  show wpAny _ A.in1 (rule "list.extend.makes-room" >>= fun _ => Builtin.List.listTouch (.ref S) >>= fun _ => again (.builtin "list.extend.loop" ⟨[.ref S, .ref z, res], []⟩)) _ _ s
  refine wpAny_bind (wpAny_rule (wpAny_bind ?_))
  show wpAny _ A.in1 (updateSeq S (·.push .none) >>= fun _ => updateSeq S (·.pop)) _ _ s
  have u1 := Heap.get?_update_self (Obj.mapSeq (·.push Value.none)) hS rfl
  have u2 := Heap.get?_update_self (Obj.mapSeq (·.pop)) u1 rfl
  refine wpAny_bind (wpAny_updateSeq hS rfl (wpAny_updateSeq (hz := by seq_fits) u1 rfl (wpAny_pure ⟨plainId_quiet F.plain_extend_loop _, ?_⟩)))
  exact go _ _ (fun b o nb q => (Heap.get?_update_other _ _ nb.symm).trans ((Heap.get?_update_other _ _ nb.symm).trans q)) u2
/-- list(zip(x, y)) -/
def tListZip (K : PySem.W.Frag) (ta : TA) : TE := fun σ H Q => tTwo K ta σ H fun k1 a k2 b H1 => ∀ xs ys, (∀ l, SqK K k1 H1 a l → l = xs) → (∀ l, SqK K k2 H1 b l → l = ys) → ∀ S H' vs, H1 S = none → GrX S H1 H' → H' S = some (.lst vs) → vs.length = min xs.length ys.length → PrL H' vs xs ys → Q (.ref S) H'
theorem pe_listZip (calm : X.calm = true) (gl : Gl X "list") (ml : X.mg "list" = none) (gz : Gl X "zip") (mz : X.mg "zip" = none) (ha : PA X [x, y] ta) (hs : starEach [x, y] X.env = (false, eval x X.env) :: starEach [y] X.env) (hpl : (backTo pos1 (starEach [y] X.env)).any (·.1) = false)
    (one : starEach [Expr.Call (.Name "zip" p1) [x, y] [] pos1] X.env = (false, eval (.Call (.Name "zip" p1) [x, y] [] pos1) X.env) :: starEach [] X.env := by rfl) :
    PE X (.Call (.Name "list" p) [.Call (.Name "zip" p1) [x, y] [] pos1] [] pos) (tListZip X.K ta) := by
  refine ⟨fun pins s σ H Q I h => ?_⟩
  refine Call_ (ld_blt I gl ml boot_list (PyProof.Rows.callWith_type1 (args_cons (thn (step_zip gz mz ha hs hpl I h) fun v s1 got => args_nil ?_) one) one))
  obtain ⟨z, TI, TO, t1, t2, H1, ev, ok, zg, J, fp, ⟨xs, sq1⟩, ⟨ys, sq2⟩, fin⟩ := got
  subst ev
  obtain ⟨f0, fb, hz, fr⟩ := id zg.zp
  have zlt : z < s1.heap.objs.size := Heap.lt_size hz
  refine callType_codes (Q₁ := fun obj s₂ => obj = .ref s1.heap.objs.size ∧ s₂ = { s1 with heap := s1.heap.push { cls := .type "list", data := .seq #[] } }) F.called_list (F.typeCall_list_1 _) F.entry_list_init (code_list_new _ ⟨rfl, rfl⟩) fun obj s₂ e₂ => ?_
  obtain ⟨rfl, rfl⟩ := e₂
  have hS : (s1.heap.push { cls := .type "list", data := .seq #[] }).get? s1.heap.objs.size = some { cls := .type "list", data := .seq #[] } := Heap.get?_push_size _ rfl
  refine ⟨⟨_, hS, rfl⟩, F.args_list_init_2 _ _, ?_⟩
  show wpAny _ _ (do let old ← Builtin.List.listItems (.ref s1.heap.objs.size); Builtin.List.listUpdate (.ref s1.heap.objs.size) (fun _ => #[]); letGo old.toList.reverse; Builtin.List.listExtendWith (.ref s1.heap.objs.size) (.ref z) .none) _ _ _
  refine wpAny_bind ?_
  unfold Builtin.List.listItems
  refine wpAny_bind (wpAny_seqItems hS rfl (wpAny_pure ?_))
  show wpAny _ _ (updateSeq s1.heap.objs.size (fun _ => #[]) >>= fun _ => letGo (#[] : Array Value).toList.reverse >>= fun _ => Builtin.List.listExtendWith (.ref s1.heap.objs.size) (.ref z) .none) _ _ _
  refine wpAny_bind (wpAny_updateSeq hS rfl (wpAny_bind (wpAny_letGo ?_)))
  have hS2 := Heap.get?_update_self (Obj.mapSeq (fun _ => (#[] : Array Value))) hS rfl
  have up : ∀ b o, s1.heap.get? b = some o → ((s1.heap.push { cls := .type "list", data := .seq #[] }).update s1.heap.objs.size (Obj.mapSeq (fun _ => (#[] : Array Value)))).get? b = some o := fun b o q => (Heap.get?_update_other _ _ (Nat.ne_of_gt (Heap.lt_size q))).trans (Heap.get?_push_of_some _ q)
  refine lz_extend (Nat.ne_of_gt zlt) ⟨_, up _ _ hz, rfl⟩ (fun A' E' Q' q => selfy_zip (z := z) (TI := TI) (TO := TO) (t1 := t1) (t2 := t2) X.prog X.w A' E' _ Q' (zg.keep fun b _ o q => up b o q) q) hS2 fun h' c kp eS => ?_
  have up2 : ∀ b o, s1.heap.get? b = some o → h'.get? b = some o := fun b o q => kp b o (Nat.ne_of_lt (Heap.lt_size q)) (up b o q)
  have fS : H1 s1.heap.objs.size = none := J.hok.fresh (Nat.le_refl _)
  have J2 : Inv X pins σ (upd H1 s1.heap.objs.size (.lst [])) { s1 with heap := h' } := J.laid (t' := s1.toks) up2 (Nat.le_refl _) (show ObjOk X.prog X.w _ _ _ (.lst []) from ⟨Nat.zero_le _, [], c, .nil, eS⟩)
  have lts : ∀ b ∈ [z, TI, TO, t1.I, t2.I], b < s1.heap.objs.size := fun b hb => by
    obtain ⟨ws, _, hTO⟩ := zg.to
    simp only [List.mem_cons, List.not_mem_nil, or_false] at hb
    rcases hb with r | r | r | r | r <;> rw [r]
    · exact zlt
    · exact Heap.lt_size zg.ti
    · exact Heap.lt_size hTO
    · exact zg.i1.lt
    · exact zg.i2.lt
  have nS1 : t1.a ≠ s1.heap.objs.size := by
    obtain ⟨_, _, q⟩ := seq_at J sq1
    exact Nat.ne_of_lt q.lt
  have nS2 : t2.a ≠ s1.heap.objs.size := by
    obtain ⟨_, _, q⟩ := seq_at J sq2
    exact Nat.ne_of_lt q.lt
  have away : ∀ {a : Addr} {o : HO}, a ≠ s1.heap.objs.size → H1 a = some o → upd H1 s1.heap.objs.size (.lst []) a = some o := fun n q => by rw [upd_ne n]; exact q
  refine lz_loop (A := X.A.in1) (xs := xs) (ys := ys) (show X.A.in1.handled = none from J.ok.hd calm) ok (fun hb => Nat.lt_irrefl _ (lts _ hb)) nS1 nS2 _ 0 _ _ [] rfl (Nat.zero_le _) J2 (fun b hb => ⟨by rw [upd_ne (Nat.ne_of_lt (lts b hb))]; exact (fp b hb).1, (fp b hb).2⟩) (zg.keep fun b _ o q => up2 b o q) (sqk_keep (fun o q => away nS1 q) sq1) (sqk_keep (fun o q => away nS2 q) sq2) upd_same rfl (fun j v e => by simp at e) fun s' H' vs' I' g e l pr => ?_
  refine ⟨rfl, .ref s1.heap.objs.size, H', I', rfl, fin xs ys (fun l hl => seq_inj J hl sq1) (fun l hl => seq_inj J hl sq2) _ H' vs' fS ⟨fun a o na q => g.1 a o na (away na q), fun a q => ?_⟩ e l pr⟩
  have q2 := g.2 a q
  by_cases c : a = s1.heap.objs.size
  · rw [c]; exact fS
  · rw [upd_ne c] at q2; exact q2
end
end MZ

set_option Elab.async false
set_option linter.all false
set_option maxRecDepth 100000
set_option maxHeartbeats 8000000
/-! the expressions' soundness, one form at a time -/
namespace MF
open PySem PySem.Spec PyProof.Rows L2 MZ
variable [LTab]

section
variable {ci : CI} {cs : List D} {cf : CF} {ca : Nat → Addr} {k : Nat} {X : Cx} {Wx : WX}
abbrev TEx (cs : List D) (cf : CF) (ca : Nat → Addr) (X : Cx) (Wx : WX) (e : E) : TE := tE X.K cs cf ca Wx e

/-! ### first an expression, then what goes on from it -/
theorem e_then {e : E} {σ : L2.St} {H : Hp} {α : Type} {f : W → Hs → Res α} {B : Addr → Prop} {φ : List Addr} {env : Ev} {h : Hs} {C : List Addr → Hs → Hp → α → Prop} {Q : VK} (S : RS X.K B φ h H) (R : RE X.K φ (Mu B φ h) H env σ)
    (P : Pg X.K B φ h H (Ex ca Wx σ) ((ev cs cf e env h).bind f) C)
    (g : ∀ φ1 h1 H1 w v, Ext φ h H φ1 h1 H1 → RS X.K B φ1 h1 H1 → RE X.K φ1 (Mu B φ1 h1) H1 env σ → RW X.K φ1 (Mu B φ1 h1) H1 w v → Pg X.K B φ1 h1 H1 (Ex ca Wx σ) (f w h1) C → Q v H1) : tE X.K cs cf ca Wx e σ H Q :=
  ⟨B, φ, env, h, S, R, (Pg.bind P).mono fun φ1 h1 H1 w X1 S1 P1 v rv => g φ1 h1 H1 w v X1 S1 (R.ext X1) rv P1⟩
theorem es_then {es : Es} {σ : L2.St} {H : Hp} {α : Type} {f : List W → Hs → Res α} {B : Addr → Prop} {φ : List Addr} {env : Ev} {h : Hs} {C : List Addr → Hs → Hp → α → Prop} {Q : List V → Hp → Prop} (S : RS X.K B φ h H) (R : RE X.K φ (Mu B φ h) H env σ)
    (P : Pg X.K B φ h H (Ex ca Wx σ) ((evs cs cf es env h).bind f) C)
    (g : ∀ φ1 h1 H1 ws vs, Ext φ h H φ1 h1 H1 → RS X.K B φ1 h1 H1 → RE X.K φ1 (Mu B φ1 h1) H1 env σ → RWs X.K φ1 (Mu B φ1 h1) H1 ws vs → Pg X.K B φ1 h1 H1 (Ex ca Wx σ) (f ws h1) C → Q vs H1) : tEs X.K cs cf ca Wx es σ H Q :=
  ⟨B, φ, env, h, S, R, (Pg.bind P).mono fun φ1 h1 H1 ws X1 S1 P1 vs rv => g φ1 h1 H1 ws vs X1 S1 (R.ext X1) rv P1⟩
theorem o_then {o : Eo} {σ : L2.St} {H : Hp} {α : Type} {f : Option Int → Hs → Res α} {B : Addr → Prop} {φ : List Addr} {env : Ev} {h : Hs} {C : List Addr → Hs → Hp → α → Prop} {Q : Option Int → Hp → Prop} (S : RS X.K B φ h H) (R : RE X.K φ (Mu B φ h) H env σ)
    (P : Pg X.K B φ h H (Ex ca Wx σ) ((evo cs cf o env h).bind f) C)
    (g : ∀ φ1 h1 H1 r, Ext φ h H φ1 h1 H1 → RS X.K B φ1 h1 H1 → RE X.K φ1 (Mu B φ1 h1) H1 env σ → Pg X.K B φ1 h1 H1 (Ex ca Wx σ) (f r h1) C → Q r H1) : tO X.K cs cf ca Wx o σ H Q :=
  ⟨B, φ, env, h, S, R, (Pg.bind P).mono fun φ1 h1 H1 r X1 S1 P1 => g φ1 h1 H1 r X1 S1 (R.ext X1) P1⟩
theorem t_then {e : E} {σ : L2.St} {H : Hp} {α : Type} {f : Bool → Hs → Res α} {B : Addr → Prop} {φ : List Addr} {env : Ev} {h : Hs} {C : List Addr → Hs → Hp → α → Prop} {Q : Bool → Hp → Prop} (S : RS X.K B φ h H) (R : RE X.K φ (Mu B φ h) H env σ)
    (P : Pg X.K B φ h H (Ex ca Wx σ) ((ev cs cf e env h).bind fun x h1 => (Res.opt (truW x h1) h1).bind f) C)
    (g : ∀ φ1 h1 H1 r, Ext φ h H φ1 h1 H1 → RS X.K B φ1 h1 H1 → RE X.K φ1 (Mu B φ1 h1) H1 env σ → Pg X.K B φ1 h1 H1 (Ex ca Wx σ) (f r h1) C → Q r H1) : tT X.K cs cf ca Wx e σ H Q := by
  refine ⟨B, φ, env, h, S, R, ?_⟩
  have P2 : Pg X.K B φ h H (Ex ca Wx σ) (((ev cs cf e env h).bind fun x h1 => Res.opt (truW x h1) h1).bind f) C := by
    cases he : ev cs cf e env h with
    | ok a h1 => rw [he] at P; exact P
    | exc c d h1 => rw [he] at P; exact P
    | bad => rw [he] at P; exact P
  exact (Pg.bind P2).mono fun φ1 h1 H1 r X1 S1 P1 => g φ1 h1 H1 r X1 S1 (R.ext X1) P1

theorem two_then {a b : E} {σ : L2.St} {H : Hp} {α : Type} {f : W → W → Hs → Res α} {B : Addr → Prop} {φ : List Addr} {env : Ev} {h : Hs} {C : List Addr → Hs → Hp → α → Prop} {Q : V → V → Hp → Prop} (S : RS X.K B φ h H) (R : RE X.K φ (Mu B φ h) H env σ)
    (P : Pg X.K B φ h H (Ex ca Wx σ) ((ev cs cf a env h).bind fun x h1 => (ev cs cf b env h1).bind fun y h2 => f x y h2) C)
    (g : ∀ φ2 h2 H2 x y u v, Ext φ h H φ2 h2 H2 → RS X.K B φ2 h2 H2 → RE X.K φ2 (Mu B φ2 h2) H2 env σ → RW X.K φ2 (Mu B φ2 h2) H2 x u → RW X.K φ2 (Mu B φ2 h2) H2 y v → Pg X.K B φ2 h2 H2 (Ex ca Wx σ) (f x y h2) C → Q u v H2) :
    tE X.K cs cf ca Wx a σ H fun u H1 => tE X.K cs cf ca Wx b σ H1 fun v H2 => Q u v H2 :=
  e_then S R P fun φ1 h1 H1 x u X1 S1 R1 ru P1 => e_then S1 R1 P1 fun φ2 h2 H2 y v X2 S2 R2 rv P2 => g φ2 h2 H2 x y u v (X1.trans X2) S2 R2 (ru.ext X2) rv P2

theorem pe_never {a : Expr} {t : TE} (h : ∀ σ H Q, ¬ t σ H Q) : PE X a t := ⟨fun pins s σ H Q I q => absurd q (h σ H Q)⟩

/-! ### the forms -/
theorem f_var {i : Nat} {x : Str} {p : Pos} (hN : X.N[i]? = some x) (hv : visB X.env.scope x = true) (hk : okNm x = true) : PE X (.Name x p) (TEx cs cf ca X Wx (.var i)) := by
  obtain ⟨h1, h2, h3⟩ := okNm_nm hk
  refine pe_of (pe_var hN (visB_vis hv) h1 h2) fun σ H Q ⟨B, φ, env, h, S, R, P⟩ => ?_
  simp only [ev] at P
  cases e : env[i]? with
  | none => rw [e] at P; exact P.elim
  | some o =>
    cases o with
    | none => rw [e] at P; exact P.elim
    | some w =>
      rw [e] at P
      obtain ⟨v, h1, h2⟩ := R.2 i w e
      exact ⟨v, h1, Pg.okv S P v h2⟩
theorem f_con (G : Gd ci cs cf ca k X Wx) {j : Nat} {x : Str} {p : Pos} (hc : ci.cons[j]? = some x) (hg : glB X.env.scope x = true) (hk : okNm x = true) : PE X (.Name x p) (TEx cs cf ca X Wx (.con j)) := by
  obtain ⟨h1, h2, h3⟩ := okNm_nm hk
  cases e : cs[j]? with
  | none =>
    refine pe_never fun σ H Q ⟨B, φ, env, h, S, R, P⟩ => ?_
    simp only [ev, e] at P
    exact P.elim
  | some d =>
    obtain ⟨u, v, m, r, rd⟩ := G.con j x d hc e
    refine pe_of (pe_glob (glB_gl hg) m r h1) fun σ H Q ⟨B, φ, env, h, S, R, P⟩ => ?_
    simp only [ev, e] at P
    exact Pg.okv S P v (.t (rd _ _))
theorem f_lit {d : D} {c : Const} {j : Nat} {p : Pos} (hl : litB d c = true) : PE X (.Constant c j p) (TEx cs cf ca X Wx (.lit d)) := by
  have fin : ∀ {v : V} {d : D}, PE X (.Constant c j p) (tC v) → (∀ M H, RD X.K M H d v) → PE X (.Constant c j p) (TEx cs cf ca X Wx (.lit d)) := fun hp rd =>
    pe_of hp fun σ H Q ⟨B, φ, env, h, S, R, P⟩ => Pg.okv S P _ (.t (rd _ _))
  cases d <;> cases c <;> simp only [litB, Bool.false_eq_true] at hl
  · exact fin pe_non fun _ _ => .non
  · have e := eq_of_beq hl
    subst e
    exact fin pe_bl fun _ _ => .bl _
  · have e := eq_of_beq hl
    subst e
    exact fin pe_int fun _ _ => .int _
  · have e := of_decide_eq_true hl
    subst e
    exact fin pe_str fun _ _ => .str _
theorem f_bin {o : Op2} {a b : E} {x y : Expr} {op : Operator} {p : Pos} (ho : opB o op = true) (ha : PE X x (TEx cs cf ca X Wx a)) (hb : PE X y (TEx cs cf ca X Wx b)) : PE X (.BinOp x op y p) (TEx cs cf ca X Wx (.bin o a b)) := by
  rw [opB_eq ho]
  refine pe_of (pe_op (op_bin o) ha hb) fun σ H Q ⟨B, φ, env, h, S, R, P⟩ => ?_
  refine two_then S R P fun φ2 h2 H2 x y u v X2 S2 R2 ru rv P2 => ?_
  obtain ⟨w, e, P3⟩ := Pg.optc P2
  obtain ⟨d, hd, e⟩ := Option.bind_eq_some_iff.mp e
  obtain ⟨d2, hd2, e⟩ := Option.bind_eq_some_iff.mp e
  obtain ⟨r, hr, e⟩ := Option.map_eq_some_iff.mp e
  subst e
  exact ⟨B, φ2, h2, d, d2, r, S2, peek_ok S2 ru hd, peek_ok S2 rv hd2, hr, Yd.of P3⟩
theorem f_neg {a : E} {x : Expr} {p : Pos} (ha : PE X x (TEx cs cf ca X Wx a)) : PE X (.UnaryOp .USub x p) (TEx cs cf ca X Wx (.neg a)) := by
  refine pe_of (pe_un op_negD ha) fun σ H Q ⟨B, φ, env, h, S, R, P⟩ => ?_
  refine e_then S R P fun φ1 h1 H1 w v X1 S1 R1 rv P1 => ?_
  cases w with
  | t d =>
    cases d <;> first | exact P1.elim | skip
    cases rv with
    | t r => cases r; exact ⟨_, rfl, Pg.okv S1 P1 _ (.t (.int _))⟩
  | ref _ => exact P1.elim
  | pr _ _ => exact P1.elim
  | scr _ => exact P1.elim
theorem bind_assoc {α β γ : Type} (m : Res α) (f : α → Hs → Res β) (g : β → Hs → Res γ) : (m.bind f).bind g = m.bind fun a h => (f a h).bind g := by
  cases m <;> rfl
theorem cmp_then {o : Cp} {a b : E} {σ : L2.St} {H : Hp} {Q : VK} {α : Type} {f : Bool → Hs → Res α} {B : Addr → Prop} {φ : List Addr} {env : Ev} {h : Hs} {C : List Addr → Hs → Hp → α → Prop} (S : RS X.K B φ h H) (R : RE X.K φ (Mu B φ h) H env σ)
    (P : Pg X.K B φ h H (Ex ca Wx σ) ((ev cs cf a env h).bind fun x h1 => (ev cs cf b env h1).bind fun y h2 => (Res.opt ((x.peek h2).bind fun d => (y.peek h2).bind fun e => cmpD o d e) h2).bind f) C)
    (g : ∀ φ2 h2 H2 r, RS X.K B φ2 h2 H2 → Pg X.K B φ2 h2 H2 (Ex ca Wx σ) (f r h2) C → Q (.bl r) H2) :
    tOp (rCmp X.K o) (tE X.K cs cf ca Wx a) (tE X.K cs cf ca Wx b) σ H Q := by
  refine two_then S R P fun φ2 h2 H2 x y u v X2 S2 R2 ru rv P2 => ?_
  obtain ⟨r, e, P3⟩ := Pg.optBind P2
  obtain ⟨d, hd, e⟩ := Option.bind_eq_some_iff.mp e
  obtain ⟨d2, hd2, e⟩ := Option.bind_eq_some_iff.mp e
  exact ⟨B, φ2, h2, d, d2, r, peek_ok S2 ru hd, peek_ok S2 rv hd2, e, g _ _ _ _ S2 P3⟩
theorem opt_map {α β : Type} {o : Option α} {f : α → β} {h : Hs} : Res.opt (o.map f) h = (Res.opt o h).bind fun a h => .ok (f a) h := by cases o <;> rfl
theorem cmp_opt {o : Cp} {x y : W} {h : Hs} : Res.opt ((x.peek h).bind fun d => (y.peek h).bind fun e => (cmpD o d e).map fun r => W.t (.bool r)) h = (Res.opt ((x.peek h).bind fun d => (y.peek h).bind fun e => cmpD o d e) h).bind fun r h => .ok (.t (.bool r)) h := by
  cases x.peek h with
  | none => rfl
  | some d =>
    cases y.peek h with
    | none => rfl
    | some e =>
      simp only [Option.bind_some]
      exact opt_map
theorem f_cmp (G : Gd ci cs cf ca k X Wx) {o : Cp} {a b : E} {x y : Expr} {op : CmpOp} {p : Pos} (ho : cpB o op = true) (hm : behindInMarks op y = false) (ha : PE X x (TEx cs cf ca X Wx a)) (hb : PE X y (TEx cs cf ca X Wx b)) : PE X (.Compare x [op] [y] p) (TEx cs cf ca X Wx (.cmp o a b)) := by
  have e := cpB_eq ho
  subst e
  refine pe_of (pe_cmpR (op_cmp (Nat.lt_trans (Nat.add_lt_add_left (by decide) _) G.un) o) ha hb hm) fun σ H Q ⟨B, φ, env, h, S, R, P⟩ => ?_
  simp only [ev, cmp_opt] at P
  exact cmp_then S R P fun φ2 h2 H2 r S2 q => Pg.okv S2 q _ (.t (.bl r))
theorem t_cmp (G : Gd ci cs cf ca k X Wx) {o : Cp} {a b : E} {x y : Expr} {op : CmpOp} {p : Pos} (ho : cpB o op = true) (hm : behindInMarks op y = false) (ha : PE X x (TEx cs cf ca X Wx a)) (hb : PE X y (TEx cs cf ca X Wx b)) : PT X (.Compare x [op] [y] p) (tT X.K cs cf ca Wx (.cmp o a b)) := by
  have e := cpB_eq ho
  subst e
  refine pt_of (pt_cmpR (op_cmp (Nat.lt_trans (Nat.add_lt_add_left (by decide) _) G.un) o) ha hb hm) fun σ H Q ⟨B, φ, env, h, S, R, P⟩ => ?_
  simp only [ev, cmp_opt, bind_assoc] at P
  exact cmp_then S R P fun φ2 h2 H2 r S2 q => ⟨r, rfl, Pg.okv S2 q⟩
/-- a op b op c -/
theorem chain_then {o o' : Cp} {a b c : E} {σ : L2.St} {H : Hp} {Q : VK} {α : Type} {f : Bool → Hs → Res α} {B : Addr → Prop} {φ : List Addr} {env : Ev} {h : Hs} {C : List Addr → Hs → Hp → α → Prop} (S : RS X.K B φ h H) (R : RE X.K φ (Mu B φ h) H env σ)
    (P : Pg X.K B φ h H (Ex ca Wx σ) ((ev cs cf a env h).bind fun x h1 => (ev cs cf b env h1).bind fun y h2 => (Res.opt ((x.peek h2).bind fun d => (y.peek h2).bind fun e => cmpD o d e) h2).bind fun r h3 =>
      if r = true then (ev cs cf c env h3).bind fun z h4 => (Res.opt ((y.peek h4).bind fun d => (z.peek h4).bind fun e => cmpD o' d e) h4).bind f else f false h3) C)
    (g : ∀ φ2 h2 H2 r, RS X.K B φ2 h2 H2 → Pg X.K B φ2 h2 H2 (Ex ca Wx σ) (f r h2) C → Q (.bl r) H2) :
    tChain (rCmp X.K o) (rCmp X.K o') (tE X.K cs cf ca Wx a) (tE X.K cs cf ca Wx b) (tE X.K cs cf ca Wx c) σ H Q := by
  refine two_then S R P fun φ2 h2 H2 x y u v X2 S2 R2 ru rv P2 => ?_
  obtain ⟨r, e, P3⟩ := Pg.optBind P2
  obtain ⟨d, hd, e⟩ := Option.bind_eq_some_iff.mp e
  obtain ⟨d2, hd2, e⟩ := Option.bind_eq_some_iff.mp e
  refine ⟨B, φ2, h2, d, d2, r, peek_ok S2 ru hd, peek_ok S2 rv hd2, e, r, rfl, ?_⟩
  cases r with
  | false => exact g _ _ _ _ S2 P3
  | true =>
    refine e_then S2 R2 P3 fun φ4 h4 H4 z v4 X4 S4 R4 r4 P4 => ?_
    obtain ⟨r', e, P5⟩ := Pg.optBind P4
    obtain ⟨d, hd, e⟩ := Option.bind_eq_some_iff.mp e
    obtain ⟨d2, hd2, e⟩ := Option.bind_eq_some_iff.mp e
    exact ⟨B, φ4, h4, d, d2, r', peek_ok S4 (rv.ext X4) hd, peek_ok S4 r4 hd2, e, g _ _ _ _ S4 P5⟩
theorem f_chain (G : Gd ci cs cf ca k X Wx) {o o' : Cp} {a b c : E} {x y z : Expr} {op op' : CmpOp} {p : Pos} (ho : cpB o op = true) (ho' : cpB o' op' = true) (hm : lastMarks [op, op'] [y, z] = false) (ha : PE X x (TEx cs cf ca X Wx a)) (hb : PE X y (TEx cs cf ca X Wx b)) (hc : PE X z (TEx cs cf ca X Wx c)) :
    PE X (.Compare x [op, op'] [y, z] p) (TEx cs cf ca X Wx (.chain o o' a b c)) := by
  have e := cpB_eq ho
  subst e
  have e := cpB_eq ho'
  subst e
  have hu := Nat.lt_trans (Nat.add_lt_add_left (show 64 < 150 by decide) _) G.un
  refine pe_of (pe_chain (op_cmp hu o) (op_cmp hu o') ha hb hc hm) fun σ H Q ⟨B, φ, env, h, S, R, P⟩ => ?_
  simp only [ev, cmp_opt, bind_assoc] at P
  exact chain_then S R P fun φ2 h2 H2 r S2 q => Pg.okv S2 q _ (.t (.bl r))
theorem ite_bind {α β : Type} {c : Prop} [Decidable c] {a b : Res α} {f : α → Hs → Res β} : (if c then a else b).bind f = if c then a.bind f else b.bind f := by split <;> rfl
theorem t_chain (G : Gd ci cs cf ca k X Wx) {o o' : Cp} {a b c : E} {x y z : Expr} {op op' : CmpOp} {p : Pos} (ho : cpB o op = true) (ho' : cpB o' op' = true) (hm : lastMarks [op, op'] [y, z] = false) (ha : PE X x (TEx cs cf ca X Wx a)) (hb : PE X y (TEx cs cf ca X Wx b)) (hc : PE X z (TEx cs cf ca X Wx c)) :
    PT X (.Compare x [op, op'] [y, z] p) (tT X.K cs cf ca Wx (.chain o o' a b c)) := by
  have e := cpB_eq ho
  subst e
  have e := cpB_eq ho'
  subst e
  have hu := Nat.lt_trans (Nat.add_lt_add_left (show 64 < 150 by decide) _) G.un
  refine pt_of (pt_chain (op_cmp hu o) (op_cmp hu o') ha hb hc hm) fun σ H Q ⟨B, φ, env, h, S, R, P⟩ => ?_
  simp only [ev, cmp_opt, bind_assoc, ite_bind] at P
  exact chain_then S R P fun φ2 h2 H2 r S2 q => ⟨r, rfl, Pg.okv S2 q⟩
/-- what is tested by its value's truth -/
theorem tru_then {e : E} {σ : L2.St} {H : Hp} {α : Type} {f : W → Bool → Hs → Res α} {B : Addr → Prop} {φ : List Addr} {env : Ev} {h : Hs} {C : List Addr → Hs → Hp → α → Prop} {Q : V → Hp → Prop} (S : RS X.K B φ h H) (R : RE X.K φ (Mu B φ h) H env σ)
    (P : Pg X.K B φ h H (Ex ca Wx σ) ((ev cs cf e env h).bind fun x h1 => (Res.opt (truW x h1) h1).bind (f x)) C)
    (g : ∀ φ1 h1 H1 w v, Ext φ h H φ1 h1 H1 → RS X.K B φ1 h1 H1 → RE X.K φ1 (Mu B φ1 h1) H1 env σ → RW X.K φ1 (Mu B φ1 h1) H1 w v → ∀ d r, RP X.K (Mu B φ1 h1) H1 d v → truD d = some r → Pg X.K B φ1 h1 H1 (Ex ca Wx σ) (f w r h1) C → Q v H1) : tE X.K cs cf ca Wx e σ H Q := by
  refine e_then S R P fun φ1 h1 H1 w v X1 S1 R1 rv P1 => ?_
  obtain ⟨r, e, P2⟩ := Pg.optBind P1
  obtain ⟨d, hd, e⟩ := Option.bind_eq_some_iff.mp e
  exact g _ _ _ _ _ X1 S1 R1 rv d r (peek_ok S1 rv hd) e P2
theorem f_and {a b : E} {x y : Expr} {rest : List Expr} {p : Pos} (ha : PE X x (TEx cs cf ca X Wx a)) (hb : PE X (.BoolOp .And (y :: rest) p) (TEx cs cf ca X Wx b)) : PE X (.BoolOp .And (x :: y :: rest) p) (TEx cs cf ca X Wx (.and a b)) := by
  refine pe_of (pe_andD ha hb) fun σ H Q ⟨B, φ, env, h, S, R, P⟩ => ?_
  refine tru_then S R P fun φ1 h1 H1 w v X1 S1 R1 rv d r pd e P2 => ⟨B, φ1, h1, d, r, pd, e, ?_⟩
  cases r with
  | true => exact ⟨B, φ1, env, h1, S1, R1, P2⟩
  | false => exact Pg.okv S1 P2 v rv
theorem f_or {a b : E} {x y : Expr} {rest : List Expr} {p : Pos} (ha : PE X x (TEx cs cf ca X Wx a)) (hb : PE X (.BoolOp .Or (y :: rest) p) (TEx cs cf ca X Wx b)) : PE X (.BoolOp .Or (x :: y :: rest) p) (TEx cs cf ca X Wx (.or a b)) := by
  refine pe_of (pe_orD ha hb) fun σ H Q ⟨B, φ, env, h, S, R, P⟩ => ?_
  refine tru_then S R P fun φ1 h1 H1 w v X1 S1 R1 rv d r pd e P2 => ⟨B, φ1, h1, d, r, pd, e, ?_⟩
  cases r with
  | false => exact ⟨B, φ1, env, h1, S1, R1, P2⟩
  | true => exact Pg.okv S1 P2 v rv
theorem f_not {a : E} {x : Expr} {p : Pos} (ha : PE X x (TEx cs cf ca X Wx a)) : PE X (.UnaryOp .Not x p) (TEx cs cf ca X Wx (.not a)) := by
  refine pe_of (pe_notD ha) fun σ H Q ⟨B, φ, env, h, S, R, P⟩ => ?_
  exact tru_then S R P fun φ1 h1 H1 w v X1 S1 R1 rv d r pd e P2 => ⟨B, φ1, h1, d, r, pd, e, Pg.okv S1 P2 _ (.t (.bl (!r)))⟩
theorem f_ife {c a b : E} {t x y : Expr} {p : Pos} (hc : PT X t (tT X.K cs cf ca Wx c)) (ha : PE X x (TEx cs cf ca X Wx a)) (hb : PE X y (TEx cs cf ca X Wx b)) : PE X (.IfExp t x y p) (TEx cs cf ca X Wx (.ife c a b)) := by
  refine pe_of (pe_ifExp hc ha hb) fun σ H Q ⟨B, φ, env, h, S, R, P⟩ => ?_
  refine t_then S R P fun φ1 h1 H1 r X1 S1 R1 P1 => ?_
  cases r with
  | true => exact ⟨B, φ1, env, h1, S1, R1, P1⟩
  | false => exact ⟨B, φ1, env, h1, S1, R1, P1⟩
/-! ### tests -/
theorem t_plain {e : E} {a : Expr} (ha : PE X a (TEx cs cf ca X Wx e)) (he : ∀ whole, isTrue a X.env whole = (do let v ← whole; standAt a.pos; holding [v] (truthy v))) : PT X a (tT X.K cs cf ca Wx e) := by
  refine pt_of (pt_D ha he) fun σ H Q ⟨B, φ, env, h, S, R, P⟩ => ?_
  refine e_then S R P fun φ1 h1 H1 w v X1 S1 R1 rv P1 => ?_
  obtain ⟨r, e, P2⟩ := Pg.optc P1
  obtain ⟨d, hd, e⟩ := Option.bind_eq_some_iff.mp e
  exact ⟨B, φ1, h1, d, r, peek_ok S1 rv hd, e, Pg.okv S1 P2⟩
theorem t_not {a : E} {x : Expr} {p : Pos} (ha : PT X x (tT X.K cs cf ca Wx a)) : PT X (.UnaryOp .Not x p) (tT X.K cs cf ca Wx (.not a)) := by
  refine pt_of (pt_not ha) fun σ H Q ⟨B, φ, env, h, S, R, P⟩ => ?_
  simp only [ev, bind_assoc] at P
  exact t_then S R P fun φ1 h1 H1 r X1 S1 R1 P1 => Pg.okv S1 P1
theorem tru_bool {x : W} {h : Hs} {r : Bool} {hh : Hs} : truW (.t (.bool r)) h = some r := rfl
/-- and, or: what is true, false by its value's truth -/
theorem w_and1 {b : E} {y : Expr} {p : Pos} (hb : PT X y (tT X.K cs cf ca Wx b)) : PW X (.BoolOp .And [y] p) (tT X.K cs cf ca Wx b) := pw_and1 hb
theorem and_test {a b : E} {env : Ev} {h : Hs} : ((ev cs cf (.and a b) env h).bind fun x h1 => Res.opt (truW x h1) h1) = (ev cs cf a env h).bind fun x h1 => (Res.opt (truW x h1) h1).bind fun r h2 => if r = true then (ev cs cf b env h2).bind fun x h1 => Res.opt (truW x h1) h1 else .ok false h2 := by
  simp only [ev, bind_assoc]
  cases ev cs cf a env h with
  | ok x h1 =>
    simp only [Res.ok_bind]
    cases e : truW x h1 with
    | none => rfl
    | some r =>
      cases r with
      | true => rfl
      | false =>
        simp [e]
  | exc c d h1 => rfl
  | bad => rfl
theorem or_test {a b : E} {env : Ev} {h : Hs} : ((ev cs cf (.or a b) env h).bind fun x h1 => Res.opt (truW x h1) h1) = (ev cs cf a env h).bind fun x h1 => (Res.opt (truW x h1) h1).bind fun r h2 => if r = true then .ok true h2 else (ev cs cf b env h2).bind fun x h1 => Res.opt (truW x h1) h1 := by
  simp only [ev, bind_assoc]
  cases ev cs cf a env h with
  | ok x h1 =>
    simp only [Res.ok_bind]
    cases e : truW x h1 with
    | none => rfl
    | some r =>
      cases r with
      | false => rfl
      | true =>
        simp [e]
  | exc c d h1 => rfl
  | bad => rfl
theorem w_and {a b : E} {x y : Expr} {rest : List Expr} {p : Pos} (ha : PT X x (tT X.K cs cf ca Wx a)) (hb : PW X (.BoolOp .And (y :: rest) p) (tT X.K cs cf ca Wx b)) : PW X (.BoolOp .And (x :: y :: rest) p) (tT X.K cs cf ca Wx (.and a b)) := by
  have q := pw_and ha hb
  refine ⟨fun wh pins s σ H Q I hh => q.run wh pins s σ H Q I ?_⟩
  obtain ⟨B, φ, env, h, S, R, P⟩ := hh
  rw [and_test] at P
  refine t_then S R P fun φ1 h1 H1 r X1 S1 R1 P1 => ?_
  cases r with
  | true => exact ⟨B, φ1, env, h1, S1, R1, P1⟩
  | false => exact Pg.okv S1 P1
theorem w_or {a b : E} {x y : Expr} {rest : List Expr} {p : Pos} (ha : PT X x (tT X.K cs cf ca Wx a)) (hb : PW X (.BoolOp .Or (y :: rest) p) (tT X.K cs cf ca Wx b)) : PW X (.BoolOp .Or (x :: y :: rest) p) (tT X.K cs cf ca Wx (.or a b)) := by
  have q := pw_or ha hb
  refine ⟨fun wh pins s σ H Q I hh => q.run wh pins s σ H Q I ?_⟩
  obtain ⟨B, φ, env, h, S, R, P⟩ := hh
  rw [or_test] at P
  refine t_then S R P fun φ1 h1 H1 r X1 S1 R1 P1 => ?_
  cases r with
  | false => exact ⟨B, φ1, env, h1, S1, R1, P1⟩
  | true => exact Pg.okv S1 P1
theorem t_ife {c a b : E} {t x y : Expr} {p : Pos} (hc : PT X t (tT X.K cs cf ca Wx c)) (ha : PT X x (tT X.K cs cf ca Wx a)) (hb : PT X y (tT X.K cs cf ca Wx b)) : PT X (.IfExp t x y p) (tT X.K cs cf ca Wx (.ife c a b)) := by
  refine ⟨fun pins s σ H Q I hh => ?_⟩
  obtain ⟨B, φ, env, h, S, R, P⟩ := hh
  simp only [ev, bind_assoc, ite_bind] at P
  have q : tT X.K cs cf ca Wx c σ H fun r H1 => if r = true then tT X.K cs cf ca Wx a σ H1 Q else tT X.K cs cf ca Wx b σ H1 Q := t_then S R P fun φ1 h1 H1 r X1 S1 R1 P1 => by
    cases r with
    | true => exact ⟨B, φ1, env, h1, S1, R1, P1⟩
    | false => exact ⟨B, φ1, env, h1, S1, R1, P1⟩
  refine isTrue_IfExp (thn (hc.run pins s σ H _ I q) fun r s1 ⟨H1, I1, q1⟩ => ?_)
  cases r with
  | true => exact ha.run pins s1 σ H1 Q I1 q1
  | false => exact hb.run pins s1 σ H1 Q I1 q1
end
end MF

set_option Elab.async false
set_option linter.all false
set_option maxRecDepth 100000
set_option maxHeartbeats 8000000
/-! displays, subscripts, calls -/
namespace MF
open PySem PySem.Spec PyProof.Rows L2 MZ
variable [LTab]

section
variable {ci : CI} {cs : List D} {cf : CF} {ca : Nat → Addr} {k : Nat} {X : Cx} {Wx : WX}
abbrev TAx (cs : List D) (cf : CF) (ca : Nat → Addr) (X : Cx) (Wx : WX) (e : Es) : TA := tEs X.K cs cf ca Wx e
theorem a_nil : PA X [] (TAx cs cf ca X Wx .nil) := pa_of pa_nil fun σ H Q ⟨B, φ, env, h, S, R, P⟩ => Pg.okv S P [] .nil
theorem a_cons {e : E} {es : Es} {a : Expr} {as : List Expr} (hp : Plain a) (ha : PE X a (TEx cs cf ca X Wx e)) (has : PA X as (TAx cs cf ca X Wx es)) : PA X (a :: as) (TAx cs cf ca X Wx (.cons e es)) := by
  refine pa_of (pa_cons ha has (star_one hp)) fun σ H Q ⟨B, φ, env, h, S, R, P⟩ => ?_
  refine e_then S R P fun φ1 h1 H1 w v X1 S1 R1 rv P1 => ?_
  exact es_then S1 R1 P1 fun φ2 h2 H2 ws vs X2 S2 R2 rvs P2 => Pg.okv S2 P2 (v :: vs) (.cons (rv.ext X2) rvs)
theorem o_none : PO X none (tO X.K cs cf ca Wx .no) := po_of po_none fun σ H Q ⟨B, φ, env, h, S, R, P⟩ => Pg.okv S P
theorem o_some {e : E} {a : Expr} (ha : PE X a (TEx cs cf ca X Wx e)) : PO X (some a) (tO X.K cs cf ca Wx (.so e)) := by
  refine po_of (po_some ha) fun σ H Q ⟨B, φ, env, h, S, R, P⟩ => ?_
  refine e_then S R P fun φ1 h1 H1 w v X1 S1 R1 rv P1 => ?_
  obtain ⟨i, e, P2⟩ := Pg.optBind P1
  cases w with
  | t d =>
    cases d <;> first | (cases e; done) | skip
    cases e
    cases rv with
    | t r => cases r; exact ⟨_, rfl, Pg.okv S1 P2⟩
  | ref _ => cases e
  | pr _ _ => cases e
  | scr _ => cases e

theorem RWs.len {K : PySem.W.Frag} {φ : List Addr} {M : Addr → Prop} {H : Hp} {ws : List W} {vs : List V} (r : RWs K φ M H ws vs) : ws.length = vs.length := Paired.length r
theorem RWs.two {K : PySem.W.Frag} {φ : List Addr} {M : Addr → Prop} {H : Hp} {w1 w2 : W} {vs : List V} (r : RWs K φ M H [w1, w2] vs) : ∃ v1 v2, vs = [v1, v2] ∧ RW K φ M H w1 v1 ∧ RW K φ M H w2 v2 := by
  cases r with
  | cons a r =>
    cases r with
    | cons b r =>
      cases r
      exact ⟨_, _, rfl, a, b⟩
theorem biD_fresh {b : Bi} {ds : List D} {r : D} (hb : b = .list ∨ b = .sorted) (e : biD b ds = some r) : ∃ xs, r = .list xs := by
  rcases hb with rfl | rfl
  · unfold biD at e
    split at e <;> first | (exact ⟨_, (Option.some.inj e).symm⟩) | (simp at *; done) | skip
    all_goals (cases e)
  · unfold biD at e
    split at e <;> first | (obtain ⟨ns, _, e⟩ := Option.map_eq_some_iff.mp e; exact ⟨_, e.symm⟩) | (simp at *; done) | skip
    all_goals (cases e)
theorem evs_len : ∀ {es : Es} {as : List Expr} {sc : Scope} {N : List Str} {env : Ev} {h h' : Hs} {ws : List W}, chkEs ci sc N es as = true → evs cs cf es env h = .ok ws h' → ws.length = as.length
  | .nil, [], _, _, _, _, _, _, _, e => by simp only [evs] at e; cases e; rfl
  | .nil, _ :: _, _, _, _, _, _, _, hc, _ => by simp [chkEs] at hc
  | .cons _ _, [], _, _, _, _, _, _, hc, _ => by simp [chkEs] at hc
  | .cons e es, a :: as, _, _, _, _, _, _, hc, q => by
    simp only [chkEs, Bool.and_eq_true] at hc
    simp only [evs] at q
    obtain ⟨w, h1, q1, q2⟩ := bind_ok q
    obtain ⟨ws, h2, q3, q4⟩ := bind_ok q2
    cases q4
    rw [List.length_cons, List.length_cons, evs_len hc.2 q3]
theorem es_thenE {es : Es} {σ : L2.St} {H : Hp} {α : Type} {f : List W → Hs → Res α} {B : Addr → Prop} {φ : List Addr} {env : Ev} {h : Hs} {C : List Addr → Hs → Hp → α → Prop} {Q : List V → Hp → Prop} {n : Nat} (S : RS X.K B φ h H) (R : RE X.K φ (Mu B φ h) H env σ)
    (hn : ∀ ws h', evs cs cf es env h = .ok ws h' → ws.length = n)
    (P : Pg X.K B φ h H (Ex ca Wx σ) ((evs cs cf es env h).bind f) C)
    (g : ∀ φ1 h1 H1 ws vs, Ext φ h H φ1 h1 H1 → RS X.K B φ1 h1 H1 → RE X.K φ1 (Mu B φ1 h1) H1 env σ → RWs X.K φ1 (Mu B φ1 h1) H1 ws vs → ws.length = n → Pg X.K B φ1 h1 H1 (Ex ca Wx σ) (f ws h1) C → Q vs H1) : tEs X.K cs cf ca Wx es σ H Q :=
  ⟨B, φ, env, h, S, R, Pg.monoE (Pg.bind P) (fun _ _ e => e) fun φ1 h1 H1 ws eq X1 S1 P1 vs rv => g φ1 h1 H1 ws vs X1 S1 (R.ext X1) rv (hn _ _ eq) P1⟩
theorem small_line {n : Nat} (h : n ≤ 1000) : n ≤ sizeLine := by rw [sizeLine_eq]; omega
theorem f_tup {es : Es} {as : List Expr} {j : Nat} {p : Pos} (hc : chkEs ci X.env.scope X.N es as = true) (hl : as.length ≤ 1000) (ha : PA X as (TAx cs cf ca X Wx es)) : PE X (.Tuple as j p) (TEx cs cf ca X Wx (.tup es)) := by
  refine pe_of (pe_tup ha) fun σ H Q ⟨B, φ, env, h, S, R, P⟩ => ?_
  refine es_thenE S R (fun ws h' e => evs_len hc e) P fun φ1 h1 H1 ws vs X1 S1 R1 rvs hn P1 => ⟨by rw [← rvs.len, hn]; exact small_line hl, fun q hq => ?_⟩
  split at P1
  · rename_i j y
    obtain ⟨v1, v2, ev, r1, r2⟩ := rvs.two
    subst ev
    have X2 : Ext φ1 h1 H1 φ1 h1 (upd H1 q (.tup [v1, v2])) := Ext.fresh hq
    exact Pg.okv (S1.fresh hq) (P1.rebase X2) _ (.pr (SqT.of upd_same) (r1.ext X2) (r2.ext X2))
  · obtain ⟨v1, v2, ev, r1, r2⟩ := rvs.two
    subst ev
    have X2 : Ext φ1 h1 H1 φ1 h1 (upd H1 q (.tup [v1, v2])) := Ext.fresh hq
    exact Pg.okv (S1.fresh hq) (P1.rebase X2) _ (.pr (SqT.of upd_same) (r1.ext X2) (r2.ext X2))
  · obtain ⟨pr, e, P2⟩ := Pg.optBind P1
    obtain ⟨ds, h2⟩ := pr
    obtain ⟨S2, X2, rd⟩ := frzs_ok S1 rvs e
    have X3 : Ext φ1 h2 H1 φ1 h2 (upd H1 q (.tup vs)) := Ext.fresh hq
    exact P2 φ1 _ (X2.trans X3) (S2.fresh hq) _ (.t (.tup (SqT.of upd_same) (rd.kp X3.kp)))
/-! ### what is fresh -/
abbrev TFx (cs : List D) (cf : CF) (ca : Nat → Addr) (X : Cx) (Wx : WX) (e : E) : TE := tF X.K cs cf ca Wx e
theorem g_lst {es : Es} {as : List Expr} {p : Pos} (hc : chkEs ci X.env.scope X.N es as = true) (hl : as.length ≤ 1000) (ha : PA X as (TAx cs cf ca X Wx es)) : PE X (.List as p) (TFx cs cf ca X Wx (.lst es)) := by
  refine pe_of (pe_lst ha) fun σ H Q ⟨B, φ, env, h, S, R, P⟩ => ?_
  refine es_thenE S R (fun ws h' e => evs_len hc e) P fun φ1 h1 H1 ws vs X1 S1 R1 rvs hn P1 => ⟨by rw [← rvs.len, hn]; exact small_line hl, fun q hq => ?_⟩
  obtain ⟨pr, e, P2⟩ := Pg.optBind P1
  obtain ⟨ds, h2⟩ := pr
  obtain ⟨S2, X2, rd⟩ := frzs_ok S1 rvs e
  have X3 : Ext φ1 h2 H1 φ1 h2 (upd H1 q (.lst vs)) := Ext.fresh hq
  obtain ⟨d, ed, C⟩ := P2 φ1 _ (X2.trans X3) (S2.fresh hq)
  cases ed
  exact C q (X1.dom q hq) (S2.busy hq) vs upd_same (rd.kp (kp_bp hq))
theorem g_dnew {p : Pos} : PE X (.Dict [] [] p) (TFx cs cf ca X Wx .dnew) := by
  refine pe_of pe_dnewK fun σ H Q ⟨B, φ, env, h, S, R, P⟩ => fun q hq => ?_
  obtain ⟨d, ed, C⟩ := P φ (upd H q (.dK [])) (Ext.fresh hq) (S.fresh hq)
  cases ed
  exact C q hq (S.busy hq) upd_same
/-- what a fresh form gives -/
theorem fresh_shape {e : E} (hf : freshE e = true) {env : Ev} {h h' : Hs} {w : W} (q : ev cs cf e env h = .ok w h') : (∃ ds, w = .t (.list ds)) ∨ w = .t (.dict []) := by
  cases e <;> simp only [freshE, Bool.false_eq_true] at hf
  case bin o a b =>
    cases o <;> first | (simp [freshE] at hf; done) | skip
    cases a <;> first | (simp [freshE] at hf; done) | skip
    simp only [ev] at q
    obtain ⟨x, h1, q1, q2⟩ := bind_ok q
    obtain ⟨ws, h0, q0, q3⟩ := bind_ok q1
    obtain ⟨pr, h0', q4, q5⟩ := bind_ok q3
    cases q5
    obtain ⟨y, h2, q6, q7⟩ := bind_ok q2
    obtain ⟨q8, rfl⟩ := opt_ok q7
    simp only [W.peek, Option.bind_some] at q8
    obtain ⟨d, hd, q9⟩ := Option.bind_eq_some_iff.mp q8
    obtain ⟨r, hr, q10⟩ := Option.map_eq_some_iff.mp q9
    cases d <;> simp only [binD] at hr <;> try (cases hr; done)
    split at hr
    · cases hr
      exact .inl ⟨_, q10.symm⟩
    · cases hr
  case bi b es =>
    have hb : b = .list ∨ b = .sorted := by cases b <;> first | (simp [freshE] at hf; done) | (exact .inl rfl) | (exact .inr rfl)
    have q2 : ∃ ws h1, Res.opt ((peeks ws h1).bind fun ds => (biD b ds).map W.t) h1 = .ok w h' := by
      rcases hb with rfl | rfl
      · simp only [ev] at q
        obtain ⟨ws, h1, q1, q2⟩ := bind_ok q
        exact ⟨ws, h1, q2⟩
      · simp only [ev] at q
        obtain ⟨ws, h1, q1, q2⟩ := bind_ok q
        exact ⟨ws, h1, q2⟩
    obtain ⟨ws, h1, q2⟩ := q2
    obtain ⟨q8, rfl⟩ := opt_ok q2
    obtain ⟨d, hd, q9⟩ := Option.bind_eq_some_iff.mp q8
    obtain ⟨r, hr, q10⟩ := Option.map_eq_some_iff.mp q9
    obtain ⟨xs, rfl⟩ := biD_fresh hb hr
    exact .inl ⟨_, q10.symm⟩
  case lst es =>
    simp only [ev] at q
    obtain ⟨ws, h1, q1, q2⟩ := bind_ok q
    obtain ⟨pr, h2, q3, q4⟩ := bind_ok q2
    cases q4
    exact .inl ⟨_, rfl⟩
  case comp elt tg own it c =>
    simp only [ev] at q
    obtain ⟨xs, h1, q1, q2⟩ := bind_ok q
    obtain ⟨ys, h2, q3, q4⟩ := bind_ok q2
    cases q4
    exact .inl ⟨_, rfl⟩
  case dnew =>
    simp only [ev] at q
    cases q
    exact .inr rfl
/-- a fresh one is a tree -/
theorem f_of_g {e : E} {a : Expr} (hf : freshE e = true) (ha : PE X a (TFx cs cf ca X Wx e)) : PE X a (TEx cs cf ca X Wx e) := by
  refine pe_of ha fun σ H Q ⟨B, φ, env, h, S, R, P⟩ => ⟨B, φ, env, h, S, R, Pg.monoE P (fun _ _ z => z) fun φ1 h1 H1 w eq X1 S1 cv => ?_⟩
  have nm : ∀ {p : Addr}, H p = none → RS X.K (Bp B p) φ1 h1 H1 → ¬ Mu B φ1 h1 p := fun {p} hp S2 z => by
    rcases z with z | z
    · exact S.hb p z hp
    · exact S2.nb p (.inr rfl) z
  rcases fresh_shape hf eq with ⟨ds, rfl⟩ | rfl
  · refine ⟨_, rfl, fun p hp S2 vs e rd => cv _ (.t (.lst (nm hp S2) e (rd.kp (Kp.less fun a z => Mu.bp.mpr (.inl z)))))⟩
  · exact ⟨_, rfl, fun p hp S2 e => cv _ (.t (.dct (nm hp S2) (.inl e) .nil))⟩
/-- a fresh one is kept as an object that may change -/
theorem f_own {e : E} {a : Expr} (hf : freshE e = true) (ha : PE X a (TFx cs cf ca X Wx e)) : PE X a (TEx cs cf ca X Wx (.own e)) := by
  refine pe_of ha fun σ H Q ⟨B, φ, env, h, S, R, P⟩ => ⟨B, φ, env, h, S, R, ?_⟩
  simp only [ev] at P
  cases eq : ev cs cf e env h with
  | bad => rw [eq] at P; exact P.elim
  | exc c d h1 => rw [eq] at P; exact P
  | ok w h1 =>
    rw [eq] at P
    simp only [Res.ok_bind] at P
    intro φ1 H1 X1 S1
    rcases fresh_shape hf eq with ⟨ds, rfl⟩ | rfl
    · refine ⟨_, rfl, fun p hp S2 vs e rd => ?_⟩
      have hn : ¬ B p := fun b => S.hb p b hp
      refine P (φ1 ++ [p]) H1 (X1.adopt S1.len hp) (S2.adopt ⟨vs, e, rd⟩ hn) _ (.ref ?_)
      rw [List.getElem?_append_right (by rw [S1.len]; exact Nat.le_refl _), S1.len]
      simp
    · refine ⟨_, rfl, fun p hp S2 e => ?_⟩
      have hn : ¬ B p := fun b => S.hb p b hp
      refine P (φ1 ++ [p]) H1 (X1.adopt S1.len hp) (S2.adopt ⟨[], e, .nil⟩ hn) _ (.ref ?_)
      rw [List.getElem?_append_right (by rw [S1.len]; exact Nat.le_refl _), S1.len]
      simp
/-- a fresh list by its tree: from a reading that makes it as its last step -/
theorem g_of_last {σ : L2.St} {H : Hp} {Q : VK} {B : Addr → Prop} {φ φ1 : List Addr} {h h1 : Hs} {H1 : Hp} {ds : List D} {vs : List V} {p : Addr}
    (S1 : RS X.K B φ1 h1 H1) (X1 : Ext φ h H φ1 h1 H1) (rd : RDs X.K (Mu B φ1 h1) H1 ds vs) (hp : H1 p = none)
    (P : Pg X.K B φ1 h1 H1 (Ex ca Wx σ) (.ok (.t (.list ds)) h1) (FP X.K B H Q)) : Q (.ref p) (upd H1 p (.lst vs)) := by
  obtain ⟨d, ed, C⟩ := P φ1 (upd H1 p (.lst vs)) (Ext.fresh hp) (S1.fresh hp)
  cases ed
  exact C p (X1.dom p hp) (S1.busy hp) vs upd_same (rd.kp (kp_bp hp))
/-! ### subscripts -/
theorem plain_ix {b : Expr} (h : Plain b) : PlainIx b := by
  intro o i
  cases b <;> first | rfl | (exact (h.2.1 _ _ _ _ rfl).elim)
theorem f_ix (G : Gd ci cs cf ca k X Wx) {a b : E} {x y : Expr} {p : Pos} (hp : Plain y) (ha : PE X x (TEx cs cf ca X Wx a)) (hb : PE X y (TEx cs cf ca X Wx b)) : PE X (.Subscript x y p) (TEx cs cf ca X Wx (.ix a b)) := by
  refine pe_of (pe_ix (IxR.or (IxR.or ix_scr ix_pr) (ix_D (Nat.lt_trans (Nat.add_lt_add_left (show 64 < 150 by decide) _) G.un))) ha hb (plain_ix hp)) fun σ H Q ⟨B, φ, env, h, S, R, P⟩ => ?_
  refine two_then S R P fun φ2 h2 H2 x y u v X2 S2 R2 ru rv P2 => ?_
  split at P2
  · cases ru with
    | pr s r1 r2 =>
      cases rv with
      | t rv =>
        cases rv
        rename_i i _ _ _
        by_cases h0 : i = 0
        · rw [if_pos h0] at P2
          exact .inl (.inr ⟨_, _, _, i, rfl, rfl, s, .inl ⟨h0, Pg.okv S2 P2 _ r1⟩⟩)
        · rw [if_neg h0] at P2
          by_cases h1 : i = 1
          · rw [if_pos h1] at P2
            exact .inl (.inr ⟨_, _, _, i, rfl, rfl, s, .inr ⟨h1, Pg.okv S2 P2 _ r2⟩⟩)
          · rw [if_neg h1] at P2; exact P2.elim
  · cases rv with
    | t rv =>
      cases rv
      obtain ⟨w, e, P3⟩ := Pg.optc P2
      obtain ⟨n, hn, e⟩ := Option.map_eq_some_iff.mp e
      subst e
      cases ru with
      | scr s => exact .inl (.inl ⟨_, _, _, n, rfl, rfl, (RW.scr (K := X.K) (φ := φ2) (M := Mu B φ2 h2) s).seqL, hn, Pg.okv S2 P3 _ (.t (.int n))⟩)
  · obtain ⟨w, e, P3⟩ := Pg.optc P2
    obtain ⟨d, hd, e⟩ := Option.bind_eq_some_iff.mp e
    obtain ⟨d2, hd2, e⟩ := Option.bind_eq_some_iff.mp e
    obtain ⟨r, hr, e⟩ := Option.map_eq_some_iff.mp e
    subst e
    exact .inr ⟨B, φ2, h2, d, d2, r, S2, peek_ok S2 ru hd, peek_ok S2 rv hd2, hr, Yd.of P3⟩
theorem f_sl {a : E} {lo hi : Eo} {x : Expr} {l u : Option Expr} {p p2 : Pos} (ha : PE X x (TEx cs cf ca X Wx a)) (hl : PO X l (tO X.K cs cf ca Wx lo)) (hu : PO X u (tO X.K cs cf ca Wx hi)) : PE X (.Subscript x (.Slice l u none p2) p) (TEx cs cf ca X Wx (.sl a lo hi)) := by
  refine pe_of (pe_slice (SlR.or sl_D sl_scr) ha hl hu) fun σ H Q ⟨B, φ, env, h, S, R, P⟩ => ?_
  refine e_then S R P fun φ1 h1 H1 w v X1 S1 R1 rv P1 => ?_
  refine o_then S1 R1 P1 fun φ2 h2 H2 lo X2 S2 R2 P2 => ?_
  refine o_then S2 R2 P2 fun φ3 h3 H3 hi X3 S3 R3 P3 => ?_
  have rv := rv.ext (X2.trans X3)
  split at P3
  · cases rv with
    | @scr ns a0 s =>
      refine .inr ⟨_, _, rfl, (RW.scr (K := X.K) (φ := φ3) (M := Mu B φ3 h3) s).seqL, fun q hq => ?_⟩
      exact P3 φ3 _ (Ext.fresh hq) (S3.fresh hq) _ (.t (.lst (S3.notMu hq) upd_same (RDs.of_ints _)))
  · obtain ⟨w, e, P4⟩ := Pg.optc P3
    obtain ⟨d, hd, e⟩ := Option.bind_eq_some_iff.mp e
    obtain ⟨r, hr, e⟩ := Option.map_eq_some_iff.mp e
    subst e
    exact .inl ⟨B, φ3, h3, d, r, S3, peek_ok S3 rv hd, hr, Yd.of P4⟩
theorem f_rev {a : E} {x : Expr} {j : Nat} {p p1 p2 p3 : Pos} (ha : PE X x (TEx cs cf ca X Wx a)) : PE X (.Subscript x (.Slice none none (some (.UnaryOp .USub (.Constant (.int 1) j p1) p2)) p3) p) (TEx cs cf ca X Wx (.rev a)) := by
  refine pe_of (pe_revD ha) fun σ H Q ⟨B, φ, env, h, S, R, P⟩ => ?_
  refine e_then S R P fun φ1 h1 H1 w v X1 S1 R1 rv P1 => ?_
  obtain ⟨w, e, P4⟩ := Pg.optc P1
  obtain ⟨d, hd, e⟩ := Option.bind_eq_some_iff.mp e
  obtain ⟨r, hr, e⟩ := Option.map_eq_some_iff.mp e
  subst e
  exact ⟨B, φ1, h1, d, r, S1, peek_ok S1 rv hd, hr, Yd.of P4⟩
theorem int_v {K : PySem.W.Frag} {φ : List Addr} {M : Addr → Prop} {H : Hp} {w : W} {v : V} {i : Int} (r : RW K φ M H w v) (e : intW w = some i) : v = .int i := by
  cases w with
  | t d =>
    cases d <;> first | (cases e; done) | skip
    cases e
    cases r with
    | t r => cases r; rfl
  | ref _ => cases e
  | pr _ _ => cases e
  | scr _ => cases e
theorem f_cpy {a : E} {x : Expr} {j : Nat} {p p1 p3 : Pos} (ha : PE X x (TEx cs cf ca X Wx a)) : PE X (.Subscript x (.Slice none none (some (.Constant (.int 1) j p1)) p3) p) (TEx cs cf ca X Wx (.cpy a)) := by
  refine pe_of (pe_cpyL ha) fun σ H Q ⟨B, φ, env, h, S, R, P⟩ => ?_
  refine e_then S R P fun φ1 h1 H1 w v X1 S1 R1 rv P1 => ?_
  obtain ⟨w, e, P4⟩ := Pg.optc P1
  obtain ⟨d, hd, e⟩ := Option.bind_eq_some_iff.mp e
  obtain ⟨r, hr, e⟩ := Option.map_eq_some_iff.mp e
  subst e
  have rp := peek_ok S1 rv hd
  cases d <;> simp only [cpyD] at hr <;> first | (cases hr; done) | skip
  cases hr
  obtain ⟨a, us, rfl, h2, rd⟩ := rp
  exact ⟨a, us, rfl, SqL.of h2, (Yd.of P4).lst S1 rd⟩
theorem rd_rng {K : PySem.W.Frag} {M : Addr → Prop} {H : Hp} (lo c : Int) (n : Nat) : RDs K M H (rng3D lo c n) (stepV lo c n) := by
  unfold rng3D stepV
  have : ∀ l : List Nat, RDs K M H (l.map fun (i : Nat) => PyData.int (lo + i * c)) (l.map fun (i : Nat) => V.int (lo + i * c)) := fun l => by
    induction l with
    | nil => exact .nil
    | cons x l ih => exact .cons (.int _) ih
  exact this _
theorem rd_rng1 {K : PySem.W.Frag} {M : Addr → Prop} {H : Hp} (b : Int) : RDs K M H (rngD 0 b.toNat) (rgV 0 b) := by
  unfold rngD rgV
  rw [Int.sub_zero]
  have : ∀ l : List Nat, RDs K M H (l.map fun (i : Nat) => PyData.int (0 + i)) (l.map fun (i : Nat) => V.int (0 + (i : Nat))) := fun l => by
    induction l with
    | nil => exact .nil
    | cons x l ih => exact .cons (.int _) ih
  exact this _
theorem f_lrg1 (G : Gd ci cs cf ca k X Wx) {tp : Bool} {a : E} {y : Expr} {n r : Str} {p p1 pos1 pos : Pos} (hn : n = Str.ofString (lrgN tp)) (hr : r = ("range" : Str)) (gn : glB X.env.scope n = true) (gr : glB X.env.scope r = true) (hp : Plain y) (ha : PE X y (TEx cs cf ca X Wx a)) :
    PE X (.Call (.Name n p) [.Call (.Name r p1) [y] [] pos1] [] pos) (TEx cs cf ca X Wx (.lrg1 tp a)) := by
  subst hn hr
  have rg := prg_1 (p := p1) (pos := pos1) (glB_gl gr) (G.blt _ (by decide)) ha (star_one hp)
  have run : ∀ σ H Q, TEx cs cf ca X Wx (.lrg1 tp a) σ H Q → (if tp then tTupRg (tRg1 (TEx cs cf ca X Wx a)) else tLstRg (tRg1 (TEx cs cf ca X Wx a))) σ H Q := fun σ H Q ⟨B, φ, env, h, S, R, P⟩ => by
    have go : tE X.K cs cf ca Wx a σ H (fun x H1 => ∃ n, x = .int n ∧ (RgOk 0 n ∧ ∀ q, H1 q = none → Q (.ref q) (upd H1 q (if tp then .tup (rgV 0 n) else .lst (rgV 0 n))))) := by
      refine e_then S R P fun φ1 h1 H1 w v X1 S1 R1 rv P1 => ?_
      obtain ⟨i, e, P2⟩ := Pg.optBind P1
      obtain rfl := int_v rv e
      split at P2
      · rename_i hi
        have hb : -1000000 ≤ i ∧ i ≤ 1000000 := by unfold rngOk at hi; exact of_decide_eq_true hi
        refine ⟨i, rfl, ⟨by omega, by omega, by omega, by omega, by omega⟩, fun q hq => ?_⟩
        have Y := Yd.of P2
        cases tp with
        | true => exact Y.tup S1 (rd_rng1 i) q hq
        | false => exact Y.lst S1 (rd_rng1 i) q hq
      · exact P2.elim
    cases tp with
    | true => exact go
    | false => exact go
  cases tp with
  | true => exact pe_of (pe_tupRg G.calm (glB_gl gn) (G.blt _ (by decide)) rg) run
  | false => exact pe_of (pe_listRg G.calm (glB_gl gn) (G.blt _ (by decide)) rg) run
theorem f_srs (G : Gd ci cs cf ca k X Wx) {a : E} {y : Expr} {n r : Str} {p p1 pos1 pos : Pos} (hn : n = ("sorted" : Str)) (hr : r = ("set" : Str)) (gn : glB X.env.scope n = true) (gr : glB X.env.scope r = true) (hp : Plain y) (ha : PE X y (TEx cs cf ca X Wx a)) :
    PE X (.Call (.Name n p) [.Call (.Name r p1) [y] [] pos1] [] pos) (TEx cs cf ca X Wx (.srs a)) := by
  subst hn hr
  have inner := pe_callTy (p := p1) (pos := pos1) (cr_setTup G.calm) (glB_gl gr) (G.blt _ (by decide)) PyProof.Rows.boot_set (pa_cons ha pa_nil (star_one hp)) (by decide) (by decide) (star_one hp) (back_plain fun a h => by cases h)
  refine pe_of (pe_callB (cr_sortedSet G.calm) (glB_gl gn) (G.blt _ (by decide)) boot_sorted (pa_cons inner pa_nil rfl) (by decide) (by decide) rfl (back_plain fun a h => by cases h)) fun σ H Q ⟨B, φ, env, h, S, R, P⟩ => ?_
  refine e_then S R P fun φ1 h1 H1 w v X1 S1 R1 rv P1 => ?_
  obtain ⟨xs, e, P2⟩ := Pg.optBind P1
  cases w <;> simp only [srsW] at e <;> try (cases e; done)
  rename_i d
  cases d <;> simp only [srsD] at e <;> try (cases e; done)
  rename_i ds
  obtain ⟨ns, hn, e⟩ := Option.bind_eq_some_iff.mp e
  split at e
  · rename_i few
    cases e
    have e1 := intsD_eq hn
    subst e1
    cases rv with
    | t rd =>
      cases rd with
      | tup ht d1 =>
        obtain rfl := d1.ints
        refine ⟨_, ns, rfl, ht, few, fun q c le hq => ⟨q, _, c, rfl, upd_same, by omega, fun ys q2 pw mem _ hq2 => ?_⟩⟩
        have X2 : Ext φ1 h1 H1 φ1 h1 (upd H1 q (SetO X.w q (fun j => decide (j ∈ ns)) c)) := Ext.fresh hq
        have Y := Yd.of (P2.rebase X2)
        rw [srtU_uniq pw fun k => (mem k).trans decide_eq_true_iff]
        exact Y.lst (S1.fresh hq) (RDs.of_ints _) q2 hq2
  · cases e
theorem f_lrg3 (G : Gd ci cs cf ca k X Wx) {a b c : E} {x y z : Expr} {n r : Str} {p p1 pos1 pos : Pos} (hn : n = ("list" : Str)) (hr : r = ("range" : Str)) (gn : glB X.env.scope n = true) (gr : glB X.env.scope r = true) (hx : Plain x) (hy : Plain y) (hz : Plain z)
    (ha : PE X x (TEx cs cf ca X Wx a)) (hb : PE X y (TEx cs cf ca X Wx b)) (hc : PE X z (TEx cs cf ca X Wx c)) :
    PE X (.Call (.Name n p) [.Call (.Name r p1) [x, y, z] [] pos1] [] pos) (TEx cs cf ca X Wx (.lrg3 a b c)) := by
  subst hn hr
  refine pe_of (pe_listStep G.calm (glB_gl gn) (G.blt _ (by decide)) (glB_gl gr) (G.blt _ (by decide)) (pa_cons ha (pa_cons hb (pa_cons hc pa_nil (star_one hz)) (star_one hy)) (star_one hx)) (star_one hx) (back_plain fun e he => by
    simp only [List.mem_cons, List.not_mem_nil, or_false] at he
    rcases he with rfl | rfl
    · exact hy
    · exact hz)) fun σ H Q ⟨B, φ, env, h, S, R, P⟩ => ?_
  refine e_then S R P fun φ1 h1 H1 w1 v1 X1 S1 R1 r1 P1 => ?_
  refine e_then S1 R1 P1 fun φ2 h2 H2 w2 v2 X2 S2 R2 r2 P2 => ?_
  refine e_then S2 R2 P2 fun φ3 h3 H3 w3 v3 X3 S3 R3 r3 P3 => ?_
  obtain ⟨i, e1, P4⟩ := Pg.optBind P3
  obtain ⟨j, e2, P5⟩ := Pg.optBind P4
  obtain ⟨k0, e3, P6⟩ := Pg.optBind P5
  obtain rfl := int_v r1 e1
  obtain rfl := int_v r2 e2
  obtain rfl := int_v r3 e3
  split at P6
  · rename_i hi
    unfold rng3Ok at hi
    simp only [Bool.and_eq_true, decide_eq_true_eq] at hi
    obtain ⟨⟨⟨⟨c1, c2⟩, c3⟩, c4⟩, c5⟩ := hi
    have b1 : -1000000 ≤ k0 ∧ k0 ≤ 1000000 := by unfold rngOk at c1; exact of_decide_eq_true c1
    have b2 : -1000000 ≤ Builtin.Range.rangeSize i j k0 ∧ Builtin.Range.rangeSize i j k0 ≤ 1000000 := by unfold rngOk at c4; exact of_decide_eq_true c4
    exact ⟨i, j, k0, _, rfl, ⟨c2, by omega, c3, (Int.toNat_of_nonneg c5).symm⟩, by omega, fun q hq => (Yd.of P6).lst S3 (rd_rng _ _ _) q hq⟩
  · exact P6.elim
/-- xs + ys, kept -/
theorem f_cat {a b : E} {x y : Expr} {op : Operator} {p : Pos} (ho : opB .add op = true) (ha : PE X x (TEx cs cf ca X Wx a)) (hb : PE X y (TEx cs cf ca X Wx b)) : PE X (.BinOp x op y p) (TEx cs cf ca X Wx (.cat a b)) := by
  rw [opB_eq ho]
  refine pe_of (pe_op op_cat ha hb) fun σ H Q ⟨B, φ, env, h, S, R, P⟩ => ?_
  refine two_then S R P fun φ2 h2 H2 x y u v X2 S2 R2 ru rv P2 => ?_
  obtain ⟨zs, e, P3⟩ := Pg.optBind P2
  obtain ⟨d, hd, e⟩ := Option.bind_eq_some_iff.mp e
  obtain ⟨d2, hd2, e⟩ := Option.bind_eq_some_iff.mp e
  have p1 := peek_ok S2 ru hd
  have p2 := peek_ok S2 rv hd2
  cases d <;> cases d2 <;> simp only [catL] at e <;> try (cases e; done)
  split at e
  · rename_i hz
    cases e
    obtain ⟨a, vs, rfl, g1, d1⟩ := p1
    obtain ⟨b, ws, rfl, g2, d2⟩ := p2
    refine ⟨a, b, vs, ws, rfl, rfl, g1, g2, by rw [← d1.len, ← d2.len]; exact lim_line hz, fun q hq => ?_⟩
    have X3 : Ext φ2 h2 H2 φ2 h2 (upd H2 q (.lst (vs ++ ws))) := Ext.fresh hq
    refine P3 (φ2 ++ [q]) _ (X3.adopt S2.len hq) ((S2.busy (o := .lst (vs ++ ws)) hq).adopt ⟨vs ++ ws, upd_same, (d1.app d2).kp (kp_bp hq)⟩ fun b => S2.hb q b hq) _ (.ref ?_)
    rw [List.getElem?_append_right (by rw [S2.len]; exact Nat.le_refl _), S2.len]
    simp
  · cases e
theorem f_mxd (G : Gd ci cs cf ca k X Wx) {mx : Bool} {a d : E} {x y : Expr} {n kn : Str} {p1 p2 p : Pos} (hn : n = Str.ofString (biMx mx)) (hk : kn = Str.ofString "default") (hg : glB X.env.scope n = true) (hp : Plain x) (ha : PE X x (TEx cs cf ca X Wx a)) (hd : PE X y (TEx cs cf ca X Wx d)) :
    PE X (.Call (.Name n p1) [x] [⟨some kn, y, p2⟩] p) (TEx cs cf ca X Wx (.mxd mx a d)) := by
  subst hn hk
  have nb : X.mg (Str.ofString (biMx mx)) = none := by cases mx <;> exact G.blt _ (by decide)
  have bv : bootBuiltins (Str.ofString (biMx mx)) = some (.builtin (biMx mx)) := by cases mx <;> decide +kernel
  refine pe_of (pe_callBK (cr_mxd G.calm (Nat.lt_trans (Nat.add_lt_add_left (show 64 < 150 by decide) _) G.un) mx) (glB_gl hg) nb bv (pa_cons ha pa_nil (star_one hp)) (pk_cons hd pk_nil) (by cases mx <;> decide) (by cases mx <;> decide) (by rw [star_one hp]; rfl) (back_plain fun c hc => by rw [List.mem_singleton.mp hc]; exact hp) rfl rfl rfl) fun σ H Q ⟨B, φ, env, h, S, R, P⟩ => ?_
  refine e_then S R P fun φ1 h1 H1 w v X1 S1 R1 rv P1 => ?_
  refine e_then S1 R1 P1 fun φ2 h2 H2 w2 v2 X2 S2 R2 rv2 P2 => ?_
  obtain ⟨w3, e, P4⟩ := Pg.optc P2
  obtain ⟨l, hl, e⟩ := Option.bind_eq_some_iff.mp e
  obtain ⟨c, hc, e⟩ := Option.bind_eq_some_iff.mp e
  obtain ⟨r, hr, e⟩ := Option.map_eq_some_iff.mp e
  subst e
  have rp := peek_ok S2 (rv.ext X2) hl
  cases l <;> simp only [mxdD] at hr <;> first | (cases hr; done) | skip
  obtain ⟨ns, hns, er⟩ := Option.map_eq_some_iff.mp hr
  obtain ⟨a, us, rfl, h3, rd⟩ := rp
  obtain rfl := intsD_eq hns
  obtain rfl := rd.ints
  obtain rfl := int_v rv2 hc
  refine ⟨a, ns, .int c, rfl, rfl, h3, fun e0 => ?_, fun n t e0 => ?_⟩
  · subst e0; subst er; exact (Yd.of P4).same S2 (.int _)
  · subst e0; subst er; exact (Yd.of P4).same S2 (.int _)
/-! ### calls -/
theorem f_isi {a : E} {x : Expr} {T : String} {f y : Str} {pf py p : Pos} (G : Gd ci cs cf ca k X Wx) (hf : f = ("isinstance" : Str)) (hg : glB X.env.scope f = true) (hgy : glB X.env.scope y = true) (hT : tyNames.contains T = true) (hy : y = Str.ofString T) (hx : Plain x) (ha : PE X x (TEx cs cf ca X Wx a)) :
    PE X (.Call (.Name f pf) [x, .Name y py] [] p) (TEx cs cf ca X Wx (.isi a T)) := by
  subst hf
  have hT' : T ∈ tyNames := by simpa using hT
  have hty : PE X (.Name y py) (tC (.ty T)) := by
    subst hy
    have hb : bootBuiltins (Str.ofString T) = some (.type T) ∧ (Str.ofString T) ≠ "__name__" ∧ ((Str.ofString T) == ("__debug__" : Str)) = false ∧ X.mg (Str.ofString T) = none := by
      simp only [tyNames, List.mem_cons, List.not_mem_nil, or_false] at hT'
      rcases hT' with rfl | rfl | rfl | rfl | rfl | rfl
      · exact ⟨boot_int, by decide, by decide, G.blt _ (by decide)⟩
      · exact ⟨boot_bool, by decide, by decide, G.blt _ (by decide)⟩
      · exact ⟨boot_tuple, by decide, by decide, G.blt _ (by decide)⟩
      · exact ⟨boot_list, by decide, by decide, G.blt _ (by decide)⟩
      · exact ⟨boot_str, by decide, by decide, G.blt _ (by decide)⟩
      · exact ⟨boot_dict, by decide, by decide, G.blt _ (by decide)⟩
    exact pe_bltn (glB_gl hgy) hb.2.2.2 hb.1 rfl hb.2.1 hb.2.2.1
  have hb1 : PA X [x, .Name y py] (tCons (TEx cs cf ca X Wx a) (tCons (tC (.ty T)) tNil)) := pa_cons ha (pa_cons hty pa_nil) (star_one hx)
  refine pe_of (pe_callB (call_isD hT') (glB_gl hg) (G.blt _ (by decide)) boot_isinstance hb1 (by decide) (by decide) (star_one hx) rfl) fun σ H Q ⟨B, φ, env, h, S, R, P⟩ => ?_
  refine e_then S R P fun φ1 h1 H1 w v X1 S1 R1 rv P1 => ?_
  obtain ⟨w, e, P4⟩ := Pg.optc P1
  obtain ⟨d, hd, e⟩ := Option.map_eq_some_iff.mp e
  subst e
  exact ⟨B, φ1, h1, d, v, rfl, peek_ok S1 rv hd, Pg.okv S1 P4 _ (.t (.bl _))⟩
theorem f_call (G : Gd ci cs cf ca k X Wx) {f : Nat} {es : Es} {x : Str} {y : Expr} {ys : List Expr} {p p2 : Pos} (hf : ci.fns[f]? = some x) (hg : glB X.env.scope x = true) (hk : okNm x = true) (hc : chkEs ci X.env.scope X.N es (y :: ys) = true) (ha : PA X (y :: ys) (TAx cs cf ca X Wx es)) :
    PE X (.Call (.Name x p2) (y :: ys) [] p) (TEx cs cf ca X Wx (.call f es)) := by
  obtain ⟨fa, fd, ps, hm, hkp, hb, har, F⟩ := G.fns f x hf
  obtain ⟨n1, n2, n3⟩ := okNm_nm hk
  have hp := chkEs_plain hc
  refine pe_of (pe_callG F G.room G.gu (glB_gl hg) hm hkp hb G.tk ha n1 (star_one (hp y List.mem_cons_self)) (back_plain fun a h => hp a (List.mem_cons_of_mem _ h))) fun σ H Q ⟨B, φ, env, h, S, R, P⟩ => ?_
  refine es_then S R P fun φ1 h1 H1 ws vs X1 S1 R1 rvs P1 => ⟨?_, B, φ1, h1, ws, S1, rvs, P1⟩
  rw [← rvs.len]
  exact har ws h1 fun z => by rw [z] at P1; exact P1
theorem RPs_of {K : PySem.W.Frag} {φ : List Addr} {B : Addr → Prop} {h : Hs} {H : Hp} {ws : List W} {vs : List V} {ds : List D} (S : RS K B φ h H) (r : RWs K φ (Mu B φ h) H ws vs) (e : peeks ws h = some ds) : RPs K (Mu B φ h) H ds vs := peeks_ok S r e
theorem bi_then {b : Bi} {es : Es} {σ : L2.St} {H : Hp} {Q : VK} {B : Addr → Prop} {φ : List Addr} {env : Ev} {h : Hs} (S : RS X.K B φ h H) (R : RE X.K φ (Mu B φ h) H env σ) (P : Pg X.K B φ h H (Ex ca Wx σ) (ev cs cf (.bi b es) env h) (CV X.K B Q)) :
    tCB (fun xs H Q => rBi X.K b xs H Q ∨ (b = .len ∧ ∃ (a : Addr) (ns : List Int), xs = [.ref a] ∧ SqL X.K H a (ns.map V.int) ∧ Q (.int ns.length) H)) (TAx cs cf ca X Wx es) σ H Q := by
  refine es_then S R P fun φ1 h1 H1 ws vs X1 S1 R1 rvs P1 => ?_
  split at P1
  · cases rvs with
    | cons r rr =>
      cases rr
      cases r with
      | scr s => exact .inr ⟨rfl, _, _, rfl, (RW.scr (K := X.K) (φ := φ1) (M := Mu B φ1 h1) s).seqL, Pg.okv S1 P1 _ (.t (.int _))⟩
  · obtain ⟨w, e, P4⟩ := Pg.optc P1
    obtain ⟨ds, hd, e⟩ := Option.bind_eq_some_iff.mp e
    obtain ⟨r, hr, e⟩ := Option.map_eq_some_iff.mp e
    subst e
    exact .inl ⟨B, φ1, h1, ds, r, S1, peeks_ok S1 rvs hd, hr, Yd.of P4⟩
theorem boot_bi (b : Bi) : bootBuiltins (biNm b) = some (biVal b) ∧ biNm b ≠ "__name__" ∧ (biNm b == ("__debug__" : Str)) = false := by
  cases b <;> first
    | exact ⟨PyProof.Rows.boot_sum, by decide, by decide⟩ | exact ⟨PyProof.Rows.boot_all, by decide, by decide⟩ | exact ⟨PyProof.Rows.boot_any, by decide, by decide⟩
    | exact ⟨PyProof.Rows.boot_max, by decide, by decide⟩ | exact ⟨PyProof.Rows.boot_min, by decide, by decide⟩ | exact ⟨boot_int, by decide, by decide⟩ | exact ⟨boot_str, by decide, by decide⟩
    | exact ⟨boot_abs, by decide, by decide⟩ | exact ⟨boot_repr, by decide, by decide⟩ | exact ⟨boot_tuple, by decide, by decide⟩ | exact ⟨boot_list, by decide, by decide⟩
    | exact ⟨boot_divmod, by decide, by decide⟩ | exact ⟨boot_sorted, by decide, by decide⟩ | exact ⟨boot_dict, by decide, by decide⟩
    | exact ⟨by decide +kernel, by decide, by decide⟩
theorem callR_or {f : Value} {r r' : List V → Hp → VK → Prop} (hr : CallR X f r) (hr' : CallR X f r') : CallR X f (fun xs H Q => r xs H Q ∨ r' xs H Q) := by
  intro pins s σ H xs us Q I rv q
  rcases q with q | q
  · exact hr pins s σ H xs us Q I rv q
  · exact hr' pins s σ H xs us Q I rv q
theorem callR_never {f : Value} : CallR X f (fun _ _ _ => False) := fun pins s σ H xs us Q I rv q => q.elim
theorem f_bi (G : Gd ci cs cf ca k X Wx) {b : Bi} {es : Es} {x : Str} {y : Expr} {ys : List Expr} {p p2 : Pos} (hx : x = biNm b) (hg : glB X.env.scope x = true) (hc : chkEs ci X.env.scope X.N es (y :: ys) = true) (ha : PA X (y :: ys) (TAx cs cf ca X Wx es)) :
    PE X (.Call (.Name x p2) (y :: ys) [] p) (TEx cs cf ca X Wx (.bi b es)) := by
  subst hx
  have hp := chkEs_plain hc
  obtain ⟨hb, hn, hd⟩ := boot_bi b
  have hm : X.mg (biNm b) = none := G.blt _ (by cases b <;> decide)
  have hr : CallR X (biVal b) (fun xs H Q => rBi X.K b xs H Q ∨ (b = .len ∧ ∃ (a : Addr) (ns : List Int), xs = [.ref a] ∧ SqL X.K H a (ns.map V.int) ∧ Q (.int ns.length) H)) := by
    refine callR_or (call_bi G.toCtx0 b) ?_
    by_cases h : b = .len
    · subst h
      intro pins s σ H xs us Q I rv q
      exact call_len_scr pins s σ H xs us Q I rv q.2
    · intro pins s σ H xs us Q I rv q
      exact absurd q.1 h
  have s1 : starEach (y :: ys) X.env = (false, eval y X.env) :: starEach ys X.env := star_one (hp y List.mem_cons_self)
  have s2 : (backTo p (starEach ys X.env)).any (·.1) = false := back_plain fun a h => hp a (List.mem_cons_of_mem _ h)
  have go : ∀ {t : TE}, (∀ σ H Q, TEx cs cf ca X Wx (.bi b es) σ H Q → tCB (fun xs H Q => rBi X.K b xs H Q ∨ (b = .len ∧ ∃ (a : Addr) (ns : List Int), xs = [.ref a] ∧ SqL X.K H a (ns.map V.int) ∧ Q (.int ns.length) H)) (TAx cs cf ca X Wx es) σ H Q) := fun σ H Q ⟨B, φ, env, h, S, R, P⟩ => bi_then S R P
  cases hv : biVal b with
  | builtin id =>
    rw [hv] at hr hb
    exact pe_of (pe_callB hr (glB_gl hg) hm hb ha hn hd s1 s2) (go (t := fun _ _ _ => True))
  | type T =>
    rw [hv] at hr hb
    exact pe_of (pe_callTy hr (glB_gl hg) hm hb ha hn hd s1 s2) (go (t := fun _ _ _ => True))
  | _ => exfalso; cases b <;> simp [biVal] at hv
theorem f_dlit {a b : Int} {j1 j2 : Nat} {p1 p2 p : Pos} : PE X (.Dict [some (.Constant (.int a) j1 p1)] [.Constant (.int b) j2 p2] p) (TEx cs cf ca X Wx (.lit (.dict [(.int a, .int b)]))) := by
  refine pe_of (pe_disp (pps_cons pe_int pe_int pps_nil) rfl rfl (by simp) (by simp)) fun σ H Q ⟨B, φ, env, h, S, R, P⟩ => fun q hq => ?_
  refine ⟨upd_same, [(.inl a, .int b)], rfl, by simp, ?_⟩
  rw [L2.upd_upd]
  have X3 : Ext φ h H φ h (upd H q (.dK (mergeK [] [(.inl a, .int b)]))) := Ext.fresh hq
  have nm : ¬ Mu B φ h q := fun z => by
    rcases z with z | z
    · exact S.hb q z hq
    · exact (S.busy (o := .dK []) hq).nb q (.inr rfl) z
  exact Pg.okv (S.fresh hq) (Pg.rebase X3 P) _ (.t (.dct nm (Rd.of upd_same) (.cons rfl (.int b) .nil)))
theorem f_dnew {p : Pos} : PE X (.Dict [] [] p) (TEx cs cf ca X Wx .dnew) := f_of_g rfl g_dnew
end
end MF

set_option Elab.async false
set_option linter.all false
set_option maxRecDepth 100000
set_option maxHeartbeats 8000000
/-! methods; fresh lists by *, list(), sorted(); walks -/
namespace MF
open PySem PySem.Spec PyProof.Rows L2 MZ
variable [LTab]

section
variable {ci : CI} {cs : List D} {cf : CF} {ca : Nat → Addr} {k : Nat} {X : Cx} {Wx : WX}
/-! ### append, extend -/
theorem RWs.one {K : PySem.W.Frag} {φ : List Addr} {M : Addr → Prop} {H : Hp} {w1 : W} {vs : List V} (r : RWs K φ M H [w1] vs) : ∃ v1, vs = [v1] ∧ RW K φ M H w1 v1 := by
  cases r with
  | cons a r =>
    cases r
    exact ⟨_, rfl, a⟩
theorem Live.nodead {φ : List Addr} {h : Hs} {j : Nat} {a : Addr} {xs : List D} (e : h[j]? = some (.lst xs)) (ea : φ[j]? = some a) : Live φ h a := ⟨j, _, e, fun z => (nomatch z), ea⟩
/-- the list l at j gets ys behind it -/
theorem RS.grow {B : Addr → Prop} {φ : List Addr} {h : Hs} {H : Hp} {K : PySem.W.Frag} (S : RS K B φ h H) {j : Nat} {a : Addr} {xs ys : List D} {vs us : List V} (e : h[j]? = some (.lst xs)) (ea : φ[j]? = some a) (eH : H a = some (.lst vs)) (r1 : RDs K (Mu B φ h) H xs vs) (r2 : RDs K (Mu B φ h) H ys us) :
    RS K B φ (h.set j (.lst (xs ++ ys))) (upd H a (.lst (vs ++ us))) ∧ Ext φ h H φ (h.set j (.lst (xs ++ ys))) (upd H a (.lst (vs ++ us))) := by
  have l : Live φ h a := Live.nodead e ea
  have hk := (List.getElem?_eq_some_iff.mp e).1
  have less : ∀ b, Mu B φ (h.set j (.lst (xs ++ ys))) b → Mu B φ h b := fun b z => by
    rcases z with z | ⟨i, w, h1, h2, h3⟩
    · exact .inl z
    · by_cases hj : j = i
      · subst hj
        rw [ea] at h3; cases h3
        exact .inr l
      · rw [List.getElem?_set_ne hj] at h1
        exact .inr ⟨i, w, h1, h2, h3⟩
  have kp : Kp K (Mu B φ h) (Mu B φ (h.set j (.lst (xs ++ ys)))) H (upd H a (.lst (vs ++ us))) := by
    have k1 : Kp K (Mu B φ h) (Mu B φ h) H (upd H a (.lst (vs ++ us))) := kp_wr (.inr l) eH
    exact ⟨k1.tu, fun b ws n q => ⟨fun z => n (less b z), (k1.ls b ws n q).2⟩, fun b kv n q => ⟨fun z => n (less b z), (k1.di b kv n q).2⟩⟩
  exact S.write e (fun z => (nomatch z)) ea (fun z => (nomatch z)) ⟨_, upd_same, (r1.app r2).kp kp⟩
theorem f_append {o : E} {es : Es} {y z : Expr} {ap cp : Pos} (hb : attributeBase y "append" X.env (eval y X.env) = eval y X.env) (hl : (ap.endLine == cp.line) = true) (hc : chkEs ci X.env.scope X.N es [z] = true) (ho : PE X y (TEx cs cf ca X Wx o)) (ha : PA X [z] (TAx cs cf ca X Wx es)) :
    PE X (.Call (.Attribute y "append" ap) [z] [] cp) (TEx cs cf ca X Wx (.mt .append o es)) := by
  have hp := chkEs_plain hc
  have s1 : starEach [z] X.env = (false, eval z X.env) :: starEach [] X.env := star_one (hp z List.mem_cons_self)
  refine pe_of (pe_bm (T := "list") (id := "list.append") F.plainAttrs_list F.slot_list_append F.type_list_append mt_append ho ha hb (by rw [back_all hp]; rfl) hl s1 rfl) fun σ H Q ⟨B, φ, env, h, S, R, P⟩ => ?_
  refine e_then S R P fun φ1 h1 H1 w v X1 S1 R1 rv P1 => ?_
  obtain ⟨u, et, P2⟩ := Pg.optBind P1
  cases w with
  | t d => cases et
  | pr _ _ => cases et
  | scr _ => cases et
  | ref j =>
    cases rv with
    | @ref _ a ea =>
      simp only [mtT] at et
      have ty : tyV X.K "list" (.ref a) H1 := by
        cases e : h1[j]? with
        | none => rw [e] at et; cases et
        | some ob =>
          rw [e] at et
          cases ob with
          | lst xs =>
            obtain ⟨vs, q1, q2⟩ := S1.ob j _ a e ea
            exact .inl ⟨rfl, vs, SqL.of q1⟩
          | dead => cases et
          | dct _ => cases et
      refine ⟨ty, es_thenE S1 R1 (fun ws h' e => evs_len hc e) P2 fun φ2 h2 H2 ws vs X2 S2 R2 rvs hn P3 => ?_⟩
      have ea2 := X2.phi ea
      match ws, hn with
      | [w], _ =>
        obtain ⟨v1, ev, r1⟩ := rvs.one
        subst ev
        simp only [mtW] at P3
        cases e1 : w.frz h2 with
        | none => rw [e1] at P3; exact P3.elim
        | some pr =>
          obtain ⟨d, h3⟩ := pr
          rw [e1] at P3
          simp only at P3
          obtain ⟨S3, X3, rd⟩ := frz_ok S2 r1 e1
          cases e2 : h3[j]? with
          | none => rw [e2] at P3; exact P3.elim
          | some ob =>
            rw [e2] at P3
            cases ob with
            | dead => exact P3.elim
            | dct _ => exact P3.elim
            | lst xs =>
              simp only at P3
              by_cases hz : xs.length < lim
              · rw [if_pos hz] at P3
                obtain ⟨us, q1, q2⟩ := S3.ob j _ a e2 ea2
                have zz : us.length < sizeLine := by
                  rw [← q2.len, sizeLine_eq]
                  unfold lim at hz
                  omega
                refine ⟨a, us, v1, rfl, rfl, q1, zz, ?_⟩
                obtain ⟨S4, X4⟩ := S3.grow e2 ea2 q1 q2 (.cons rd .nil)
                exact P3 φ2 _ (X3.trans X4) S4 _ (.t .non)
              · rw [if_neg hz] at P3; exact P3.elim
theorem f_extend {o : E} {es : Es} {y z : Expr} {ap cp : Pos} (hb : attributeBase y "extend" X.env (eval y X.env) = eval y X.env) (hl : (ap.endLine == cp.line) = true) (hc : chkEs ci X.env.scope X.N es [z] = true) (ho : PE X y (TEx cs cf ca X Wx o)) (ha : PA X [z] (TAx cs cf ca X Wx es)) :
    PE X (.Call (.Attribute y "extend" ap) [z] [] cp) (TEx cs cf ca X Wx (.mt .extend o es)) := by
  have hp := chkEs_plain hc
  have s1 : starEach [z] X.env = (false, eval z X.env) :: starEach [] X.env := star_one (hp z List.mem_cons_self)
  refine pe_of (pe_bm (T := "list") (id := "list.extend") F.plainAttrs_list F.slot_list_extend F.type_list_extend mt_extend ho ha hb (by rw [back_all hp]; rfl) hl s1 rfl) fun σ H Q ⟨B, φ, env, h, S, R, P⟩ => ?_
  refine e_then S R P fun φ1 h1 H1 w v X1 S1 R1 rv P1 => ?_
  obtain ⟨u, et, P2⟩ := Pg.optBind P1
  cases w with
  | t d => cases et
  | pr _ _ => cases et
  | scr _ => cases et
  | ref j =>
    cases rv with
    | @ref _ a ea =>
      simp only [mtT] at et
      have ty : tyV X.K "list" (.ref a) H1 := by
        cases e : h1[j]? with
        | none => rw [e] at et; cases et
        | some ob =>
          rw [e] at et
          cases ob with
          | lst xs =>
            obtain ⟨vs, q1, q2⟩ := S1.ob j _ a e ea
            exact .inl ⟨rfl, vs, SqL.of q1⟩
          | dead => cases et
          | dct _ => cases et
      refine ⟨ty, es_thenE S1 R1 (fun ws h' e => evs_len hc e) P2 fun φ2 h2 H2 ws vs X2 S2 R2 rvs hn P3 => ?_⟩
      have ea2 := X2.phi ea
      match ws, hn with
      | [w], _ =>
        obtain ⟨v1, ev, r1⟩ := rvs.one
        subst ev
        cases w with
        | ref _ => exact P3.elim
        | pr _ _ => exact P3.elim
        | scr _ => exact P3.elim
        | t d =>
          cases d with
          | list ys =>
            simp only [mtW] at P3
            cases e2 : h2[j]? with
            | none => rw [e2] at P3; exact P3.elim
            | some ob =>
              rw [e2] at P3
              cases ob with
              | dead => exact P3.elim
              | dct _ => exact P3.elim
              | lst xs =>
                simp only at P3
                by_cases hz : xs.length + ys.length ≤ lim
                · rw [if_pos hz] at P3
                  obtain ⟨us, q1, q2⟩ := S2.ob j _ a e2 ea2
                  cases r1 with
                  | t r1 =>
                    cases r1 with
                    | @lst b ws2 _ nm hb2 rd =>
                      refine ⟨a, b, us, ws2, rfl, rfl, q1, hb2, by rw [← q2.len, ← rd.len]; exact lim_line hz, ?_⟩
                      obtain ⟨S4, X4⟩ := S2.grow e2 ea2 q1 q2 rd
                      exact P3 φ2 _ X4 S4 _ (.t .non)
                · rw [if_neg hz] at P3; exact P3.elim
          | _ => exact P3.elim
def rClear : V → List V → Hp → VK → Prop := fun x vs H Q => ∃ l xs, x = .ref l ∧ vs = [] ∧ H l = some (.lst xs) ∧ Q .non (upd H l (.lst []))
theorem mt_clear : MtM X "list.clear" rClear := by
  intro pins s σ H x vs v us Q I rx rv h
  obtain ⟨l, xs, rfl, rfl, hH, q⟩ := h
  cases rx
  cases rv
  obtain ⟨z, its, n, r, hl, e⟩ := I.lstM hH
  refine call_meets F.slot_list_clear ⟨_, e, rfl⟩ F.entry_list_clear (F.args_list_clear_1 _) (AutoSeq1.list_clear_list_0 l its.toArray n (by rw [List.size_toArray]; omega)) ⟨e, ?_⟩
  exact ⟨.non, _, I.lset (its' := []) hH e (by simp) .nil (Nat.zero_le _), rfl, q⟩
theorem f_clear {o : E} {y : Expr} {ap cp : Pos} (hb : attributeBase y "clear" X.env (eval y X.env) = eval y X.env) (hl : (ap.endLine == cp.line) = true) (ho : PE X y (TEx cs cf ca X Wx o)) :
    PE X (.Call (.Attribute y "clear" ap) [] [] cp) (TEx cs cf ca X Wx (.mt .clear o .nil)) := by
  refine pe_of (pe_bm0 (T := "list") (id := "list.clear") F.plainAttrs_list F.slot_list_clear F.type_list_clear mt_clear ho hb hl) fun σ H Q ⟨B, φ, env, h, S, R, P⟩ => ?_
  refine e_then S R P fun φ1 h1 H1 w v X1 S1 R1 rv P1 => ?_
  obtain ⟨u, et, P2⟩ := Pg.optBind P1
  cases w with
  | t d => cases et
  | pr _ _ => cases et
  | scr _ => cases et
  | ref j =>
    cases rv with
    | @ref _ a ea =>
      simp only [mtT] at et
      cases e : h1[j]? with
      | none => rw [e] at et; cases et
      | some ob =>
        rw [e] at et
        cases ob with
        | dead => cases et
        | dct _ => cases et
        | lst xs =>
          obtain ⟨vs, q1, q2⟩ := S1.ob j _ a e ea
          refine ⟨.inl ⟨rfl, vs, SqL.of q1⟩, a, vs, rfl, rfl, q1, ?_⟩
          simp only [evs, Res.ok_bind, mtW, e] at P2
          obtain ⟨S4, X4⟩ := S1.write (o := .lst []) (ob := .lst []) e (fun z => (nomatch z)) ea (fun z => (nomatch z)) ⟨[], upd_same, .nil⟩
          exact P2 φ1 _ X4 S4 _ (.t .non)
/-! ### fresh lists -/
theorem e_thenE {e : E} {σ : L2.St} {H : Hp} {α : Type} {f : W → Hs → Res α} {B : Addr → Prop} {φ : List Addr} {env : Ev} {h : Hs} {C : List Addr → Hs → Hp → α → Prop} {Q : VK} (S : RS X.K B φ h H) (R : RE X.K φ (Mu B φ h) H env σ)
    (P : Pg X.K B φ h H (Ex ca Wx σ) ((ev cs cf e env h).bind f) C)
    (g : ∀ φ1 h1 H1 w v, ev cs cf e env h = .ok w h1 → Ext φ h H φ1 h1 H1 → RS X.K B φ1 h1 H1 → RE X.K φ1 (Mu B φ1 h1) H1 env σ → RW X.K φ1 (Mu B φ1 h1) H1 w v → Pg X.K B φ1 h1 H1 (Ex ca Wx σ) (f w h1) C → Q v H1) : tE X.K cs cf ca Wx e σ H Q :=
  ⟨B, φ, env, h, S, R, Pg.monoE (Pg.bind P) (fun _ _ e => e) fun φ1 h1 H1 w eq X1 S1 P1 v rv => g φ1 h1 H1 w v eq X1 S1 (R.ext X1) rv P1⟩
theorem g_rep {es : Es} {b : E} {x y : Expr} {op : Operator} {p : Pos} (ho : opB .mul op = true) (ha : PE X x (TEx cs cf ca X Wx (.lst es))) (hb : PE X y (TEx cs cf ca X Wx b)) : PE X (.BinOp x op y p) (TFx cs cf ca X Wx (.bin .mul (.lst es) b)) := by
  have e := opB_eq ho
  subst e
  refine pe_of (pe_op op_rep ha hb) fun σ H Q ⟨B, φ, env, h, S, R, P⟩ => ?_
  rw [ev] at P
  refine e_thenE S R P fun φ1 h1 H1 w v eq X1 S1 R1 rv P1 => ?_
  obtain ⟨ds, rfl⟩ : ∃ ds, w = .t (.list ds) := by
    rcases fresh_shape (e := .lst es) rfl eq with z | z
    · exact z
    · simp only [ev] at eq
      obtain ⟨ws, h2, q1, q2⟩ := bind_ok eq
      obtain ⟨pr, h3, q3, q4⟩ := bind_ok q2
      cases q4
      exact ⟨_, rfl⟩
  refine e_then S1 R1 P1 fun φ2 h2 H2 y u X2 S2 R2 ru P2 => ?_
  have rv := rv.ext X2
  obtain ⟨w, e, P3⟩ := Pg.optc P2
  simp only [W.peek, Option.bind_some] at e
  obtain ⟨d2, hd2, e⟩ := Option.bind_eq_some_iff.mp e
  obtain ⟨r, hr, e⟩ := Option.map_eq_some_iff.mp e
  subst e
  have p2 := peek_ok S2 ru hd2
  cases d2 <;> simp only [binD] at hr <;> try (cases hr; done)
  split at hr
  · rename_i i hz
    cases hr
    obtain rfl := p2.int
    cases rv with
    | t rv =>
      cases rv with
      | @lst a vs _ nm hH rd =>
        have a1 : vs.length * i.toNat ≤ 1000 * 1000 := Nat.mul_le_mul (by rw [← rd.len]; exact hz.1) (by omega)
        refine ⟨a, i, vs, rfl, rfl, hH, by omega, by omega, by rw [sizeLine_eq]; omega, fun q hq => ?_⟩
        exact g_of_last S2 (X1.trans X2) (rd.rep _) hq P3
  · cases hr
theorem g_list (G : Gd ci cs cf ca k X Wx) {es : Es} {x : Str} {y : Expr} {ys : List Expr} {p p2 : Pos} (hx : x = biNm .list) (hg : glB X.env.scope x = true) (hc : chkEs ci X.env.scope X.N es (y :: ys) = true) (ha : PA X (y :: ys) (TAx cs cf ca X Wx es)) :
    PE X (.Call (.Name x p2) (y :: ys) [] p) (TFx cs cf ca X Wx (.bi .list es)) := by
  subst hx
  have hp := chkEs_plain hc
  refine pe_of (pe_callTy call_list_of (glB_gl hg) (G.blt _ (by decide)) boot_list ha (by decide) (by decide) (star_one (hp y List.mem_cons_self)) (back_plain fun a h => hp a (List.mem_cons_of_mem _ h))) fun σ H Q ⟨B, φ, env, h, S, R, P⟩ => ?_
  refine es_then S R P fun φ1 h1 H1 ws vs X1 S1 R1 rvs P1 => ?_
  obtain ⟨w, e, P4⟩ := Pg.optc P1
  obtain ⟨ds, hd, e⟩ := Option.bind_eq_some_iff.mp e
  obtain ⟨r, hr, e⟩ := Option.map_eq_some_iff.mp e
  subst e
  have rp := peeks_ok S1 rvs hd
  rcases bi_args hr with ⟨d, rfl⟩ | ⟨d, d2, rfl⟩
  · obtain ⟨x, rfl, p0⟩ := rp.one
    cases d <;> simp only [biD] at hr <;> try (cases hr; done)
    · cases hr
      obtain ⟨a, us, rfl, h2, rd⟩ := p0
      exact ⟨a, us, rfl, .inl (SqL.of h2), fun q hq => g_of_last S1 X1 rd hq P4⟩
    · cases hr
      obtain ⟨a, us, rfl, h2, rd⟩ := p0.tup
      exact ⟨a, us, rfl, .inr h2, fun q hq => g_of_last S1 X1 rd hq P4⟩
  · cases d <;> cases d2 <;> simp [biD] at hr
theorem g_sorted (G : Gd ci cs cf ca k X Wx) {es : Es} {x : Str} {y : Expr} {ys : List Expr} {p p2 : Pos} (hx : x = biNm .sorted) (hg : glB X.env.scope x = true) (hc : chkEs ci X.env.scope X.N es (y :: ys) = true) (ha : PA X (y :: ys) (TAx cs cf ca X Wx es)) :
    PE X (.Call (.Name x p2) (y :: ys) [] p) (TFx cs cf ca X Wx (.bi .sorted es)) := by
  subst hx
  have hp := chkEs_plain hc
  refine pe_of (pe_callB (cr_srt G.calm) (glB_gl hg) (G.blt _ (by decide)) boot_sorted ha (by decide) (by decide) (star_one (hp y List.mem_cons_self)) (back_plain fun a h => hp a (List.mem_cons_of_mem _ h))) fun σ H Q ⟨B, φ, env, h, S, R, P⟩ => ?_
  refine es_then S R P fun φ1 h1 H1 ws vs X1 S1 R1 rvs P1 => ?_
  obtain ⟨w, e, P4⟩ := Pg.optc P1
  obtain ⟨ds, hd, e⟩ := Option.bind_eq_some_iff.mp e
  obtain ⟨r, hr, e⟩ := Option.map_eq_some_iff.mp e
  subst e
  have rp := peeks_ok S1 rvs hd
  rcases bi_args hr with ⟨d, rfl⟩ | ⟨d, d2, rfl⟩
  · obtain ⟨x, rfl, p0⟩ := rp.one
    simp only [biD] at hr
    obtain ⟨xs, hx, rfl⟩ := Option.map_eq_some_iff.mp hr
    exact ⟨_, d, xs, x, rfl, p0, hx, fun us p rd hp' => g_of_last S1 X1 rd hp' P4⟩
  · cases d <;> cases d2 <;> simp [biD] at hr

/-! ### walks -/
abbrev TIx (cs : List D) (cf : CF) (ca : Nat → Addr) (X : Cx) (Wx : WX) (i : I) : TI := tI X.K cs cf ca Wx i
theorem fw_of {kd : IK} {P Q : Prop} (h : (kd = .t ∧ P) ∨ (kd = .l ∧ Q)) : fwK kd = true := by
  rcases h with ⟨rfl, _⟩ | ⟨rfl, _⟩ <;> rfl
theorem src_seq {B : Addr → Prop} {φ : List Addr} {h : Hs} {H : Hp} {K : PySem.W.Frag} {xs : List D} {a : Addr} {kd : IK} {vs : List V} (hd : (kd = .t ∧ SqT K H a vs) ∨ (kd = .l ∧ ¬ Mu B φ h a ∧ H a = some (.lst vs))) (rd : RDs K (Mu B φ h) H xs vs) :
    ∀ (B' : Addr → Prop) (φ' : List Addr) (h' : Hs) (H' : Hp), (∀ a, B' a → B a ∨ H a = none) → Ext φ h H φ' h' H' → SqK K kd H' a vs ∧ RDs K (Mu B' φ' h') H' xs vs := by
  intro B' φ' h' H' hB x
  have kp : Kp K (Mu B φ h) (Mu B' φ' h') H H' := by
    have k0 : Kp K (Mu B φ h) (Mu B φ' h') H H' := x.kp
    have fr : ∀ a, Mu B' φ' h' a → Mu B φ h a ∨ H a = none := fun a z => by
      rcases z with z | z
      · rcases hB a z with q | q
        · exact .inl (.inl q)
        · exact .inr q
      · rcases x.new a z with q | q
        · exact .inl (.inr q)
        · exact .inr q
    refine ⟨k0.tu, fun a ws m e => ⟨fun z => ?_, (k0.ls a ws m e).2⟩, fun a kv m e => ⟨fun z => ?_, (k0.di a kv m e).2⟩⟩
    · rcases fr a z with q | q
      · exact m q
      · rw [q] at e; cases e
    · rcases fr a z with q | q
      · exact m q
      · exact rd_some e q
  refine ⟨?_, rd.kp kp⟩
  rcases hd with ⟨rfl, s⟩ | ⟨rfl, m, e⟩
  · exact kp.tu _ _ s
  · exact SqL.of (kp.ls _ _ m e).2
theorem tree_src {K : PySem.W.Frag} {M : Addr → Prop} {H : Hp} {d : D} {xs : List D} {v : V} (r : RD K M H d v) (e : seqD d = some xs) : ∃ (kd : IK) (a : Addr) (vs : List V), v = .ref a ∧ ((kd = .t ∧ SqT K H a vs) ∨ (kd = .l ∧ ¬ M a ∧ H a = some (.lst vs))) ∧ RDs K M H xs vs := by
  cases r with
  | tup s r => cases e; exact ⟨.t, _, _, rfl, .inl ⟨rfl, s⟩, r⟩
  | lst m s r => cases e; exact ⟨.l, _, _, rfl, .inr ⟨rfl, m, s⟩, r⟩
  | _ => cases e
theorem kd_sq {K : PySem.W.Frag} {M : Addr → Prop} {H : Hp} {a : Addr} {kd : IK} {vs : List V} (hd : (kd = .t ∧ SqT K H a vs) ∨ (kd = .l ∧ ¬ M a ∧ H a = some (.lst vs))) : SqK K kd H a vs := by
  rcases hd with ⟨rfl, s⟩ | ⟨rfl, m, e⟩
  · exact s
  · exact SqL.of e
theorem thaw_then {α : Type} {w : W} {v : V} {B : Addr → Prop} {φ : List Addr} {h : Hs} {H : Hp} {Ex : Nat → Hp → Prop} {f : D → Hs → Res α} {C : List Addr → Hs → Hp → α → Prop} (S : RS X.K B φ h H) (rv : RW X.K φ (Mu B φ h) H w v) (P : Pg X.K B φ h H Ex ((thaw w h).bind f) C) :
    ∃ d h2, RS X.K B φ h2 H ∧ Ext φ h H φ h2 H ∧ RD X.K (Mu B φ h2) H d v ∧ Pg X.K B φ h2 H Ex (f d h2) C := by
  cases w with
  | t d =>
    cases rv with
    | t rd => exact ⟨d, h, S, Ext.refl, rd, P⟩
  | ref j =>
    simp only [thaw] at P
    cases e : (W.ref j).frz h with
    | none => rw [e] at P; exact P.elim
    | some pr =>
      obtain ⟨d, h2⟩ := pr
      rw [e] at P
      obtain ⟨S2, X2, rd⟩ := frz_ok S rv e
      exact ⟨d, h2, S2, X2, rd, Pg.rebase X2 P⟩
  | pr _ _ => exact P.elim
  | scr _ => exact P.elim
theorem i_seq {tg a : Expr} {e : E} (ha : PE X a (TEx cs cf ca X Wx e)) : PI X tg a (TIx cs cf ca X Wx (.seq e)) := by
  refine pi_of (pi_seqK ha) fun σ H R ⟨B, φ, env, h, S, RR, P⟩ => ?_
  refine e_then S RR P fun φ1 h1 H1 w v X1 S1 R1 rv P1 => ?_
  obtain ⟨d, h2, S2, X2, rd, P1⟩ := thaw_then S1 rv P1
  obtain ⟨xs, e, P2⟩ := Pg.optc P1
  obtain ⟨kd, a, vs, ev, hd, rds⟩ := tree_src rd e
  refine ⟨kd, a, vs, ev, fw_of hd, kd_sq hd, fun hz => Pg.okv S2 P2 (by rw [rds.len]; exact hz) _ fun B' φ' h' H' hB x S' i => ⟨fun hi => ?_, fun hi => ?_⟩⟩
  · obtain ⟨s, rd2⟩ := src_seq hd rds B' φ' h' H' hB x
    have hl : i < vs.length := by rw [← rds.len]; exact hi
    refine ⟨⟨vs, vs[i], s, List.getElem?_eq_getElem hl⟩, fun x2 H2 ⟨e1, f⟩ => ?_⟩
    obtain ⟨d2, g1, g2⟩ := rd2.getV (f vs s)
    subst e1
    exact ⟨d2, g1, .inl rfl, g2⟩
  · obtain ⟨s, rd2⟩ := src_seq hd rds B' φ' h' H' hB x
    exact ⟨vs, s, by rw [← rds.len, hi]; exact Nat.le_refl _⟩
theorem rng_ok {i : Int} (h : rngOk i = true) : -1000000 ≤ i ∧ i ≤ 1000000 := of_decide_eq_true h
theorem rng_src {K : PySem.W.Frag} {B : Addr → Prop} {φ : List Addr} {h : Hs} {H : Hp} (lo c : Int) (n : Nat) : Src K (Itc lo c n) (rng3D lo c n) B φ h H := by
  intro B' φ' h' H' hB x S' i
  have hl : (rng3D lo c n).length = n := by unfold rng3D; simp
  refine ⟨fun hi => ?_, fun hi => by rw [hl] at hi; exact Nat.le_of_eq hi.symm⟩
  rw [hl] at hi
  refine ⟨hi, fun x2 H2 ⟨e1, e2⟩ => ⟨.int (lo + i * c), ?_, .inl e1, ?_⟩⟩
  · unfold rng3D
    rw [List.getElem?_map, List.getElem?_range hi]; rfl
  · subst e1 e2
    exact .int _
theorem rng1_src {K : PySem.W.Frag} {B : Addr → Prop} {φ : List Addr} {h : Hs} {H : Hp} (lo : Int) (n : Nat) : Src K (Itr lo n) (rngD lo n) B φ h H := by
  intro B' φ' h' H' hB x S' i
  have hl : (rngD lo n).length = n := by unfold rngD; simp
  refine ⟨fun hi => ?_, fun hi => by rw [hl] at hi; exact Nat.le_of_eq hi.symm⟩
  rw [hl] at hi
  refine ⟨hi, fun x2 H2 ⟨e1, e2⟩ => ⟨.int (lo + i), ?_, .inl e1, ?_⟩⟩
  · unfold rngD
    rw [List.getElem?_map, List.getElem?_range hi]; rfl
  · subst e1 e2
    exact .int _
theorem i_rng1 (G : Gd ci cs cf ca k X Wx) {tg a : Expr} {e : E} {x : Str} {p pos : Pos} (hx : x = ("range" : Str)) (hg : glB X.env.scope x = true) (hp : Plain a) (ha : PE X a (TEx cs cf ca X Wx e)) : PI X tg (.Call (.Name x p) [a] [] pos) (TIx cs cf ca X Wx (.rng1 e)) := by
  subst hx
  refine pi_of (pi_range1 (glB_gl hg) (G.blt _ (by decide)) (pa_cons ha pa_nil (star_one hp)) (star_one hp)) fun σ H R ⟨B, φ, env, h, S, RR, P⟩ => ?_
  refine e_then S RR P fun φ1 h1 H1 w v X1 S1 R1 rv P1 => ?_
  obtain ⟨i, e, P2⟩ := Pg.optBind P1
  obtain rfl := int_v rv e
  split at P2
  · rename_i hr
    have hr := rng_ok hr
    have q := Pg.okv S1 P2 (by unfold rngD; rw [List.length_map, List.length_range, sizeLine_eq]; omega) _ (rng1_src 0 i.toNat)
    exact ⟨i, rfl, by omega, by omega, q⟩
  · exact P2.elim
theorem i_rng2 (G : Gd ci cs cf ca k X Wx) {tg a b : Expr} {e f : E} {x : Str} {p pos : Pos} (hx : x = ("range" : Str)) (hg : glB X.env.scope x = true) (hp : Plain a) (hp2 : Plain b) (ha : PE X a (TEx cs cf ca X Wx e)) (hb : PE X b (TEx cs cf ca X Wx f)) : PI X tg (.Call (.Name x p) [a, b] [] pos) (TIx cs cf ca X Wx (.rng2 e f)) := by
  subst hx
  have s2 : starEach [b] X.env = [(false, eval b X.env)] := star_one hp2
  have s1 : starEach [a, b] X.env = (false, eval a X.env) :: starEach [b] X.env := star_one hp
  refine pi_of (pi_range2 (glB_gl hg) (G.blt _ (by decide)) (pa_cons ha (pa_cons hb pa_nil s2) s1) (by rw [s1, s2]) s2) fun σ H R ⟨B, φ, env, h, S, RR, P⟩ => ?_
  refine two_then S RR P fun φ1 h1 H1 w1 w2 v1 v2 X1 S1 R1 r1 r2 P1 => ?_
  obtain ⟨i, e, P2⟩ := Pg.optBind P1
  obtain rfl := int_v r1 e
  obtain ⟨j, e, P2⟩ := Pg.optBind P2
  obtain rfl := int_v r2 e
  split at P2
  · rename_i hr
    rw [Bool.and_eq_true] at hr
    have h1' := rng_ok hr.1
    have h2' := rng_ok hr.2
    have q := Pg.okv S1 P2 (by unfold rngD; rw [List.length_map, List.length_range, sizeLine_eq]; omega) _ (rng1_src i (j - i).toNat)
    exact ⟨i, j, rfl, ⟨by omega, by omega, by omega, by omega⟩, q⟩
  · exact P2.elim
theorem i_rng3 (G : Gd ci cs cf ca k X Wx) {tg a b c : Expr} {e f g : E} {x : Str} {p pos : Pos} (hx : x = ("range" : Str)) (hg : glB X.env.scope x = true) (hp : Plain a) (hp2 : Plain b) (hp3 : Plain c) (ha : PE X a (TEx cs cf ca X Wx e)) (hb : PE X b (TEx cs cf ca X Wx f)) (hc : PE X c (TEx cs cf ca X Wx g)) : PI X tg (.Call (.Name x p) [a, b, c] [] pos) (TIx cs cf ca X Wx (.rng3 e f g)) := by
  subst hx
  have s3 : starEach [c] X.env = [(false, eval c X.env)] := star_one hp3
  have s2 : starEach [b, c] X.env = (false, eval b X.env) :: starEach [c] X.env := star_one hp2
  have s1 : starEach [a, b, c] X.env = (false, eval a X.env) :: starEach [b, c] X.env := star_one hp
  refine pi_of (pi_range3 (glB_gl hg) (G.blt _ (by decide)) (pa_cons ha (pa_cons hb (pa_cons hc pa_nil s3) s2) s1) s1 (by rw [s2, s3]; rfl)) fun σ H R ⟨B, φ, env, h, S, RR, P⟩ => ?_
  refine e_then S RR P fun φ1 h1 H1 w1 v1 X1 S1 R1 r1 P1 => ?_
  refine e_then S1 R1 P1 fun φ2 h2 H2 w2 v2 X2 S2 R2 r2 P2 => ?_
  refine e_then S2 R2 P2 fun φ3 h3 H3 w3 v3 X3 S3 R3 r3 P3 => ?_
  obtain ⟨i, e, P4⟩ := Pg.optBind P3
  obtain rfl := int_v r1 e
  obtain ⟨j, e, P4⟩ := Pg.optBind P4
  obtain rfl := int_v r2 e
  obtain ⟨kk, e, P4⟩ := Pg.optBind P4
  obtain rfl := int_v r3 e
  split at P4
  · rename_i hr
    unfold rng3Ok at hr
    simp only [Bool.and_eq_true, decide_eq_true_eq] at hr
    obtain ⟨⟨⟨⟨hk, h0⟩, hs⟩, hz⟩, hn⟩ := hr
    have h1' := rng_ok hk
    have h2' := rng_ok hz
    have q := Pg.okv S3 P4 (by unfold rng3D; rw [List.length_map, List.length_range, sizeLine_eq]; omega) _ (rng_src i kk (Builtin.Range.rangeSize i j kk).toNat)
    exact ⟨i, j, kk, _, rfl, ⟨h0, by omega, hs, (Int.toNat_of_nonneg hn).symm⟩, q⟩
  · exact P4.elim
theorem enm_get {xs : List D} {i : Nat} {d : D} (h : xs[i]? = some d) : (enmD xs)[i]? = some (.tuple [.int i, d]) := by
  unfold enmD
  have hi := (List.getElem?_eq_some_iff.mp h).1
  rw [List.getElem?_zipWith, List.getElem?_range hi, h]
theorem enm_len (xs : List D) : (enmD xs).length = xs.length := by unfold enmD; simp
theorem i_enm (G : Gd ci cs cf ca k X Wx) {a : Expr} {e : E} {x : Str} {p pos tpos : Pos} {elts : List Expr} {kk : Nat} (hx : x = ("enumerate" : Str)) (hg : glB X.env.scope x = true) (hp : Plain a) (ha : PE X a (TEx cs cf ca X Wx e)) : PI X (.Tuple elts kk tpos) (.Call (.Name x p) [a] [] pos) (TIx cs cf ca X Wx (.enm e)) := by
  subst hx
  have s1 : starEach [a] X.env = (false, eval a X.env) :: starEach [] X.env := star_one hp
  refine pi_of (pi_enumK (glB_gl hg) (G.blt _ (by decide)) (pa_cons ha pa_nil s1) s1) fun σ H R ⟨B, φ, env, h, S, RR, P⟩ => ?_
  refine e_then S RR P fun φ1 h1 H1 w v X1 S1 R1 rv P1 => ?_
  obtain ⟨d, h2, S2, X2, rd, P1⟩ := thaw_then S1 rv P1
  obtain ⟨xs, e, P2⟩ := Pg.optBind P1
  obtain ⟨kd, a, vs, ev, hd, rds⟩ := tree_src rd e
  subst ev
  refine ⟨kd, a, vs, rfl, fw_of hd, kd_sq hd, fun hz => Pg.okv S2 P2 (by rw [enm_len, rds.len]; exact hz) _ fun B' φ' h' H' hB x S' i => ⟨fun hi => ?_, fun hi => ?_⟩⟩
  · obtain ⟨s, rd2⟩ := src_seq hd rds B' φ' h' H' hB x
    have hl : i < vs.length := by rw [← rds.len, ← enm_len]; exact hi
    refine ⟨⟨vs, vs[i], s, List.getElem?_eq_getElem hl⟩, fun x2 H2 ⟨T, y, e0, hT, e1, f⟩ => ?_⟩
    obtain ⟨d2, g1, g2⟩ := rd2.getV (f vs s)
    subst e0 e1
    have X2 : Ext φ' h' H' φ' h' (upd H' T (.tup [.int (i : Nat), y])) := Ext.fresh hT
    exact ⟨_, enm_get g1, .inr (.inl ⟨T, _, hT, rfl⟩), .tup (SqT.of upd_same) (.cons (.int _) (.cons (g2.kp X2.kp) .nil))⟩
  · obtain ⟨s, rd2⟩ := src_seq hd rds B' φ' h' H' hB x
    exact ⟨vs, s, by rw [← rds.len, hi, enm_len]⟩
/-! zip -/
theorem zipN_get {α : Type} : ∀ {ls : List (List α)} {i : Nat}, ls ≠ [] → i < (zipN ls).length → ∃ row, (zipN ls)[i]? = some row ∧ row.length = ls.length ∧ ∀ (j : Nat) (l : List α), ls[j]? = some l → ∃ x, l[i]? = some x ∧ row[j]? = some x
  | [], _, h, _ => absurd rfl h
  | [xs], i, _, hi => by
    have hi : i < xs.length := by simpa [zipN] using hi
    refine ⟨[xs[i]], by simp [zipN, hi], rfl, fun j l hl => ?_⟩
    cases j with
    | zero => simp at hl; subst hl; exact ⟨_, List.getElem?_eq_getElem hi, rfl⟩
    | succ j => simp at hl
  | xs :: ys :: r, i, _, hi => by
    have e : zipN (xs :: ys :: r) = List.zipWith (· :: ·) xs (zipN (ys :: r)) := rfl
    rw [e] at hi ⊢
    rw [List.length_zipWith] at hi
    have h1 : i < xs.length := Nat.lt_of_lt_of_le hi (Nat.min_le_left _ _)
    obtain ⟨row, g1, g2, g3⟩ := zipN_get (ls := ys :: r) (by simp) (Nat.lt_of_lt_of_le hi (Nat.min_le_right _ _))
    refine ⟨xs[i] :: row, ?_, by rw [List.length_cons, g2]; rfl, fun j l hl => ?_⟩
    · rw [List.getElem?_zipWith, List.getElem?_eq_getElem h1, g1]
    · cases j with
      | zero => simp at hl; subst hl; exact ⟨_, List.getElem?_eq_getElem h1, rfl⟩
      | succ j => exact g3 j l (by simpa using hl)
theorem zipN_end {α : Type} : ∀ {ls : List (List α)}, ls ≠ [] → ∃ (j : Nat) (l : List α), ls[j]? = some l ∧ l.length ≤ (zipN ls).length
  | [], h => absurd rfl h
  | [xs], _ => ⟨0, xs, rfl, by simp [zipN]⟩
  | xs :: ys :: r, _ => by
    have e : zipN (xs :: ys :: r) = List.zipWith (· :: ·) xs (zipN (ys :: r)) := rfl
    rw [e, List.length_zipWith]
    by_cases h : xs.length ≤ (zipN (ys :: r)).length
    · exact ⟨0, xs, rfl, by omega⟩
    · obtain ⟨j, l, h1, h2⟩ := zipN_end (ls := ys :: r) (by simp)
      exact ⟨j + 1, l, by simpa using h1, by omega⟩
theorem zipN_le {α : Type} : ∀ {ls : List (List α)} {l : List α}, l ∈ ls → (zipN ls).length ≤ l.length
  | [xs], l, h => by simp at h; subst h; simp [zipN]
  | xs :: ys :: r, l, h => by
    have e : zipN (xs :: ys :: r) = List.zipWith (· :: ·) xs (zipN (ys :: r)) := rfl
    rw [e, List.length_zipWith]
    rcases List.mem_cons.mp h with rfl | h
    · exact Nat.min_le_left _ _
    · exact Nat.le_trans (Nat.min_le_right _ _) (zipN_le h)
theorem seqs_src {K : PySem.W.Frag} {φ : List Addr} {M : Addr → Prop} {H : Hp} : ∀ {ws : List W} {vs : List V} {ls : List (List D)}, RWs K φ M H ws vs → seqsW false ws = some ls →
    ∃ ks : List (IK × Addr), ks.length = ws.length ∧ ls.length = ws.length ∧ vs = ks.map (fun p => V.ref p.2) ∧ ∀ (j : Nat) (kd : IK) (a : Addr), ks[j]? = some (kd, a) → ∃ (xs : List D) (us : List V), ls[j]? = some xs ∧ ((kd = .t ∧ SqT K H a us) ∨ (kd = .l ∧ ¬ M a ∧ H a = some (.lst us))) ∧ RDs K M H xs us
  | [], vs, ls, r, e => by
    cases r
    cases e
    exact ⟨[], rfl, rfl, rfl, fun j kd a h => by simp at h⟩
  | .t d :: ws, vs, ls, r, e => by
    cases r with
    | cons r1 r2 =>
      simp only [seqsW] at e
      obtain ⟨xs, e1, e⟩ := Option.bind_eq_some_iff.mp e
      obtain ⟨ls', e2, e⟩ := Option.map_eq_some_iff.mp e
      subst e
      obtain ⟨ks, l1, l2, ev, g⟩ := seqs_src r2 e2
      subst ev
      cases r1 with
      | t rd =>
        obtain ⟨kd, a, us, ea, hd, rds⟩ := tree_src rd e1
        subst ea
        refine ⟨(kd, a) :: ks, by simp [l1], by simp [l2], rfl, fun j kd' a' h => ?_⟩
        cases j with
        | zero =>
          simp at h
          obtain ⟨rfl, rfl⟩ := h
          exact ⟨xs, us, by simp, hd, rds⟩
        | succ j =>
          obtain ⟨xs', us', g1, g2, g3⟩ := g j kd' a' (by simpa using h)
          exact ⟨xs', us', by simpa using g1, g2, g3⟩
  | .ref _ :: ws, vs, ls, r, e => by cases e
  | .pr _ _ :: ws, vs, ls, r, e => by cases e
  | .scr _ :: ws, vs, ls, r, e => by cases e
theorem RDs.of_get {K : PySem.W.Frag} {M : Addr → Prop} {H : Hp} : ∀ {ds : List D} {vs : List V}, ds.length = vs.length → (∀ (j : Nat) (d : D) (v : V), ds[j]? = some d → vs[j]? = some v → RD K M H d v) → RDs K M H ds vs
  | [], [], _, _ => .nil
  | [], _ :: _, h, _ => by simp at h
  | _ :: _, [], h, _ => by simp at h
  | d :: ds, v :: vs, h, g => .cons (g 0 d v rfl rfl) (RDs.of_get (by simpa using h) fun j d v h1 h2 => g (j + 1) d v (by simpa using h1) (by simpa using h2))
theorem zip_srcG {K : PySem.W.Frag} {B : Addr → Prop} {φ : List Addr} {h : Hs} {H : Hp} {ks : List (IK × Addr)} {ls : List (List D)} (hne : ks ≠ []) (hl : ls.length = ks.length)
    (g : ∀ (j : Nat) (kd : IK) (a : Addr), ks[j]? = some (kd, a) → ∃ (xs : List D), ls[j]? = some xs ∧ ∀ (B' : Addr → Prop) (φ' : List Addr) (h' : Hs) (H' : Hp), (∀ a, B' a → B a ∨ H a = none) → Ext φ h H φ' h' H' → ∃ us : List V, SqK K kd H' a us ∧ RDs K (Mu B' φ' h') H' xs us) :
    Src K (ItN K ks) ((zipN ls).map .tuple) B φ h H := by
  have hne' : ls ≠ [] := by
    intro z
    rw [z] at hl
    exact hne (List.length_eq_zero_iff.mp hl.symm)
  intro B' φ' h' H' hB x S' i
  have g' : ∀ (j : Nat) (kd : IK) (a : Addr), ks[j]? = some (kd, a) → ∃ (xs : List D) (us : List V), ls[j]? = some xs ∧ SqK K kd H' a us ∧ RDs K (Mu B' φ' h') H' xs us := fun j kd a e => by
    obtain ⟨xs, e1, gg⟩ := g j kd a e
    obtain ⟨us, s, rd2⟩ := gg B' φ' h' H' hB x
    exact ⟨xs, us, e1, s, rd2⟩
  refine ⟨fun hi => ⟨fun kd a hm => ?_, fun x2 H2 ⟨T, row, e0, hT, e1, hr, f⟩ => ?_⟩, fun hi => ⟨fun kd a hm => ?_, ?_⟩⟩
  · rw [List.length_map] at hi
    obtain ⟨j, hj⟩ := List.mem_iff_getElem?.mp hm
    obtain ⟨xs, us, e1, s, rd⟩ := g' j kd a hj
    obtain ⟨r, _, _, g3⟩ := zipN_get hne' hi
    obtain ⟨d, hd, _⟩ := g3 j xs e1
    obtain ⟨v, hv, _⟩ := rd.get hd
    exact ⟨us, v, s, hv⟩
  · rw [List.length_map] at hi
    subst e0 e1
    have X2 : Ext φ' h' H' φ' h' (upd H' T (.tup row)) := Ext.fresh hT
    obtain ⟨r, g1, g2, g3⟩ := zipN_get hne' hi
    refine ⟨.tuple r, by rw [List.getElem?_map, g1]; rfl, .inr (.inl ⟨T, _, hT, rfl⟩), .tup (SqT.of upd_same) ?_⟩
    refine RDs.of_get (by rw [g2, hl, hr]) fun j d v h1 h2 => ?_
    have hj : j < ks.length := by rw [← hr]; exact (List.getElem?_eq_some_iff.mp h2).1
    obtain ⟨⟨kd, a⟩, hk⟩ : ∃ q, ks[j]? = some q := ⟨_, List.getElem?_eq_getElem hj⟩
    obtain ⟨xs, us, e1, s, rd⟩ := g' j kd a hk
    obtain ⟨d', hd, hd'⟩ := g3 j xs e1
    rw [h1] at hd'; cases hd'
    obtain ⟨v', hv, rv⟩ := rd.get hd
    have := f j kd a hk us s
    rw [hv, h2] at this; cases this
    exact rv.kp X2.kp
  · obtain ⟨j, hj⟩ := List.mem_iff_getElem?.mp hm
    obtain ⟨xs, us, e1, s, rd⟩ := g' j kd a hj
    exact ⟨us, s⟩
  · rw [List.length_map] at hi
    obtain ⟨j, l, hj, hle⟩ := zipN_end hne'
    have hjk : j < ks.length := by rw [← hl]; exact (List.getElem?_eq_some_iff.mp hj).1
    obtain ⟨⟨kd, a⟩, hk⟩ : ∃ q, ks[j]? = some q := ⟨_, List.getElem?_eq_getElem hjk⟩
    obtain ⟨xs, us, e1, s, rd⟩ := g' j kd a hk
    rw [hj] at e1; cases e1
    exact ⟨kd, a, us, List.mem_of_getElem? hk, s, by rw [← rd.len, hi]; exact hle⟩
theorem zip_src {K : PySem.W.Frag} {B : Addr → Prop} {φ : List Addr} {h : Hs} {H : Hp} {ks : List (IK × Addr)} {ls : List (List D)} (hne : ks ≠ []) (hl : ls.length = ks.length)
    (g : ∀ (j : Nat) (kd : IK) (a : Addr), ks[j]? = some (kd, a) → ∃ (xs : List D) (us : List V), ls[j]? = some xs ∧ ((kd = .t ∧ SqT K H a us) ∨ (kd = .l ∧ ¬ Mu B φ h a ∧ H a = some (.lst us))) ∧ RDs K (Mu B φ h) H xs us) :
    Src K (ItN K ks) ((zipN ls).map .tuple) B φ h H := 
  zip_srcG hne hl fun j kd a e => by
    obtain ⟨xs, us, e1, hd, rd⟩ := g j kd a e
    exact ⟨xs, e1, fun B' φ' h' H' hB x => ⟨us, src_seq hd rd B' φ' h' H' hB x⟩⟩
theorem zip_then {es : Es} {as : List Expr} {σ : L2.St} {H : Hp} {R : It → Hp → Prop} {B : Addr → Prop} {φ : List Addr} {env : Ev} {h : Hs} (hc : chkEs ci X.env.scope X.N es as = true) (h0 : as ≠ []) (S : RS X.K B φ h H) (RR : RE X.K φ (Mu B φ h) H env σ)
    (P : Pg X.K B φ h H (Ex ca Wx σ) (evI cs cf (.zip false es) env h) (fun φ' h' H' xs => xs.length ≤ sizeLine → ∀ J, Src X.K J xs B φ' h' H' → R J H')) : iZipN X.K as.length (TAx cs cf ca X Wx es) σ H R := by
  refine es_thenE S RR (fun ws h' e => evs_len hc e) P fun φ1 h1 H1 ws vs X1 S1 R1 rvs hn P1 => ?_
  obtain ⟨ls, e, P2⟩ := Pg.optBind P1
  obtain ⟨ks, l1, l2, ev, g⟩ := seqs_src rvs e
  have hne : ks ≠ [] := fun z => h0 (List.length_eq_zero_iff.mp (by rw [← hn, ← l1, z]; rfl))
  refine ⟨ks, by rw [l1, hn], ev, fun kd a hm => ?_, fun hz => ?_⟩
  · obtain ⟨j, hj⟩ := List.mem_iff_getElem?.mp hm
    obtain ⟨xs, us, _, hd, _⟩ := g j kd a hj
    exact ⟨by rcases hd with ⟨rfl, _⟩ | ⟨rfl, _⟩ <;> rfl, us, kd_sq hd⟩
  · refine Pg.okv S1 P2 ?_ _ (zip_src hne (by rw [l2, l1]) g)
    rw [List.length_map]
    cases ks with
    | nil => exact absurd rfl hne
    | cons q r =>
      obtain ⟨kd, a⟩ := q
      obtain ⟨xs, us, e1, hd, rd⟩ := g 0 kd a rfl
      exact Nat.le_trans (zipN_le (List.mem_of_getElem? e1)) (by rw [rd.len]; exact hz kd a List.mem_cons_self us (kd_sq hd))
theorem i_zip2 (G : Gd ci cs cf ca k X Wx) {a b : Expr} {es : Es} {x : Str} {p pos tpos : Pos} {elts : List Expr} {kk : Nat} (hx : x = ("zip" : Str)) (hg : glB X.env.scope x = true) (hc : chkEs ci X.env.scope X.N es [a, b] = true) (ha : PA X [a, b] (TAx cs cf ca X Wx es)) : PI X (.Tuple elts kk tpos) (.Call (.Name x p) [a, b] [] pos) (TIx cs cf ca X Wx (.zip false es)) := by
  subst hx
  have hp := chkEs_plain hc
  refine pi_of (pi_zip2 (glB_gl hg) (G.blt _ (by decide)) ha (star_one (hp a (by simp))) (back_plain fun c h => hp c (List.mem_cons_of_mem _ h))) fun σ H R ⟨B, φ, env, h, S, RR, P⟩ => zip_then hc (by simp) S RR P
theorem i_zip3 (G : Gd ci cs cf ca k X Wx) {a b c : Expr} {es : Es} {x : Str} {p pos tpos : Pos} {elts : List Expr} {kk : Nat} (hx : x = ("zip" : Str)) (hg : glB X.env.scope x = true) (hc : chkEs ci X.env.scope X.N es [a, b, c] = true) (ha : PA X [a, b, c] (TAx cs cf ca X Wx es)) : PI X (.Tuple elts kk tpos) (.Call (.Name x p) [a, b, c] [] pos) (TIx cs cf ca X Wx (.zip false es)) := by
  subst hx
  have hp := chkEs_plain hc
  refine pi_of (pi_zip3 (glB_gl hg) (G.blt _ (by decide)) ha (star_one (hp a (by simp))) (back_plain fun c h => hp c (List.mem_cons_of_mem _ h))) fun σ H R ⟨B, φ, env, h, S, RR, P⟩ => zip_then hc (by simp) S RR P
theorem i_zip4 (G : Gd ci cs cf ca k X Wx) {a b c d : Expr} {es : Es} {x : Str} {p pos tpos : Pos} {elts : List Expr} {kk : Nat} (hx : x = ("zip" : Str)) (hg : glB X.env.scope x = true) (hc : chkEs ci X.env.scope X.N es [a, b, c, d] = true) (ha : PA X [a, b, c, d] (TAx cs cf ca X Wx es)) : PI X (.Tuple elts kk tpos) (.Call (.Name x p) [a, b, c, d] [] pos) (TIx cs cf ca X Wx (.zip false es)) := by
  subst hx
  have hp := chkEs_plain hc
  refine pi_of (pi_zip4 (glB_gl hg) (G.blt _ (by decide)) ha (star_one (hp a (by simp))) (back_plain fun c h => hp c (List.mem_cons_of_mem _ h))) fun σ H R ⟨B, φ, env, h, S, RR, P⟩ => zip_then hc (by simp) S RR P
theorem i_zipr (G : Gd ci cs cf ca k X Wx) {x y : Expr} {a b : E} {n r q : Str} {p p1 pos1 p2 pos2 pos tpos : Pos} {elts : List Expr} {kk : Nat} (hn : n = ("zip" : Str)) (hr : r = ("reversed" : Str)) (hq : q = ("reversed" : Str)) (gn : glB X.env.scope n = true) (gr : glB X.env.scope r = true) (px : Plain x) (py : Plain y) (ha : PE X x (TEx cs cf ca X Wx a)) (hb : PE X y (TEx cs cf ca X Wx b)) :
    PI X (.Tuple elts kk tpos) (.Call (.Name n p) [.Call (.Name r p1) [x] [] pos1, .Call (.Name q p2) [y] [] pos2] [] pos) (TIx cs cf ca X Wx (.zipr a b)) := by
  subst hn hr hq
  refine pi_of (pi_zipR (glB_gl gn) (G.blt _ (by decide)) (glB_gl gr) (G.blt _ (by decide)) ha hb (star_one px) (star_one py)) fun σ H R ⟨B, φ, env, h, S, RR, P⟩ => ?_
  refine e_then S RR P fun φ1 h1 H1 w v X1 S1 R1 rv P1 => ?_
  obtain ⟨xs, e1, PA⟩ := Pg.optBind P1
  clear P1
  cases w <;> first | (cases e1; done) | skip
  rename_i d
  cases rv with
  | t rd =>
  obtain ⟨kd, a1, vs, rfl, hd, rds⟩ := tree_src rd e1
  refine ⟨kd, a1, vs, fw_of hd, rfl, kd_sq hd, ?_⟩
  refine e_then S1 R1 PA fun φ2 h2 H2 w2 v2 X2 S2 R2 rv2 P2 => ?_
  obtain ⟨ys, e2, PB⟩ := Pg.optBind P2
  clear P2
  cases w2 <;> first | (cases e2; done) | skip
  rename_i d2
  cases rv2 with
  | t rd2 =>
  obtain ⟨kd2, a2, us, rfl, hd2, rds2⟩ := tree_src rd2 e2
  have back1 := fun (B' : Addr → Prop) (φ' : List Addr) (h' : Hs) (H' : Hp) hB x => src_seq hd rds B' φ' h' H' hB x
  refine ⟨kd2, a2, us, fw_of hd2, rfl, kd_sq hd2, kd_sq hd2, (back1 B φ2 h2 H2 (fun _ z => .inl z) X2).1, fun l1 l2 => ?_⟩
  refine Pg.okv S2 PB ?_ _ (zip_srcG (by simp) (by simp) fun j kd' a' e => ?_)
  · rw [List.length_map]
    exact Nat.le_trans (zipN_le List.mem_cons_self) (by rw [List.length_reverse, rds.len]; exact l1)
  · match j, e with
    | 0, e =>
      simp at e
      obtain ⟨rfl, rfl⟩ := e
      refine ⟨xs.reverse, rfl, fun B' φ' h' H' hB x => ?_⟩
      obtain ⟨s, rd3⟩ := back1 B' φ' h' H' (fun a z => (hB a z).elim .inl fun q => .inr (X2.dom a q)) (X2.trans x)
      exact ⟨vs.reverse, sq_back (fw_of hd) s, rd3.rev⟩
    | 1, e =>
      simp at e
      obtain ⟨rfl, rfl⟩ := e
      refine ⟨ys.reverse, rfl, fun B' φ' h' H' hB x => ?_⟩
      obtain ⟨s, rd3⟩ := src_seq hd2 rds2 B' φ' h' H' hB x
      exact ⟨us.reverse, sq_back (fw_of hd2) s, rd3.rev⟩
    | j + 2, e => simp at e
end
end MF

set_option Elab.async false
set_option linter.all false
set_option maxRecDepth 100000
set_option maxHeartbeats 8000000
/-! a list comprehension -/
namespace MF
open PySem PySem.Spec PyProof.Rows L2 MZ
variable [LTab]

section
variable {ci : CI} {cs : List D} {cf : CF} {ca : Nat → Addr} {k : Nat} {X : Cx} {Wx : WX}
def compF (cs : List D) (cf : CF) (elt : E) (tg : Tg) (own : List Nat) (c : Eo) (env : Ev) : D → Hs → Res (Option D) := fun x h => (Res.opt (asgT tg x (wipeW env own)) h).bind fun e1 h => match c with
        | .no => (ev cs cf elt e1 h).bind fun w h => (Res.opt (w.frz h) h).bind fun p _ => .ok (some p.1) p.2
        | .so c => (ev cs cf c e1 h).bind fun b h => (Res.opt (truW b h) h).bind fun r h =>
            if r = true then (ev cs cf elt e1 h).bind fun w h => (Res.opt (w.frz h) h).bind fun p _ => .ok (some p.1) p.2 else .ok none h
theorem ev_comp {elt : E} {tg : Tg} {own : List Nat} {it : I} {c : Eo} {env : Ev} {h : Hs} : ev cs cf (.comp elt tg own it c) env h = (evI cs cf it env h).bind fun xs h1 => ((compL (compF cs cf elt tg own c env) xs h1).nox).bind fun ys h2 => .ok (.t (.list ys)) h2 := by
  rw [ev]; rfl
abbrev Elt (cs : List D) (cf : CF) (elt : E) (e1 : Ev) (h h' : Hs) (o : Option D) : Prop := ∃ w h2 p, ev cs cf elt e1 h = .ok w h2 ∧ w.frz h2 = some (p, h') ∧ o = some p
theorem elt_ok {elt : E} {e1 : Ev} {h h' : Hs} {o : Option D} (e : ((ev cs cf elt e1 h).bind fun w h => (Res.opt (w.frz h) h).bind fun p _ => Res.ok (some p.1) p.2) = .ok o h') : Elt cs cf elt e1 h h' o := by
  obtain ⟨w, h2, q1, q2⟩ := bind_ok e
  obtain ⟨p, h3, q3, q4⟩ := bind_ok q2
  obtain ⟨q5, q6⟩ := opt_ok q3
  obtain ⟨p1, p2⟩ := p
  cases q4
  exact ⟨w, h2, p1, q1, q5, rfl⟩
theorem compF_ok {elt : E} {tg : Tg} {own : List Nat} {c : Eo} {env : Ev} {x : D} {h h' : Hs} {o : Option D} (e : compF cs cf elt tg own c env x h = .ok o h') : ∃ e1, asgT tg x (wipeW env own) = some e1 ∧ match c with
    | .no => Elt cs cf elt e1 h h' o
    | .so c => ∃ b h1 r, ev cs cf c e1 h = .ok b h1 ∧ truW b h1 = some r ∧ if r = true then Elt cs cf elt e1 h1 h' o else o = none ∧ h' = h1 := by
  unfold compF at e
  obtain ⟨e1, h1, q1, q2⟩ := bind_ok e
  obtain ⟨q3, rfl⟩ := opt_ok q1
  refine ⟨e1, q3, ?_⟩
  cases c with
  | no => exact elt_ok q2
  | so c =>
    obtain ⟨b, h2, q4, q5⟩ := bind_ok q2
    obtain ⟨r, h3, q6, q7⟩ := bind_ok q5
    obtain ⟨q8, rfl⟩ := opt_ok q6
    refine ⟨b, h3, r, q4, q8, ?_⟩
    cases r with
    | true =>
      rw [if_pos rfl] at q7 ⊢
      exact elt_ok q7
    | false =>
      rw [if_neg Bool.false_ne_true] at q7 ⊢
      cases q7
      exact ⟨rfl, rfl⟩
theorem compL_cons {f : D → Hs → Res (Option D)} {x : D} {xs : List D} {h h' : Hs} {zs : List D} (e : compL f (x :: xs) h = .ok zs h') : ∃ o h1 ys, f x h = .ok o h1 ∧ compL f xs h1 = .ok ys h' ∧ zs = (match o with | some y => y :: ys | none => ys) := by
  unfold compL at e
  obtain ⟨o, h1, q1, q2⟩ := bind_ok e
  obtain ⟨ys, h2, q3, q4⟩ := bind_ok q2
  cases q4
  exact ⟨o, h1, ys, q1, q3, rfl⟩
theorem wipe_two {σ : L2.St} : ∀ vs : List Nat, L2.wipe (L2.wipe σ vs) vs = L2.wipe σ vs := by
  intro vs
  apply List.ext_getElem?
  intro j
  have len : ∀ (σ : L2.St) (vs : List Nat), (L2.wipe σ vs).length = σ.length := wipe_length
  have get : ∀ (σ : L2.St) (vs : List Nat) (j : Nat), (L2.wipe σ vs)[j]? = if j ∈ vs ∧ j < σ.length then some none else σ[j]? := by
    intro σ vs
    induction vs with
    | nil => intro j; rw [if_neg (by simp)]; rfl
    | cons v vs ih =>
      intro j
      unfold L2.wipe
      by_cases hv : v = j
      · subst hv
        by_cases hl : v < σ.length
        · rw [List.getElem?_set_self (by rw [len]; exact hl), if_pos ⟨List.mem_cons_self, hl⟩]
        · rw [List.getElem?_eq_none (by rw [List.length_set, len]; omega), if_neg (fun z => hl z.2), List.getElem?_eq_none (by omega)]
      · rw [List.getElem?_set_ne hv, ih]
        have : (j ∈ v :: vs) ↔ j ∈ vs := by
          rw [List.mem_cons]
          exact ⟨fun z => z.resolve_left fun q => hv q.symm, .inr⟩
        simp only [this]
  rw [get (L2.wipe σ vs), get σ]
  by_cases h : j ∈ vs ∧ j < σ.length
  · rw [if_pos ⟨h.1, by rw [len]; exact h.2⟩, if_pos h]
  · rw [if_neg h, if_neg (by rw [len]; exact h)]
abbrev bot : WX := fun _ _ _ _ => False
def tCo (K : PySem.W.Frag) (cs : List D) (cf : CF) (ca : Nat → Addr) : Eo → TT
  | .no => tYes
  | .so e => tT K cs cf ca bot e
theorem locB_rel {scope sc : Scope} {x : Str} {fn : Str → Bool} (hfn : ∀ x, fn x = (scope.names.lookup x == some .cell)) (h : locB scope x = true) : Loc (relS scope sc) x ∧ (fn x = true ∨ (relS scope sc).names.lookup x = some .local) := by
  unfold locB at h
  split at h
  · rename_i e
    have q := lookup_relS_keep (sc := sc) (by decide) e
    exact ⟨.inl q, .inr q⟩
  · rename_i e
    have q := lookup_relS_keep (sc := sc) (by decide) e
    exact ⟨.inr q, .inl (by rw [hfn, e]; rfl)⟩
  · cases h
theorem Kp.extB {K : PySem.W.Frag} {B : Addr → Prop} {φ φ' : List Addr} {h h' : Hs} {H H' : Hp} {p : Addr} (x : Ext φ h H φ' h' H') (hp : H p = none) : Kp K (Mu B φ h) (Mu (Bp B p) φ' h') H H' := by
  have k0 : Kp K (Mu B φ h) (Mu B φ' h') H H' := x.kp
  refine ⟨k0.tu, fun a ws m e => ⟨fun z => ?_, (k0.ls a ws m e).2⟩, fun a kv m e => ⟨fun z => ?_, (k0.di a kv m e).2⟩⟩
  · rcases Mu.bp.mp z with q | q
    · exact (k0.ls a ws m e).1 q
    · rw [q, hp] at e; cases e
  · rcases Mu.bp.mp z with q | q
    · exact (k0.di a kv m e).1 q
    · rw [q] at e; exact rd_some e hp
theorem RW.extB {K : PySem.W.Frag} {B : Addr → Prop} {φ φ' : List Addr} {h h' : Hs} {H H' : Hp} {p : Addr} (x : Ext φ h H φ' h' H') (hp : H p = none) {w : MF.W} {v : V} (r : RW K φ (Mu B φ h) H w v) : RW K φ' (Mu (Bp B p) φ' h') H' w v := by
  have kp := Kp.extB (K := K) (B := B) x hp
  induction r with
  | t r => exact .t (r.kp kp)
  | ref e => exact .ref (x.phi e)
  | pr s _ _ ih1 ih2 => exact .pr (kp.tu _ _ s) ih1 ih2
  | @scr ns a s =>
    rcases s with ⟨m0, s⟩ | s
    · have z := RW.ext (K := K) (B := B) x (.scr (.inl ⟨m0, s⟩))
      cases z with
      | scr z =>
        rcases z with ⟨m, z⟩ | z
        · refine .scr (.inl ⟨fun q => ?_, z⟩)
          rcases Mu.bp.mp q with q | q
          · exact m q
          · rw [q] at s; exact rd_some s hp
        · exact .scr (.inr z)
    · exact .scr (.inr s)
theorem RE.extB {K : PySem.W.Frag} {B : Addr → Prop} {φ φ' : List Addr} {h h' : Hs} {H H' : Hp} {p : Addr} {env : Ev} {σ : L2.St} (x : Ext φ h H φ' h' H') (hp : H p = none) (r : RE K φ (Mu B φ h) H env σ) : RE K φ' (Mu (Bp B p) φ' h') H' env σ :=
  ⟨r.1, fun i w e => let ⟨v, h1, h2⟩ := r.2 i w e; ⟨v, h1, h2.extB x hp⟩⟩
theorem comp_then {elt : E} {tg : Tg} {own : List Nat} {it : I} {c : Eo} {σ : L2.St} {H : Hp} {Q : VK} {B : Addr → Prop} {φ : List Addr} {env : Ev} {h : Hs} (htg : tgIn own tg = true) (S : RS X.K B φ h H) (R : RE X.K φ (Mu B φ h) H env σ)
    (P : Pg X.K B φ h H (Ex ca Wx σ) (ev cs cf (.comp elt tg own it c) env h) (FP X.K B H Q)) : tLc (TIx cs cf ca X Wx it) (gT X.K tg) (tCo X.K cs cf ca c) (tE X.K cs cf ca bot elt) own σ H Q := by
  rw [ev_comp] at P
  refine ⟨B, φ, env, h, S, R, Pg.monoE (Pg.bind P) (fun _ _ e => e) fun φ1 h1 H1 xs eqI X1 S1 P1 hz J src q hD => ?_⟩
  cases eq : compL (compF cs cf elt tg own c env) xs h1 with
  | bad => rw [eq] at P1; exact P1.elim
  | exc cc d h2 => rw [eq] at P1; exact P1.elim
  | ok all hz2 =>
    rw [eq] at P1
    have P1 : Pg X.K B φ1 h1 H1 (Ex ca Wx σ) (.ok (.t (.list all)) hz2) (FP X.K B H Q) := P1
    have R1 := R.ext X1
    let W : Nat → Nat → Hp → Prop := fun i m Hc => m = xs.length - i ∧ i ≤ xs.length ∧ ∃ (φ' : List Addr) (h' : Hs) (ys : List D) (vs : List V) (zs : List D), Ext φ1 h1 H1 φ' h' Hc ∧ RS X.K (Bp B q) φ' h' Hc ∧ Hc q = some (.lst vs) ∧
      RDs X.K (Mu (Bp B q) φ' h') Hc ys vs ∧ vs.length ≤ i ∧ compL (compF cs cf elt tg own c env) (xs.drop i) h' = .ok zs hz2 ∧ all = ys ++ zs
    refine ⟨W, ⟨xs.length, by simp, Nat.zero_le _, φ1, h1, [], [], all, Ext.fresh hD, S1.busy hD, upd_same, .nil, Nat.zero_le _, by rw [List.drop_zero]; exact eq, rfl⟩, ?_⟩
    rintro i m Hc ⟨hm, hi, φ', h', ys, vs, zs, X2, S2, eD, rd, hv, ez, ea⟩
    have hB : ∀ a, Bp B q a → B a ∨ H1 a = none := fun a z => z.imp id fun z => by rw [z]; exact hD
    have sr := src (Bp B q) φ' h' Hc hB X2 S2 i
    by_cases hlt : i < xs.length
    · obtain ⟨go, yl⟩ := sr.1 hlt
      refine .inr ⟨go, W (i + 1) (xs.length - (i + 1)), fun H' w => ⟨_, by omega, w⟩, fun x H2 hy => ?_⟩
      obtain ⟨d, hd, hH, rdx⟩ := yl x H2 hy
      -- the heap behind the draw
      obtain ⟨X3, S3, eD3⟩ : Ext φ' h' Hc φ' h' H2 ∧ RS X.K (Bp B q) φ' h' H2 ∧ H2 q = some (.lst vs) := by
        rcases hH with rfl | ⟨p, o, hp, rfl⟩ | ⟨p, q', o, u, hp, hq, nq, rfl⟩
        · exact ⟨Ext.refl, S2, eD⟩
        · exact ⟨Ext.fresh hp, S2.fresh hp, by rw [upd_ne (ne_of_none eD hp)]; exact eD⟩
        · have hq2 : upd Hc p o q' = none := by rw [upd_ne nq]; exact hq
          exact ⟨(Ext.fresh hp).trans (Ext.fresh hq2), (S2.fresh hp).fresh hq2, by rw [upd_ne (ne_of_none eD hq), upd_ne (ne_of_none eD hp)]; exact eD⟩
      have hdrop : xs.drop i = d :: xs.drop (i + 1) := by
        obtain ⟨hi', e⟩ := List.getElem?_eq_some_iff.mp hd
        rw [List.drop_eq_getElem_cons hi', e]
      rw [hdrop] at ez
      obtain ⟨o, h2, zs', q1, q2, q3⟩ := compL_cons ez
      obtain ⟨e1, a1, q4⟩ := compF_ok q1
      have X13 : Ext φ1 h1 H1 φ' h' H2 := X2.trans X3
      have R2 : RE X.K φ' (Mu (Bp B q) φ' h') H2 (wipeW env own) (L2.wipe σ own) := (R1.extB X13 hD).wipe own
      have rd3 : RDs X.K (Mu (Bp B q) φ' h') H2 ys vs := rd.kp X3.kp
      refine ⟨Bp B q, φ', wipeW env own, e1, h', d, S3, R2, rdx, a1, fun σ2 R3 hw => ⟨by rw [hw own htg, wipe_two], ?_⟩⟩
      -- what an element does
      have elts : ∀ {φ3 : List Addr} {h3 : Hs} {H3 : Hp}, Ext φ' h' H2 φ3 h3 H3 → RS X.K (Bp B q) φ3 h3 H3 → Elt cs cf elt e1 h3 h2 o → tE X.K cs cf ca bot elt σ2 H3 (fun y H4 => ∃ acc, H4 q = some (.lst acc) ∧ acc.length < sizeLine ∧ W (i + 1) (xs.length - (i + 1)) (upd H4 q (.lst (acc ++ [y])))) := by
        intro φ3 h3 H3 X4 S4 ⟨w, h4, p, g1, g2, g3⟩
        refine ⟨Bp B q, φ3, e1, h3, S4, R3.ext X4, ?_⟩
        rw [g1]
        intro φ5 H5 X5 S5 v rv
        obtain ⟨S6, X6, rp⟩ := frz_ok S5 rv g2
        have X25 : Ext φ' h' H2 φ5 h2 H5 := X4.trans (X5.trans X6)
        have eD5 : H5 q = some (.lst vs) := X25.keepL q vs eD3 (S3.nb q (.inr rfl))
        refine ⟨vs, eD5, by omega, rfl, by omega, φ5, h2, ys ++ [p], vs ++ [v], zs', (X13.trans X25).wr hD, S6.wr (.inr rfl) eD5, upd_same, ?_, by rw [List.length_append]; simp; exact hv, q2, ?_⟩
        · exact ((rd3.kp X25.kp).app (.cons rp .nil)).kp (kp_wr (.inl (.inr rfl)) eD5)
        · rw [ea, q3, g3]; simp
      cases c with
      | no => exact elts Ext.refl S3 q4
      | so c =>
        obtain ⟨b, h3, r, g1, g2, g3⟩ := q4
        refine ⟨Bp B q, φ', e1, h', S3, R3, ?_⟩
        rw [g1]
        simp only [Res.ok_bind, g2]
        intro φ3 H3 X4 S4
        show if r = true then _ else _
        cases r with
        | true =>
          rw [if_pos rfl] at g3 ⊢
          exact elts X4 S4 g3
        | false =>
          rw [if_neg Bool.false_ne_true] at g3 ⊢
          obtain ⟨g4, g5⟩ := g3
          subst g5
          refine ⟨rfl, by omega, φ3, h2, ys, vs, zs', X13.trans X4, S4, X4.keepL q vs eD3 (S3.nb q (.inr rfl)), rd3.kp X4.kp, by omega, q2, ?_⟩
          rw [ea, q3, g4]
    · have hi2 : i = xs.length := by omega
      refine .inl ⟨sr.2 hi2, ?_⟩
      rw [hi2, List.drop_length] at ez
      unfold compL at ez
      cases ez
      rw [List.append_nil] at ea
      subst ea
      obtain ⟨d, ed, C⟩ := P1 φ' Hc X2 S2.unbusy
      cases ed
      exact C q (X1.dom q hD) S2 vs eD rd
theorem g_comp (G : Gd ci cs cf ca k X Wx) {elt : E} {tg : Tg} {own : List Nat} {it : I} {c : Eo} {x t i : Expr} {ifs : List Expr} {scope : Scope} {p : Pos}
    (hblk : blkC X.N X.env.scope scope (own.filterMap fun k => (X.N[k]?).map fun n => (n, k)) = true) (hown : (own.filterMap fun k => (X.N[k]?).map fun n => (n, k)).map (·.2) = own) (htg : tgIn own tg = true) (hT : chkT (locB scope) X.N tg t = true)
    (hset : ∀ x, foldedSetIterable i X.env x = pure x) (hi : PI X t i (TIx cs cf ca X Wx it))
    (hx : ∀ (s : Shared) (H : Hp) (C : Addr) (cl : List (Str × Addr)) (fp : List Addr), PE (X.blk s H scope (compEnvC scope cl C X.env) fp) x (tE X.K cs cf ca bot elt))
    (hc : ∀ (s : Shared) (H : Hp) (C : Addr) (cl : List (Str × Addr)) (fp : List Addr), PTs (X.blk s H scope (compEnvC scope cl C X.env) fp) ifs (tCo X.K cs cf ca c)) :
    PE X (.ListComp x [⟨t, i, ifs, 0⟩] scope p) (TFx cs cf ca X Wx (.comp elt tg own it c)) := by
  refine pe_of (pe_lc (g := gT X.K tg) G.calm G.nd hi (blkOk_by hblk) (fun s H C cl fp => ok_T (X := X.blk s H scope (compEnvC scope cl C X.env) fp) G.nd G.calm (fun x h => locB_rel (fun _ => rfl) h) tg t hT) hc hx hset) fun σ H Q ⟨B, φ, env, h, S, R, P⟩ => ?_
  rw [hown]
  exact comp_then htg S R P
end
end MF

set_option Elab.async false
set_option linter.all false
set_option maxRecDepth 100000
set_option maxHeartbeats 8000000
/-! dicts: a display of one pair, get with a default, the values, the pairs -/
namespace MF
open PySem PySem.Spec PyProof.Rows L2 MZ
variable [LTab]

section
variable {K : PySem.W.Frag} {M : Addr → Prop} {H : Hp}
theorem RDk.vals : ∀ {ds : List (D × D)} {kv : List (Key × V)}, RDk K M H ds kv → RDs K M H (ds.map (·.2)) (kv.map (·.2))
  | _, _, .nil => .nil
  | _, _, .cons _ r s => .cons r (RDk.vals s)
theorem RDk.getV : ∀ {ds : List (D × D)} {kv : List (Key × V)} {i : Nat} {k : Key} {v : V}, RDk K M H ds kv → kv[i]? = some (k, v) → ∃ d, ds[i]? = some (keyD k, d) ∧ RD K M H d v
  | _, _, _, _, _, .nil, e => by simp at e
  | _, _, 0, _, _, .cons (d := d) ek r _, e => by
    simp at e
    obtain ⟨rfl, rfl⟩ := e
    exact ⟨d, by simp [ek], r⟩
  | _, _, i + 1, k, v, .cons _ _ s, e => by
    obtain ⟨d, h1, h2⟩ := RDk.getV (i := i) (k := k) (v := v) s (by simpa using e)
    exact ⟨d, by simpa using h1, h2⟩
theorem rd_key (k : Key) : RD K M H (keyD k) (kV k) := by
  cases k with
  | inl i => exact .int i
  | inr x => exact .str x
end
/-- a dict that does not change any more is locked -/
theorem RS.lock {K : PySem.W.Frag} {B : Addr → Prop} {φ : List Addr} {h : Hs} {H : Hp} {a : Addr} {kv : List (Key × V)} {o : Obj} (S : RS K B φ h H) (nm : ¬ Mu B φ h a) (ha : H a = some (.dK kv)) :
    RS K B φ h (upd H a (.frz o (.dK kv))) ∧ Ext φ h H φ h (upd H a (.frz o (.dK kv))) := by
  have cell : ∀ b, H b ≠ none → upd H a (.frz o (.dK kv)) b ≠ none := fun b n z => by
    by_cases hb : b = a
    · rw [hb, upd_same] at z; cases z
    · rw [upd_ne hb] at z; exact n z
  have x : Ext φ h H φ h (upd H a (.frz o (.dK kv))) := by
    refine ⟨⟨[], by simp⟩, fun b w q h1 h2 h3 h4 => ?_, fun b xs q n => ?_, fun b l q n => ?_, fun b w l q => ?_, fun b z => .inl z, fun b z => ?_⟩
    · rw [upd_ne fun z => by rw [z, ha] at q; cases q; exact h2 _ rfl]; exact q
    · rw [upd_ne fun z => by rw [z, ha] at q; cases q]; exact q
    · by_cases hb : b = a
      · subst hb
        rcases q with q | ⟨w, q⟩
        · rw [ha] at q; cases q
          exact .inr ⟨o, upd_same⟩
        · rw [ha] at q; cases q
      · rcases q with q | ⟨w, q⟩
        · exact .inl (by rw [upd_ne hb]; exact q)
        · exact .inr ⟨w, by rw [upd_ne hb]; exact q⟩
    · rw [upd_ne fun z => by rw [z, ha] at q; cases q]; exact q
    · cases q : H b with
      | none => rfl
      | some w => exact absurd z (cell b (by rw [q]; exact fun z => nomatch z))
  refine ⟨⟨tabs_upd S.tb (.inr (.inr ⟨_, ha⟩)), S.len, S.inj, S.nb, fun b hb => cell b (S.hb b hb), fun j w b e1 e2 => ?_⟩, x⟩
  by_cases hw : w = .dead
  · subst hw; trivial
  · exact (S.ob j w b e1 e2).kp x.kp (upd_ne fun z => nm (.inr ⟨j, w, e1, hw, by rw [← z]; exact e2⟩))
section
variable {ci : CI} {cs : List D} {cf : CF} {ca : Nat → Addr} {k : Nat} {X : Cx} {Wx : WX}
theorem f_dsp {i : Nat} {c : Int} {x : Str} {p1 p2 p : Pos} {j : Nat} (hN : X.N[i]? = some x) (hv : visB X.env.scope x = true) (hk : okNm x = true) : PE X (.Dict [some (.Name x p1)] [.Constant (.int c) j p2] p) (TEx cs cf ca X Wx (.dsp i c)) := by
  obtain ⟨h1, h2, h3⟩ := okNm_nm hk
  refine pe_of (pe_disp (pps_cons (pe_var hN (visB_vis hv) h1 h2) pe_int pps_nil) rfl rfl (by simp) (by simp)) fun σ H Q ⟨B, φ, env, h, S, R, P⟩ => fun q hq => ?_
  simp only [ev] at P
  cases e : env[i]? with
  | none => rw [e] at P; exact P.elim
  | some ow =>
    cases ow with
    | none => rw [e] at P; exact P.elim
    | some w =>
      rw [e] at P
      obtain ⟨v, g1, g2⟩ := R.2 i w e
      cases w with
      | ref _ => exact P.elim
      | pr _ _ => exact P.elim
      | scr _ => exact P.elim
      | t d =>
        cases d <;> first | exact P.elim | skip
        rename_i n
        cases g2 with
        | t g2 =>
          cases g2
          refine ⟨_, g1, upd_same, [(.inl n, .int c)], rfl, by simp, ?_⟩
          rw [L2.upd_upd]
          have X3 : Ext φ h H φ h (upd H q (.dK (mergeK [] [(.inl n, .int c)]))) := Ext.fresh hq
          have nm : ¬ Mu B φ h q := fun z => by
            rcases z with z | z
            · exact S.hb q z hq
            · exact (S.busy (o := .dK []) hq).nb q (.inr rfl) z
          exact Pg.okv (S.fresh hq) (Pg.rebase X3 P) _ (.t (.dct nm (Rd.of upd_same) (.cons rfl (.int c) .nil)))
theorem base_nm {x : Str} {p : Pos} {f : Str} {env : Env} : attributeBase (.Name x p) f env (eval (.Name x p) env) = eval (.Name x p) env := rfl
theorem f_vls (G : Gd ci cs cf ca k X Wx) {i : Nat} {x f m : Str} {p1 p2 ap cp p : Pos} (hf : f = ("list" : Str)) (hm : m = ("values" : Str)) (hg : glB X.env.scope f = true) (hN : X.N[i]? = some x) (hv : visB X.env.scope x = true) (hk : okNm x = true) (hl : (ap.endLine == cp.line) = true) :
    PE X (.Call (.Name f p1) [.Call (.Attribute (.Name x p2) m ap) [] [] cp] [] p) (TEx cs cf ca X Wx (.vls (.var i))) := by
  subst hf hm
  refine pe_of (pe_lvals G.calm (glB_gl hg) (G.blt _ (by decide)) (f_var (cs := cs) (cf := cf) (ca := ca) (Wx := Wx) hN hv hk) base_nm hl) fun σ H Q ⟨B, φ, env, h, S, R, P⟩ => ?_
  rw [ev] at P
  refine e_then S R P fun φ1 h1 H1 w v X1 S1 R1 rv P1 => ?_
  obtain ⟨y, e, P2⟩ := Pg.optc P1
  obtain ⟨d, hd, e⟩ := Option.bind_eq_some_iff.mp e
  obtain ⟨l, hl, e⟩ := Option.map_eq_some_iff.mp e
  subst e
  cases d <;> simp only [valsD] at hl <;> try (cases hl; done)
  cases hl
  obtain ⟨a, kv, rfl, g1, g2⟩ := peek_ok S1 rv hd
  exact ⟨a, kv, rfl, g1, fun q hq => (Yd.of P2).lst S1 g2.vals q hq⟩
theorem f_mnv (G : Gd ci cs cf ca k X Wx) {i : Nat} {x f m : Str} {p1 p2 ap cp p : Pos} (hf : f = ("min" : Str)) (hm : m = ("values" : Str)) (hg : glB X.env.scope f = true) (hN : X.N[i]? = some x) (hv : visB X.env.scope x = true) (hk : okNm x = true) (hl : (ap.endLine == cp.line) = true) :
    PE X (.Call (.Name f p1) [.Call (.Attribute (.Name x p2) m ap) [] [] cp] [] p) (TEx cs cf ca X Wx (.mnv (.var i))) := by
  subst hf hm
  refine pe_of (pe_minV G.calm (glB_gl hg) (G.blt _ (by decide)) (f_var (cs := cs) (cf := cf) (ca := ca) (Wx := Wx) hN hv hk) base_nm hl) fun σ H Q ⟨B, φ, env, h, S, R, P⟩ => ?_
  rw [ev] at P
  refine e_then S R P fun φ1 h1 H1 w v X1 S1 R1 rv P1 => ?_
  obtain ⟨y, e, P2⟩ := Pg.optc P1
  obtain ⟨d, hd, e⟩ := Option.bind_eq_some_iff.mp e
  obtain ⟨l, hl, e⟩ := Option.bind_eq_some_iff.mp e
  obtain ⟨ns, hn, e⟩ := Option.bind_eq_some_iff.mp e
  obtain ⟨mn, hmn, e⟩ := Option.map_eq_some_iff.mp e
  subst e
  cases d <;> simp only [valsD] at hl <;> try (cases hl; done)
  cases hl
  obtain ⟨a, kv, rfl, g1, g2⟩ := peek_ok S1 rv hd
  have gv := g2.vals
  rw [intsD_eq hn] at gv
  have ev := gv.ints
  cases ns with
  | nil => cases hmn
  | cons n r =>
    cases hmn
    exact ⟨a, kv, rfl, g1, n, r, ev, (Yd.of P2).same S1 (.int _)⟩
def get2W (w wy wz : MF.W) (h : Hs) : Res MF.W := match wz with
  | .t dz => (match w.peek h, wy with
    | some (.dict kvs), .t d => Res.opt ((keyOf d).bind fun k => (kvsOf kvs).map fun l => .t ((getK l k).getD dz)) h
    | _, _ => .bad)
  | _ => .bad
theorem mtW_get2 {w wy wz : MF.W} {h : Hs} : mtW .get2 w [wy, wz] h = get2W w wy wz h := by
  unfold mtW get2W
  cases wz <;> first | rfl | (cases w <;> rfl)
theorem f_get2 (G : Gd ci cs cf ca k X Wx) {o a b : E} {x f : Str} {z u : Expr} {p2 ap cp : Pos} (hf : f = ("get" : Str)) (hz : Plain z) (hu : Plain u) (ho : PE X (.Name x p2) (TEx cs cf ca X Wx o)) (ha : PE X z (TEx cs cf ca X Wx a)) (hb : PE X u (TEx cs cf ca X Wx b)) (hl : (ap.endLine == cp.line) = true) :
    PE X (.Call (.Attribute (.Name x p2) f ap) [z, u] [] cp) (TEx cs cf ca X Wx (.mt .get2 o (.cons a (.cons b .nil)))) := by
  subst hf
  have s2 : starEach [u] X.env = [(false, eval u X.env)] := star_one hu
  have s1 : starEach [z, u] X.env = (false, eval z X.env) :: starEach [u] X.env := star_one hz
  have tr : backTo cp (starEach [z, u] X.env) = [(false, eval z X.env), (false, eval u X.env)] := by rw [s1, s2]; rfl
  refine pe_of (pe_dget2 (Nat.lt_trans (Nat.add_lt_add_left (show 1 < 150 by decide) _) G.un) ho ha hb ⟨base_nm, by rw [tr]; rfl, hl, tr⟩) fun σ H Q ⟨B, φ, env, h, S, R, P⟩ => ?_
  simp only [ev, evs, bind_assoc, Res.ok_bind] at P
  refine e_then S R P fun φ1 h1 H1 w v X1 S1 R1 rv P1 => ?_
  obtain ⟨_, et, P1⟩ := Pg.optBind P1
  obtain ⟨kvs, hp⟩ : ∃ kvs, w.peek h1 = some (.dict kvs) := by
    have e0 : mtT .get2 w h1 = match w.peek h1 with
      | some (.dict _) => some ()
      | _ => none := by cases w <;> rfl
    rw [e0] at et
    split at et
    · exact ⟨_, by assumption⟩
    · cases et
  obtain ⟨q, kv, rfl, g1, g2⟩ := peek_ok S1 rv hp
  refine ⟨q, rfl, .inl ⟨kv, g1⟩, ?_⟩
  refine e_then S1 R1 P1 fun φ2 h2 H2 wy y X2 S2 R2 ry P2 => ?_
  refine e_then S2 R2 P2 fun φ3 h3 H3 wz zz X3 S3 R3 rz P3 => ?_
  have rv3 := rv.ext (X2.trans X3)
  have ry3 := ry.ext X3
  rw [mtW_get2] at P3
  unfold get2W at P3
  cases wz <;> first | exact P3.elim | skip
  rename_i dz
  cases hp3 : w.peek h3 with
  | none => rw [hp3] at P3; exact P3.elim
  | some d3 =>
    rw [hp3] at P3
    cases d3 <;> first | exact P3.elim | skip
    rename_i kvs3
    cases wy <;> first | exact P3.elim | skip
    rename_i dy
    obtain ⟨w2, e, P4⟩ := Pg.optc P3
    obtain ⟨kk, hkk, e⟩ := Option.bind_eq_some_iff.mp e
    obtain ⟨l, hll, e⟩ := Option.map_eq_some_iff.mp e
    subst e
    obtain ⟨q', kv', eq, g1', g2'⟩ := peek_ok S3 rv3 hp3
    cases eq
    cases ry3 with
    | t ry3 =>
      obtain rfl := keyOf_v ry3.rp hkk
      refine ⟨valV kv' kk, .inl ⟨kv', kk, g1', rfl, rfl⟩, ?_⟩
      rcases getK_v kk g2' hll with ⟨d, v, e1, e2, r⟩ | ⟨e1, e2⟩
      · rw [e2]
        rw [e1] at P4
        exact Pg.okv S3 P4 v (.t r)
      · rw [e2]
        rw [e1] at P4
        exact Pg.okv S3 P4 zz rz
/-- from the walk's begin to a later state -/
theorem kp_src {K : PySem.W.Frag} {B B' : Addr → Prop} {φ φ' : List Addr} {h h' : Hs} {H H' : Hp} (hB : ∀ a, B' a → B a ∨ H a = none) (x : Ext φ h H φ' h' H') : Kp K (Mu B φ h) (Mu B' φ' h') H H' := by
  have k0 : Kp K (Mu B φ h) (Mu B φ' h') H H' := x.kp
  have fr : ∀ a, Mu B' φ' h' a → Mu B φ h a ∨ H a = none := fun a z => by
    rcases z with z | z
    · rcases hB a z with q | q
      · exact .inl (.inl q)
      · exact .inr q
    · rcases x.new a z with q | q
      · exact .inl (.inr q)
      · exact .inr q
  refine ⟨k0.tu, fun a ws m e => ⟨fun z => ?_, (k0.ls a ws m e).2⟩, fun a kv m e => ⟨fun z => ?_, (k0.di a kv m e).2⟩⟩
  · rcases fr a z with q | q
    · exact m q
    · rw [q] at e; cases e
  · rcases fr a z with q | q
    · exact m q
    · exact rd_some e q
theorem itm_src {K : PySem.W.Frag} {B : Addr → Prop} {φ : List Addr} {h : Hs} {H : Hp} {a : Addr} {o : Obj} {ds : List (D × D)} {kv : List (Key × V)} (ha : H a = some (.frz o (.dK kv))) (rd : RDk K (Mu B φ h) H ds kv) :
    Src K (Iti a o kv) (ds.map fun p => PyData.tuple [p.1, p.2]) B φ h H := by
  intro B' φ' h' H' hB x S' i
  have ln := rd.len
  have rd2 := rd.kp (kp_src hB x)
  rw [List.length_map]
  refine ⟨fun hi => ⟨⟨x.keepF _ _ _ ha, by omega⟩, fun x2 H2 ⟨T, kk, v, hkv, ex, hT, eH⟩ => ?_⟩, fun hi => ⟨x.keepF _ _ _ ha, by omega⟩⟩
  obtain ⟨d, e1, r⟩ := rd2.getV hkv
  subst ex eH
  have X2 : Ext φ' h' H' φ' h' (upd H' T (.tup [kV kk, v])) := Ext.fresh hT
  exact ⟨_, by rw [List.getElem?_map, e1]; rfl, .inr (.inl ⟨T, _, hT, rfl⟩), .tup (SqT.of upd_same) (.cons (rd_key kk) (.cons (r.kp X2.kp) .nil))⟩
theorem two_of {ws : List MF.W} {vs : List V} {ls : List (List D)} {φ : List Addr} {M : Addr → Prop} {H : Hp} (rvs : RWs X.K φ M H ws vs) (hn : ws.length = 2) (e : seqsW false ws = some ls) :
    ∃ (k1 : IK) (a1 : Addr) (k2 : IK) (a2 : Addr) (xs ys : List D) (us us2 : List V), vs = [V.ref a1, V.ref a2] ∧ ls = [xs, ys] ∧ ((k1 = .t ∧ SqT X.K H a1 us) ∨ (k1 = .l ∧ ¬ M a1 ∧ H a1 = some (.lst us))) ∧ ((k2 = .t ∧ SqT X.K H a2 us2) ∨ (k2 = .l ∧ ¬ M a2 ∧ H a2 = some (.lst us2))) ∧ RDs X.K M H xs us ∧ RDs X.K M H ys us2 := by
  obtain ⟨ks, l1, l2, ev, g⟩ := seqs_src rvs e
  rw [hn] at l1 l2
  match ks, l1 with
  | [(k1, a1), (k2, a2)], _ =>
    obtain ⟨xs, us, e1, hd, rd⟩ := g 0 k1 a1 rfl
    obtain ⟨ys, us2, e2, hd2, rd2⟩ := g 1 k2 a2 rfl
    match ls, l2 with
    | [x', y'], _ =>
      cases e1
      cases e2
      exact ⟨k1, a1, k2, a2, xs, ys, us, us2, ev, rfl, hd, hd2, rd, rd2⟩
theorem zip_two {xs ys : List D} : zipN [xs, ys] = List.zipWith (fun x y => [x, y]) xs ys := by
  simp only [zipN]
  induction xs generalizing ys with
  | nil => rfl
  | cons x xs ih =>
    cases ys with
    | nil => rfl
    | cons y ys => simp only [List.map_cons, List.zipWith_cons_cons, ih]
theorem f_lzp (G : Gd ci cs cf ca k X Wx) {es : Es} {f z : Str} {x y : Expr} {p p1 pos1 pos : Pos} (hf : f = ("list" : Str)) (hz : z = ("zip" : Str)) (gf : glB X.env.scope f = true) (gz : glB X.env.scope z = true) (hc : chkEs ci X.env.scope X.N es [x, y] = true) (ha : PA X [x, y] (TAx cs cf ca X Wx es)) :
    PE X (.Call (.Name f p) [.Call (.Name z p1) [x, y] [] pos1] [] pos) (TEx cs cf ca X Wx (.lzp es)) := by
  subst hf hz
  have hp := chkEs_plain hc
  refine pe_of (pe_listZip G.calm (glB_gl gf) (G.blt _ (by decide)) (glB_gl gz) (G.blt _ (by decide)) ha (star_one (hp x (by simp))) (back_plain fun c h => hp c (List.mem_cons_of_mem _ h))) fun σ H Q ⟨B, φ, env, h, S, R, P⟩ => ?_
  rw [ev] at P
  refine es_thenE S R (fun ws h' e => evs_len hc e) P fun φ1 h1 H1 ws vs X1 S1 R1 rvs hn P1 => ?_
  obtain ⟨ls, e, P2⟩ := Pg.optBind P1
  obtain ⟨k1, a1, k2, a2, xs, ys, us, us2, ev, rfl, hd, hd2, rd, rd2⟩ := two_of rvs hn e
  refine ⟨k1, a1, k2, a2, ev, fw_of hd, fw_of hd2, ⟨us, kd_sq hd⟩, ⟨us2, kd_sq hd2⟩, fun u1 u2 q1 q2 S0 H' vs' fS g eS lv pr => ?_⟩
  obtain rfl : us = u1 := q1 us (kd_sq hd)
  obtain rfl : us2 = u2 := q2 us2 (kd_sq hd2)
  have fr : FrE H1 H' := fun a o q => g.1 a o (fun z => by rw [z, fS] at q; cases q) q
  have X2 : Ext φ1 h1 H1 φ1 h1 H' := Ext.frE fr
  have S2 : RS X.K B φ1 h1 H' := S1.frE fr
  refine P2 φ1 H' X2 S2 _ (.t (.lst (fun m => ?_) eS ?_))
  · exact S1.notMu fS m
  · rw [zip_two]
    refine RDs.of_get (by rw [lv, List.length_map, List.length_zipWith, rd.len, rd2.len]) fun j d v e1 e2 => ?_
    obtain ⟨T, x', y', rfl, f1, f2, f3⟩ := pr j v e2
    obtain ⟨dx, g1, g2⟩ := rd.getV f1
    obtain ⟨dy, g3, g4⟩ := rd2.getV f2
    rw [List.getElem?_map, List.getElem?_zipWith, g1, g3] at e1
    cases e1
    exact .tup (SqT.of f3) (.cons (g2.kp X2.kp) (.cons (g4.kp X2.kp) .nil))
theorem ezp_src {K : PySem.W.Frag} {B : Addr → Prop} {φ : List Addr} {h : Hs} {H : Hp} {k1 k2 : IK} {a1 a2 : Addr} {xs ys : List D} {us us2 : List V} (hd : (k1 = .t ∧ SqT K H a1 us) ∨ (k1 = .l ∧ ¬ Mu B φ h a1 ∧ H a1 = some (.lst us))) (hd2 : (k2 = .t ∧ SqT K H a2 us2) ∨ (k2 = .l ∧ ¬ Mu B φ h a2 ∧ H a2 = some (.lst us2))) (rd : RDs K (Mu B φ h) H xs us) (rd2 : RDs K (Mu B φ h) H ys us2) :
    Src K (ItEZ K k1 a1 k2 a2) (enmD ((zipN [xs, ys]).map .tuple)) B φ h H := by
  intro B' φ' h' H' hB x S' i
  obtain ⟨s1, r1⟩ := src_seq hd rd B' φ' h' H' hB x
  obtain ⟨s2, r2⟩ := src_seq hd2 rd2 B' φ' h' H' hB x
  rw [enm_len, zip_two, List.length_map, List.length_zipWith, rd.len, rd2.len]
  refine ⟨fun hi => ?_, fun hi => ⟨us, us2, s1, s2, ?_⟩⟩
  · have i1 : i < us.length := by omega
    have i2 : i < us2.length := by omega
    refine ⟨⟨us, us2, us[i], us2[i], s1, s2, List.getElem?_eq_getElem i1, List.getElem?_eq_getElem i2⟩, fun v H2 ⟨T, U, x', y', ev, hT, hU, ne, eH, f1, f2⟩ => ?_⟩
    obtain ⟨dx, g1, g2⟩ := r1.getV (f1 us s1)
    obtain ⟨dy, g3, g4⟩ := r2.getV (f2 us2 s2)
    subst ev eH
    have hU2 : upd H' T (.tup [x', y']) U = none := by rw [upd_ne ne]; exact hU
    have X2 : Ext φ' h' H' φ' h' (upd H' T (.tup [x', y'])) := Ext.fresh hT
    have X3 : Ext φ' h' (upd H' T (.tup [x', y'])) φ' h' (upd (upd H' T (.tup [x', y'])) U (.tup [.int (i : Nat), .ref T])) := Ext.fresh hU2
    have kp := (X2.trans X3).kp (K := K) (B := B')
    refine ⟨_, enm_get (d := .tuple [dx, dy]) (by rw [List.getElem?_map, List.getElem?_zipWith, g1, g3]; rfl), .inr (.inr ⟨T, U, _, _, hT, hU, ne, rfl⟩), .tup (SqT.of upd_same) (.cons (.int _) (.cons (.tup (SqT.of ?_) (.cons (g2.kp kp) (.cons (g4.kp kp) .nil))) .nil))⟩
    rw [upd_ne ne.symm, upd_same]
  · omega
theorem i_ezp (G : Gd ci cs cf ca k X Wx) {es : Es} {f z : Str} {x y : Expr} {p p1 pos1 pos tpos : Pos} {elts : List Expr} {kk : Nat} (hf : f = ("enumerate" : Str)) (hz : z = ("zip" : Str)) (gf : glB X.env.scope f = true) (gz : glB X.env.scope z = true) (hc : chkEs ci X.env.scope X.N es [x, y] = true) (ha : PA X [x, y] (TAx cs cf ca X Wx es)) :
    PI X (.Tuple elts kk tpos) (.Call (.Name f p) [.Call (.Name z p1) [x, y] [] pos1] [] pos) (TIx cs cf ca X Wx (.ezp es)) := by
  subst hf hz
  have hp := chkEs_plain hc
  refine pi_of (pi_enumZ (glB_gl gf) (G.blt _ (by decide)) (glB_gl gz) (G.blt _ (by decide)) ha (star_one (hp x (by simp))) (back_plain fun c h => hp c (List.mem_cons_of_mem _ h))) fun σ H R ⟨B, φ, env, h, S, RR, P⟩ => ?_
  refine es_thenE S RR (fun ws h' e => evs_len hc e) P fun φ1 h1 H1 ws vs X1 S1 R1 rvs hn P1 => ?_
  obtain ⟨ls, e, P2⟩ := Pg.optBind P1
  obtain ⟨k1, a1, k2, a2, xs, ys, us, us2, ev, rfl, hd, hd2, rd, rd2⟩ := two_of rvs hn e
  refine ⟨k1, a1, k2, a2, ev, fw_of hd, fw_of hd2, ⟨us, kd_sq hd⟩, ⟨us2, kd_sq hd2⟩, fun hz => Pg.okv S1 P2 ?_ _ (ezp_src hd hd2 rd rd2)⟩
  rw [enm_len, zip_two, List.length_map, List.length_zipWith]
  exact Nat.le_trans (Nat.min_le_left _ _) (by rw [rd.len]; exact hz us (kd_sq hd))
theorem i_itm {e : E} {x f : Str} {p ap cp tpos : Pos} {elts : List Expr} {kk : Nat} (hf : f = ("items" : Str)) (ho : PE X (.Name x p) (TEx cs cf ca X Wx e)) (hl : (ap.endLine == cp.line) = true) :
    PI X (.Tuple elts kk tpos) (.Call (.Attribute (.Name x p) f ap) [] [] cp) (TIx cs cf ca X Wx (.itm e)) := by
  subst hf
  refine pi_of (pi_items (pe_lockD ho) base_nm hl) fun σ H R ⟨B, φ, env, h, S, RR, P⟩ => ?_
  refine e_then S RR P fun φ1 h1 H1 w v X1 S1 R1 rv P1 => ?_
  obtain ⟨d, h2, S2, X2, rd, P1⟩ := thaw_then S1 rv P1
  obtain ⟨xs, e, P2⟩ := Pg.optc P1
  cases rd <;> simp only [itmD] at e <;> try (cases e; done)
  rename_i a kv ds nm hrd rdk
  cases e
  refine ⟨a, kv, rfl, hrd, fun hz => ?_⟩
  have hz' : (ds.map fun p => PyData.tuple [p.1, p.2]).length ≤ sizeLine := by rw [List.length_map, rdk.len]; exact hz
  rcases hrd with ha | ⟨o, ha⟩
  · refine .inr ⟨ha, fun o => ?_⟩
    obtain ⟨S3, X3⟩ := S2.lock (o := o) nm ha
    exact ⟨a, o, kv, rfl, upd_same, P2 φ1 _ X3 S3 hz' _ (itm_src upd_same (rdk.kp X3.kp))⟩
  · exact .inl ⟨o, ha, a, o, kv, rfl, ha, P2 φ1 _ Ext.refl S2 hz' _ (itm_src ha rdk)⟩
end
end MF

set_option Elab.async false
set_option linter.all false
set_option maxRecDepth 100000
set_option maxHeartbeats 8000000
/-! every checked expression does what the evaluator says -/
namespace MF
open PySem PySem.Spec PyProof.Rows L2 MZ
variable [LTab]

section
variable {cs : List D} {cf : CF} {ca : Nat → Addr}
theorem Gd.blk {ci : CI} {k : Nat} {X : Cx} {Wx : WX} (G : Gd ci cs cf ca k X Wx) (s : Shared) (H : Hp) (scope : Scope) (C : Addr) (cl : List (Str × Addr)) (fp : List Addr) : Gd ci cs cf ca k (X.blk s H scope (compEnvC scope cl C X.env) fp) bot :=
  { calm := G.calm, un := G.un, gu := G.gu, md := G.md, nd := G.nd, room := G.room, xf := fun z => ⟨(G.xf z).md, (G.xf z).tab, (G.xf z).fn2⟩, tk := fun _ _ ⟨_, _, _, _, _, _, _, _, _, _, _, _, _, _, _, _, z⟩ => z, blt := G.blt, fns := G.fns, con := G.con }
theorem base_name {x : Str} {p : Pos} {f : Str} {env : Env} : attributeBase (.Name x p) f env (eval (.Name x p) env) = eval (.Name x p) env := rfl
/-- what an expression's form gives -/
structure Sd (ci : CI) (cs : List D) (cf : CF) (ca : Nat → Addr) (X : Cx) (Wx : WX) (e0 : E) (a0 : Expr) : Prop where
  e : PE X a0 (tE X.K cs cf ca Wx e0)
  f : freshE e0 = true → PE X a0 (tF X.K cs cf ca Wx e0)
  t : PT X a0 (tT X.K cs cf ca Wx e0)
  a : ∀ y r p, a0 = .BoolOp .And (y :: r) p → PW X a0 (tT X.K cs cf ca Wx e0)
  o : ∀ y r p, a0 = .BoolOp .Or (y :: r) p → PW X a0 (tT X.K cs cf ca Wx e0)
variable {X : Cx} {Wx : WX}
theorem sd_plain {e : E} {a : Expr} (ha : PE X a (tE X.K cs cf ca Wx e)) (hf : freshE e = true → PE X a (tF X.K cs cf ca Wx e)) (he : ∀ whole, isTrue a X.env whole = (do let v ← whole; standAt a.pos; holding [v] (truthy v))) (hb : ∀ o r p, a ≠ .BoolOp o r p) : Sd ci cs cf ca X Wx e a :=
  ⟨ha, hf, t_plain ha he, fun y r p z => (hb _ _ _ z).elim, fun y r p z => (hb _ _ _ z).elim⟩
theorem sd_fresh {e : E} {a : Expr} (hfr : freshE e = true) (hf : PE X a (tF X.K cs cf ca Wx e)) (he : ∀ whole, isTrue a X.env whole = (do let v ← whole; standAt a.pos; holding [v] (truthy v))) (hb : ∀ o r p, a ≠ .BoolOp o r p) : Sd ci cs cf ca X Wx e a :=
  sd_plain (f_of_g hfr hf) (fun _ => hf) he hb
theorem no {P : Prop} (h : false = true) : P := by cases h
mutual
theorem ok_E : ∀ {ci : CI} {k : Nat} (e : E) (a : Expr) (X : Cx) (Wx : WX), Gd ci cs cf ca k X Wx → chkE ci X.env.scope X.N e a = true → Sd ci cs cf ca X Wx e a
  | ci, k, .var i, a, X, Wx, G, h => by
    rw [chkE] at h
    split at h
    · rename_i x e
      obtain ⟨p, rfl⟩ := dName_eq e
      simp only [Bool.and_eq_true, decide_eq_true_eq] at h
      exact sd_plain (f_var h.1.1 h.1.2 h.2) no (fun _ => rfl) (fun _ _ _ z => nomatch z)
    · cases h
  | ci, k, .con j, a, X, Wx, G, h => by
    rw [chkE] at h
    split at h
    · rename_i x e
      obtain ⟨p, rfl⟩ := dName_eq e
      simp only [Bool.and_eq_true, decide_eq_true_eq] at h
      exact sd_plain (f_con G h.1.1 h.1.2 h.2) no (fun _ => rfl) (fun _ _ _ z => nomatch z)
    · cases h
  | ci, k, .lit d, a, X, Wx, G, h => by
    rw [chkE] at h
    split at h
    · rename_i x e
      obtain ⟨j, p, rfl⟩ := dConst_eq e
      exact sd_plain (f_lit h) no (fun _ => rfl) (fun _ _ _ z => nomatch z)
    · split at h
      · rename_i x y e
        obtain ⟨j1, p1, j2, p2, pp, rfl⟩ := dDict1_eq e
        have e2 := isDict1_eq h
        subst e2
        exact sd_plain f_dlit no (fun _ => rfl) (fun _ _ _ z => nomatch z)
      · cases h
  | ci, k, .bin o a b, x, X, Wx, G, h => by
    rw [chkE] at h
    split at h
    · rename_i l p r e
      obtain ⟨pp, rfl⟩ := dBin_eq e
      simp only [Bool.and_eq_true] at h
      have ia := ok_E a _ X Wx G h.1.2
      have ib := ok_E b _ X Wx G h.2
      refine sd_plain (f_bin h.1.1 ia.e ib.e) (fun hf => ?_) (fun _ => rfl) (fun _ _ _ z => nomatch z)
      cases o <;> first | (simp [freshE] at hf; done) | skip
      cases a <;> first | (simp [freshE] at hf; done) | skip
      exact g_rep h.1.1 ia.e ib.e
    · cases h
  | ci, k, .neg a, x, X, Wx, G, h => by
    rw [chkE] at h
    split at h
    · rename_i y e
      obtain ⟨pp, rfl⟩ := dNeg_eq e
      exact sd_plain (f_neg (ok_E a _ X Wx G h).e) no (fun _ => rfl) (fun _ _ _ z => nomatch z)
    · cases h
  | ci, k, .cmp o a b, x, X, Wx, G, h => by
    rw [chkE] at h
    split at h
    · rename_i l p r e
      obtain ⟨pp, rfl⟩ := dCmp_eq e
      simp only [Bool.and_eq_true, Bool.not_eq_true'] at h
      have ia := ok_E a _ X Wx G h.1.2
      have ib := ok_E b _ X Wx G h.2
      exact ⟨f_cmp G h.1.1.1 h.1.1.2 ia.e ib.e, no, t_cmp G h.1.1.1 h.1.1.2 ia.e ib.e, fun _ _ _ z => (nomatch z), fun _ _ _ z => (nomatch z)⟩
    · cases h
  | ci, k, .chain o p a b c, x, X, Wx, G, h => by
    rw [chkE] at h
    split at h
    · rename_i l o' p' m r e
      obtain ⟨pp, rfl⟩ := dChain_eq e
      simp only [Bool.and_eq_true, Bool.not_eq_true'] at h
      have ia := ok_E a _ X Wx G h.1.1.2
      have ib := ok_E b _ X Wx G h.1.2
      have ic := ok_E c _ X Wx G h.2
      exact ⟨f_chain G h.1.1.1.1.1 h.1.1.1.1.2 h.1.1.1.2 ia.e ib.e ic.e, no, t_chain G h.1.1.1.1.1 h.1.1.1.1.2 h.1.1.1.2 ia.e ib.e ic.e, fun _ _ _ z => (nomatch z), fun _ _ _ z => (nomatch z)⟩
    · cases h
  | ci, k, .and a b, x, X, Wx, G, h => by
    rw [chkE] at h
    split at h
    · rename_i l r e
      obtain ⟨y, rr, pp, rfl, hb⟩ := dAnd_eq e
      simp only [Bool.and_eq_true] at h
      have ia := ok_E a _ X Wx G h.1
      have ib := ok_E b _ X Wx G h.2
      have eb : PE X (.BoolOp .And (y :: rr) pp) (tE X.K cs cf ca Wx b) := by
        rcases hb with ⟨rfl, rfl⟩ | rfl
        · exact pe_one ib.e
        · exact ib.e
      have wb : PW X (.BoolOp .And (y :: rr) pp) (tT X.K cs cf ca Wx b) := by
        rcases hb with ⟨rfl, rfl⟩ | rfl
        · exact pw_and1 ib.t
        · exact ib.a _ _ _ rfl
      have w := w_and ia.t wb
      exact ⟨f_and ia.e eb, no, w.pt, fun _ _ _ _ => w, fun _ _ _ z => (nomatch z)⟩
    · cases h
  | ci, k, .or a b, x, X, Wx, G, h => by
    rw [chkE] at h
    split at h
    · rename_i l r e
      obtain ⟨y, rr, pp, rfl, hb⟩ := dOr_eq e
      simp only [Bool.and_eq_true] at h
      have ia := ok_E a _ X Wx G h.1
      have ib := ok_E b _ X Wx G h.2
      have eb : PE X (.BoolOp .Or (y :: rr) pp) (tE X.K cs cf ca Wx b) := by
        rcases hb with ⟨rfl, rfl⟩ | rfl
        · exact pe_one ib.e
        · exact ib.e
      have wb : PW X (.BoolOp .Or (y :: rr) pp) (tT X.K cs cf ca Wx b) := by
        rcases hb with ⟨rfl, rfl⟩ | rfl
        · exact pw_or1 ib.t
        · exact ib.o _ _ _ rfl
      have w := w_or ia.t wb
      exact ⟨f_or ia.e eb, no, w.pt, fun _ _ _ z => (nomatch z), fun _ _ _ _ => w⟩
    · cases h
  | ci, k, .not a, x, X, Wx, G, h => by
    rw [chkE] at h
    split at h
    · rename_i y e
      obtain ⟨pp, rfl⟩ := dNot_eq e
      have ia := ok_E a _ X Wx G h
      exact ⟨f_not ia.e, no, t_not ia.t, fun _ _ _ z => (nomatch z), fun _ _ _ z => (nomatch z)⟩
    · cases h
  | ci, k, .ife c a b, x, X, Wx, G, h => by
    rw [chkE] at h
    split at h
    · rename_i t y z e
      obtain ⟨pp, rfl⟩ := dIf_eq e
      simp only [Bool.and_eq_true] at h
      have ic := ok_E c _ X Wx G h.1.1
      have ia := ok_E a _ X Wx G h.1.2
      have ib := ok_E b _ X Wx G h.2
      exact ⟨f_ife ic.t ia.e ib.e, no, t_ife ic.t ia.t ib.t, fun _ _ _ z => (nomatch z), fun _ _ _ z => (nomatch z)⟩
    · cases h
  | ci, k, .tup es, x, X, Wx, G, h => by
    rw [chkE] at h
    split at h
    · rename_i xs e
      obtain ⟨j, pp, rfl⟩ := dTup_eq e
      simp only [Bool.and_eq_true, decide_eq_true_eq] at h
      exact sd_plain (f_tup h.1 h.2 (ok_Es es _ X Wx G h.1)) no (fun _ => rfl) (fun _ _ _ z => nomatch z)
    · cases h
  | ci, k, .lst es, x, X, Wx, G, h => by
    rw [chkE] at h
    split at h
    · rename_i xs e
      obtain ⟨pp, rfl⟩ := dLst_eq e
      simp only [Bool.and_eq_true, decide_eq_true_eq] at h
      exact sd_fresh rfl (g_lst h.1 h.2 (ok_Es es _ X Wx G h.1)) (fun _ => rfl) (fun _ _ _ z => nomatch z)
    · cases h
  | ci, k, .own e, x, X, Wx, G, h => by
    rw [chkE] at h
    simp only [Bool.and_eq_true] at h
    have ie := ok_E e _ X Wx G h.2
    have oe := f_own h.1 (ie.f h.1)
    have he : ∀ whole, isTrue x X.env whole = (do let v ← whole; standAt x.pos; holding [v] (truthy v)) := by
      intro whole
      cases x <;> first | rfl | skip
      all_goals (cases e <;> first | (simp [freshE] at h; done) | (simp [chkE, dBin, dLst, dComp, dDict, dCall] at h; done))
    have hb : ∀ o r p, x ≠ .BoolOp o r p := by
      rintro o r p rfl
      cases e <;> first | (simp [freshE] at h; done) | (simp [chkE, dBin, dLst, dComp, dDict, dCall] at h; done)
    exact sd_plain oe no he hb
  | ci, k, .mxd mx a d, x, X, Wx, G, h => by
    rw [chkE] at h
    split at h
    · rename_i n y k z e
      obtain ⟨p1, p2, pp, rfl⟩ := dKw1_eq e
      simp only [Bool.and_eq_true, decide_eq_true_eq] at h
      obtain ⟨⟨⟨⟨h1, h2⟩, h3⟩, h4⟩, h5⟩ := h
      exact sd_plain (f_mxd G h1 h2 h3 (chkE_plain h4) (ok_E a _ X Wx G h4).e (ok_E d _ X Wx G h5).e) no (fun _ => rfl) (fun _ _ _ z => nomatch z)
    · cases h
  | ci, k, .cat a b, x, X, Wx, G, h => by
    rw [chkE] at h
    split at h
    · rename_i l p r e
      obtain ⟨pp, rfl⟩ := dBin_eq e
      simp only [Bool.and_eq_true] at h
      exact sd_plain (f_cat h.1.1 (ok_E a _ X Wx G h.1.2).e (ok_E b _ X Wx G h.2).e) no (fun _ => rfl) (fun _ _ _ z => nomatch z)
    · cases h
  | ci, k, .srs a, x, X, Wx, G, h => by
    rw [chkE] at h
    split at h
    · rename_i n r y e
      obtain ⟨p, p1, pos1, pos, rfl⟩ := dLrg_eq e
      simp only [Bool.and_eq_true, decide_eq_true_eq] at h
      obtain ⟨⟨⟨⟨h1, h2⟩, h3⟩, h4⟩, h5⟩ := h
      exact sd_plain (f_srs G h1 h2 h3 h4 (chkE_plain h5) (ok_E a _ X Wx G h5).e) no (fun _ => rfl) (fun _ _ _ z => nomatch z)
    · cases h
  | ci, k, .said f es, x, X, Wx, G, h => by
    rw [chkE] at h
    split at h
    · rename_i prm n y ys sc e
      obtain ⟨p, p2, p3, p4, p5, rfl⟩ := dSaid_eq e
      simp only [Bool.and_eq_true, decide_eq_true_eq] at h
      obtain ⟨⟨⟨⟨⟨⟨⟨⟨⟨h1, h0⟩, h2⟩, h3⟩, h4⟩, h5⟩, h6⟩, h7⟩, h8⟩, h9⟩ := h
      obtain rfl := noPrm_eq h4
      exact sd_plain (f_said G h1 h0 h2 h3 h5 h6 h7 h8 (chkEs_plain h9) fun X' Wx' j eK e1 e2 G' => ok_Es es _ X' Wx' G' (by rw [e1, e2]; exact h9)) no (fun _ => rfl) (fun _ _ _ z => nomatch z)
    · cases h
  | ci, k, .lzp es, x, X, Wx, G, h => by
    rw [chkE] at h
    split at h
    · rename_i f z y u e
      obtain ⟨p, p1, pos1, pos, rfl⟩ := dOfZip_eq e
      simp only [Bool.and_eq_true, decide_eq_true_eq] at h
      obtain ⟨⟨⟨⟨h1, h2⟩, h3⟩, h4⟩, h5⟩ := h
      exact sd_plain (f_lzp G h1 h2 h3 h4 h5 (ok_Es es _ X Wx G h5)) no (fun _ => rfl) (fun _ _ _ z => nomatch z)
    · cases h
  | ci, k, .dsp i c, x, X, Wx, G, h => by
    rw [chkE] at h
    split at h
    · rename_i n c' e
      obtain ⟨p1, j, p2, p, rfl⟩ := dDsp_eq e
      simp only [Bool.and_eq_true, decide_eq_true_eq] at h
      obtain ⟨⟨⟨h0, h1⟩, h2⟩, h3⟩ := h
      subst h0
      exact sd_plain (f_dsp h1 h2 h3) no (fun _ => rfl) (fun _ _ _ z => nomatch z)
    · cases h
  | ci, k, .vls a, x, X, Wx, G, h => by
    rw [chkE] at h
    split at h
    · rename_i f n m i e ei
      obtain ⟨p1, p2, ap, cp, p, hl, rfl⟩ := dView_eq e
      obtain rfl := dVar_eq ei
      simp only [Bool.and_eq_true, decide_eq_true_eq] at h
      obtain ⟨⟨⟨⟨⟨h1, h2⟩, h3⟩, h4⟩, h5⟩, h6⟩ := h
      exact sd_plain (f_vls G h1 h2 h3 h4 h5 h6 hl) no (fun _ => rfl) (fun _ _ _ z => nomatch z)
    · cases h
  | ci, k, .mnv a, x, X, Wx, G, h => by
    rw [chkE] at h
    split at h
    · rename_i f n m i e ei
      obtain ⟨p1, p2, ap, cp, p, hl, rfl⟩ := dView_eq e
      obtain rfl := dVar_eq ei
      simp only [Bool.and_eq_true, decide_eq_true_eq] at h
      obtain ⟨⟨⟨⟨⟨h1, h2⟩, h3⟩, h4⟩, h5⟩, h6⟩ := h
      exact sd_plain (f_mnv G h1 h2 h3 h4 h5 h6 hl) no (fun _ => rfl) (fun _ _ _ z => nomatch z)
    · cases h
  | ci, k, .lrg1 tp a, x, X, Wx, G, h => by
    rw [chkE] at h
    split at h
    · rename_i n r y e
      obtain ⟨p, p1, pos1, pos, rfl⟩ := dLrg_eq e
      simp only [Bool.and_eq_true, decide_eq_true_eq] at h
      obtain ⟨⟨⟨⟨h1, h2⟩, h3⟩, h4⟩, h5⟩ := h
      exact sd_plain (f_lrg1 G h1 h2 h3 h4 (chkE_plain h5) (ok_E a _ X Wx G h5).e) no (fun _ => rfl) (fun _ _ _ z => nomatch z)
    · cases h
  | ci, k, .lrg3 a b c, x, X, Wx, G, h => by
    rw [chkE] at h
    split at h
    · rename_i n r y z u e
      obtain ⟨p, p1, pos1, pos, rfl⟩ := dLrg_eq e
      simp only [Bool.and_eq_true, decide_eq_true_eq] at h
      obtain ⟨⟨⟨⟨⟨⟨h1, h2⟩, h3⟩, h4⟩, h5⟩, h6⟩, h7⟩ := h
      exact sd_plain (f_lrg3 G h1 h2 h3 h4 (chkE_plain h5) (chkE_plain h6) (chkE_plain h7) (ok_E a _ X Wx G h5).e (ok_E b _ X Wx G h6).e (ok_E c _ X Wx G h7).e) no (fun _ => rfl) (fun _ _ _ z => nomatch z)
    · cases h
  | ci, k, .cpy a, x, X, Wx, G, h => by
    rw [chkE] at h
    split at h
    · rename_i y e
      obtain ⟨j, p1, p3, pp, rfl⟩ := dCpy_eq e
      exact sd_plain (f_cpy (ok_E a _ X Wx G h).e) no (fun _ => rfl) (fun _ _ _ z => nomatch z)
    · cases h
  | ci, k, .ix a b, x, X, Wx, G, h => by
    rw [chkE] at h
    split at h
    · rename_i y z e
      obtain ⟨pp, rfl⟩ := dIx_eq e
      simp only [Bool.and_eq_true] at h
      exact sd_plain (f_ix G (chkE_plain h.2) (ok_E a _ X Wx G h.1).e (ok_E b _ X Wx G h.2).e) no (fun _ => rfl) (fun _ _ _ z => nomatch z)
    · cases h
  | ci, k, .sl a lo hi, x, X, Wx, G, h => by
    rw [chkE] at h
    split at h
    · rename_i y l u e
      obtain ⟨p2, pp, rfl⟩ := dSl_eq e
      simp only [Bool.and_eq_true] at h
      exact sd_plain (f_sl (ok_E a _ X Wx G h.1.1).e (ok_O lo _ X Wx G h.1.2) (ok_O hi _ X Wx G h.2)) no (fun _ => rfl) (fun _ _ _ z => nomatch z)
    · cases h
  | ci, k, .rev a, x, X, Wx, G, h => by
    rw [chkE] at h
    split at h
    · rename_i y e
      obtain ⟨j, p1, p2, p3, pp, rfl⟩ := dRev_eq e
      exact sd_plain (f_rev (ok_E a _ X Wx G h).e) no (fun _ => rfl) (fun _ _ _ z => nomatch z)
    · cases h
  | ci, k, .isi a T, x, X, Wx, G, h => by
    rw [chkE] at h
    split at h
    · rename_i f y z e
      obtain ⟨p2, pp, rfl⟩ := dCall_eq e
      simp only [Bool.and_eq_true, decide_eq_true_eq] at h
      obtain ⟨⟨⟨⟨h1, h2⟩, h3⟩, h4⟩, h5⟩ := h
      split at h5
      · rename_i n en
        obtain ⟨p3, rfl⟩ := dName_eq en
        simp only [Bool.and_eq_true, decide_eq_true_eq] at h5
        exact sd_plain (f_isi G h1 h2 h5.1 h4 h5.2 (chkE_plain h3) (ok_E a _ X Wx G h3).e) no (fun _ => rfl) (fun _ _ _ z => nomatch z)
      · cases h5
    · cases h
  | ci, k, .call f es, x, X, Wx, G, h => by
    rw [chkE] at h
    split at h
    · rename_i n y ys e
      obtain ⟨p2, pp, rfl⟩ := dCall_eq e
      simp only [Bool.and_eq_true, decide_eq_true_eq] at h
      exact sd_plain (f_call G h.1.1.1 h.1.1.2 h.1.2 h.2 (ok_Es es _ X Wx G h.2)) no (fun _ => rfl) (fun _ _ _ z => nomatch z)
    · cases h
  | ci, k, .bi b es, x, X, Wx, G, h => by
    rw [chkE] at h
    split at h
    · rename_i n y ys e
      obtain ⟨p2, pp, rfl⟩ := dCall_eq e
      simp only [Bool.and_eq_true, decide_eq_true_eq] at h
      have ies := ok_Es es _ X Wx G h.2
      refine sd_plain (f_bi G h.1.1 h.1.2 h.2 ies) (fun hf => ?_) (fun _ => rfl) (fun _ _ _ z => nomatch z)
      cases b <;> first | (simp [freshE] at hf; done) | skip
      · exact g_list G h.1.1 h.1.2 h.2 ies
      · exact g_sorted G h.1.1 h.1.2 h.2 ies
    · cases h
  | ci, k, .mt m o es, x, X, Wx, G, h => by
    rw [chkE] at h
    split at h
    · rename_i f y z e
      obtain ⟨n, p, ap, cp, rfl, hl, rfl⟩ := dMeth_eq e
      simp only [Bool.and_eq_true, decide_eq_true_eq] at h
      obtain ⟨⟨⟨h1, h2⟩, h3⟩, h4⟩ := h
      have io := ok_E o _ X Wx G h3
      have ies := ok_Es es _ X Wx G h4
      subst h2
      cases m <;> first | (cases h1; done) | skip
      · exact sd_plain (f_append base_name hl h4 io.e ies) no (fun _ => rfl) (fun _ _ _ z => nomatch z)
      · exact sd_plain (f_extend base_name hl h4 io.e ies) no (fun _ => rfl) (fun _ _ _ z => nomatch z)
    · split at h
      · rename_i f y e
        obtain ⟨n, p, ap, cp, rfl, hl, rfl⟩ := dMeth0_eq e
        simp only [Bool.and_eq_true, decide_eq_true_eq] at h
        obtain ⟨⟨⟨h1, h2⟩, h3⟩, h4⟩ := h
        have io := ok_E o _ X Wx G h4
        subst h2
        cases m <;> first | (cases h1; done) | skip
        cases es <;> first | (cases h3; done) | skip
        exact sd_plain (f_clear base_name hl io.e) no (fun _ => rfl) (fun _ _ _ z => nomatch z)
      · split at h
        · rename_i f y z u e
          obtain ⟨n, p, ap, cp, rfl, hl, rfl⟩ := dMeth2_eq e
          simp only [Bool.and_eq_true, decide_eq_true_eq] at h
          obtain ⟨⟨⟨h1, h2⟩, h3⟩, h4⟩ := h
          have io := ok_E o _ X Wx G h3
          cases m <;> first | (cases h1; done) | skip
          match es, h4 with
          | .cons a (.cons b .nil), h4 =>
            simp only [chkEs, Bool.and_eq_true, and_true] at h4
            exact sd_plain (f_get2 G h2 (chkE_plain h4.1) (chkE_plain h4.2) io.e (ok_E a _ X Wx G h4.1).e (ok_E b _ X Wx G h4.2).e hl) no (fun _ => rfl) (fun _ _ _ z => nomatch z)
          | .nil, h4 => simp [chkEs] at h4
          | .cons _ .nil, h4 => simp [chkEs] at h4
          | .cons _ (.cons _ (.cons _ _)), h4 => simp [chkEs] at h4
        · cases h
  | ci, k, .comp elt tg own it c, a, X, Wx, G, h => by
    rw [chkE] at h
    split at h
    · rename_i x t i ifs scope e
      obtain ⟨pp, rfl⟩ := dComp_eq e
      simp only [Bool.and_eq_true, decide_eq_true_eq, Bool.not_eq_true'] at h
      obtain ⟨⟨⟨⟨⟨⟨⟨h1, h2⟩, h3⟩, h4⟩, h5⟩, h6⟩, h7⟩, h8⟩ := h
      refine sd_fresh rfl (g_comp G h1 h2 h3 h4 (noset h5) (ok_I it _ _ X Wx G h6) (fun s H C cl fp => ?_) (fun s H C cl fp => ?_)) (fun _ => rfl) (fun _ _ _ z => nomatch z)
      · exact (ok_E elt x (X.blk s H scope (compEnvC scope cl C X.env) fp) bot (G.blk s H scope C cl fp) h7).e
      · exact ok_C c ifs (X.blk s H scope (compEnvC scope cl C X.env) fp) (G.blk s H scope C cl fp) h8
    · cases h
  | ci, k, .dnew, a, X, Wx, G, h => by
    rw [chkE] at h
    obtain ⟨pp, rfl⟩ := dDict_eq h
    exact sd_fresh rfl g_dnew (fun _ => rfl) (fun _ _ _ z => nomatch z)
theorem ok_Es : ∀ {ci : CI} {k : Nat} (es : Es) (as : List Expr) (X : Cx) (Wx : WX), Gd ci cs cf ca k X Wx → chkEs ci X.env.scope X.N es as = true → PA X as (tEs X.K cs cf ca Wx es)
  | ci, k, .nil, [], X, Wx, G, h => a_nil
  | ci, k, .nil, _ :: _, X, Wx, G, h => by simp [chkEs] at h
  | ci, k, .cons _ _, [], X, Wx, G, h => by simp [chkEs] at h
  | ci, k, .cons e es, a :: as, X, Wx, G, h => by
    simp only [chkEs, Bool.and_eq_true] at h
    exact a_cons (chkE_plain h.1) (ok_E e a X Wx G h.1).e (ok_Es es as X Wx G h.2)
theorem ok_O : ∀ {ci : CI} {k : Nat} (o : Eo) (a : Option Expr) (X : Cx) (Wx : WX), Gd ci cs cf ca k X Wx → chkO ci X.env.scope X.N o a = true → PO X a (tO X.K cs cf ca Wx o)
  | ci, k, .no, none, X, Wx, G, h => o_none
  | ci, k, .no, some _, X, Wx, G, h => by simp [chkO] at h
  | ci, k, .so _, none, X, Wx, G, h => by simp [chkO] at h
  | ci, k, .so e, some a, X, Wx, G, h => by
    simp only [chkO] at h
    exact o_some (ok_E e a X Wx G h).e
theorem ok_C : ∀ {ci : CI} {k : Nat} (o : Eo) (ifs : List Expr) (X : Cx), Gd ci cs cf ca k X bot → chkC ci X.env.scope X.N o ifs = true → PTs X ifs (tCo X.K cs cf ca o)
  | ci, k, .no, [], X, G, h => pts_nil
  | ci, k, .no, _ :: _, X, G, h => by simp [chkC] at h
  | ci, k, .so _, [], X, G, h => by simp [chkC] at h
  | ci, k, .so _, _ :: _ :: _, X, G, h => by simp [chkC] at h
  | ci, k, .so e, [a], X, G, h => by
    simp only [chkC] at h
    exact pts_one (ok_E e a X bot G h).t
theorem ok_I : ∀ {ci : CI} {k : Nat} (it : I) (i t : Expr) (X : Cx) (Wx : WX), Gd ci cs cf ca k X Wx → chkI ci X.env.scope X.N it i t = true → PI X t i (tI X.K cs cf ca Wx it)
  | ci, k, .seq e, i, t, X, Wx, G, h => by
    rw [chkI] at h
    exact i_seq (ok_E e i X Wx G h).e
  | ci, k, .rng1 e, i, t, X, Wx, G, h => by
    rw [chkI] at h
    split at h
    · rename_i n a e'
      obtain ⟨p2, pp, rfl⟩ := dCall_eq e'
      simp only [Bool.and_eq_true, decide_eq_true_eq] at h
      exact i_rng1 G h.1.1 h.1.2 (chkE_plain h.2) (ok_E e a X Wx G h.2).e
    · cases h
  | ci, k, .rng2 e f, i, t, X, Wx, G, h => by
    rw [chkI] at h
    split at h
    · rename_i n a b e'
      obtain ⟨p2, pp, rfl⟩ := dCall_eq e'
      simp only [Bool.and_eq_true, decide_eq_true_eq] at h
      exact i_rng2 G h.1.1.1 h.1.1.2 (chkE_plain h.1.2) (chkE_plain h.2) (ok_E e a X Wx G h.1.2).e (ok_E f b X Wx G h.2).e
    · cases h
  | ci, k, .rng3 e f g, i, t, X, Wx, G, h => by
    rw [chkI] at h
    split at h
    · rename_i n a b c e'
      obtain ⟨p2, pp, rfl⟩ := dCall_eq e'
      simp only [Bool.and_eq_true, decide_eq_true_eq] at h
      exact i_rng3 G h.1.1.1.1 h.1.1.1.2 (chkE_plain h.1.1.2) (chkE_plain h.1.2) (chkE_plain h.2) (ok_E e a X Wx G h.1.1.2).e (ok_E f b X Wx G h.1.2).e (ok_E g c X Wx G h.2).e
    · cases h
  | ci, k, .enm e, i, t, X, Wx, G, h => by
    rw [chkI] at h
    split at h
    · rename_i n a _ e' et
      obtain ⟨p2, pp, rfl⟩ := dCall_eq e'
      obtain ⟨j, p3, rfl⟩ := dTup_eq et
      simp only [Bool.and_eq_true, decide_eq_true_eq] at h
      exact i_enm G h.1.1 h.1.2 (chkE_plain h.2) (ok_E e a X Wx G h.2).e
    · cases h
  | ci, k, .ezp es, i, t, X, Wx, G, h => by
    rw [chkI] at h
    split at h
    · rename_i f z y u _ e et
      obtain ⟨p, p1, pos1, pos, rfl⟩ := dOfZip_eq e
      obtain ⟨jj, p3, rfl⟩ := dTup_eq et
      simp only [Bool.and_eq_true, decide_eq_true_eq] at h
      obtain ⟨⟨⟨⟨h1, h2⟩, h3⟩, h4⟩, h5⟩ := h
      exact i_ezp G h1 h2 h3 h4 h5 (ok_Es es _ X Wx G h5)
    · cases h
  | ci, k, .itm e, i, t, X, Wx, G, h => by
    rw [chkI] at h
    split at h
    · rename_i f y _ j e' et ej
      obtain ⟨n, p, ap, cp, ey, hl, rfl⟩ := dMeth0_eq e'
      obtain ⟨jj, p3, rfl⟩ := dTup_eq et
      obtain rfl := dVar_eq ej
      subst ey
      simp only [dName, Bool.and_eq_true, decide_eq_true_eq] at h
      obtain ⟨h0, ⟨h1, h2⟩, h3⟩ := h
      exact i_itm h0 (f_var h1 h2 h3) hl
    · cases h
  | ci, k, .zipr a b, i, t, X, Wx, G, h => by
    rw [chkI] at h
    split at h
    · rename_i n r y q z _ e' et
      obtain ⟨p, p1, pos1, p2, pos2, pos, rfl⟩ := dZipR_eq e'
      obtain ⟨j, p3, rfl⟩ := dTup_eq et
      simp only [Bool.and_eq_true, decide_eq_true_eq] at h
      obtain ⟨⟨⟨⟨⟨⟨h1, h2⟩, h3⟩, h4⟩, h5⟩, h6⟩, h7⟩ := h
      exact i_zipr G h1 h2 h3 h4 h5 (chkE_plain h6) (chkE_plain h7) (ok_E a _ X Wx G h6).e (ok_E b _ X Wx G h7).e
    · cases h
  | ci, k, .zip rv es, i, t, X, Wx, G, h => by
    rw [chkI] at h
    split at h
    · rename_i n a as _ e' et
      obtain ⟨p2, pp, rfl⟩ := dCall_eq e'
      obtain ⟨j, p3, rfl⟩ := dTup_eq et
      simp only [Bool.and_eq_true, decide_eq_true_eq, Bool.or_eq_true, Bool.not_eq_true'] at h
      obtain ⟨⟨⟨⟨h1, h2⟩, h3⟩, h4⟩, h5⟩ := h
      subst h1
      have ies := ok_Es es _ X Wx G h4
      rcases h5 with h5 | h5 | h5
      · match as, h5 with
        | [b], _ => exact i_zip2 G h2 h3 h4 ies
      · match as, h5 with
        | [b, c], _ => exact i_zip3 G h2 h3 h4 ies
      · match as, h5 with
        | [b, c, d], _ => exact i_zip4 G h2 h3 h4 ies
    · cases h
end
end
end MF

set_option Elab.async false
set_option linter.all false
set_option maxRecDepth 100000
set_option maxHeartbeats 8000000
/-! statements -/
namespace MF
open PySem PySem.Spec PyProof.Rows L2 MZ

/-! ### what a statement is -/
def notC : Expr → Bool
  | .ListComp .. => false
  | .SetComp .. => false
  | .DictComp .. => false
  | _ => true
theorem notC_sw {a : Expr} {t : Option Expr} {l : Nat} {env : Env} (h : notC a = true) : swapsWith a t l env = pure false := by
  cases a <;> first | rfl | (cases h)
/-- a comprehension's value is stored at once -/
def swC (sc : Scope) (a : Expr) (x : Str) (px : Pos) : Bool := match a with
  | .ListComp _ _ s p => (sc.names.lookup x == some .local) && (px.line == p.line) && !(s.names.any fun (n, k) => n == x && (k == .local || k == .cell))
  | _ => false
theorem swC_no {sc : Scope} {env : Env} {a : Expr} {x : Str} {px : Pos} {l : Nat} (hs : env.scope = sc) (hn : (match a with | .SetComp .. => false | .DictComp .. => false | _ => true) = true) (h : swC sc a x px = false) : swapsWith a (some (.Name x px)) l env = pure false := by
  cases a <;> first | rfl | (cases hn; done) | skip
  rename_i e gs s p
  unfold swapsWith
  have hk : env.kindOf x = sc.names.lookup x := by rw [← hs]; rfl
  simp only [swC] at h
  simp only [hk, Expr.pos]
  show (pure (_ : Bool) : Sem Bool) = pure false
  congr 1
  cases hb : (env.blockKind == ScopeKind.function) with
  | false => simp
  | true =>
    simp only [Bool.true_and]
    exact h
def names2 (sc : Scope) (x y : Str) (px py : Pos) (a b : Expr) : Bool := (match sc.names.lookup x with | some .local => true | _ => false) && (match sc.names.lookup y with | some .local => true | _ => false) && (py.line == px.line) && decide (x ≠ y) && !([a, b].all (foldedForSure 8)) && !([a, b].all (constantsAlone 8))
def locL (sc : Scope) (x : Str) : Bool := match sc.names.lookup x with
  | some .local => true
  | _ => false
theorem locL_eq {sc : Scope} {x : Str} (h : locL sc x = true) : sc.names.lookup x = some .local := by
  unfold locL at h
  split at h
  · assumption
  · cases h
def isStar : Expr → Bool
  | .Starred .. => true
  | _ => false
theorem plain_star {a : Expr} (h : Plain a) : isStar a = false := by cases a <;> first | rfl | (exact (h.1 _ _ rfl).elim)
theorem dups2 {x y : Str} (h : x ≠ y) : [x, y].eraseDups = [x, y] := by
  have hne : (y == x) = false := by simpa using fun z : y = x => h z.symm
  rw [List.eraseDups_cons]
  simp only [List.filter_cons, hne, Bool.not_false, if_true, List.filter_nil, List.eraseDups_cons, List.eraseDups_nil]
theorem dups3 {x y z : Str} (h : x ≠ y) (h2 : x ≠ z) (h3 : y ≠ z) : [x, y, z].eraseDups = [x, y, z] := by
  have h1' : (y == x) = false := by simpa using fun q : y = x => h q.symm
  have h2' : (z == x) = false := by simpa using fun q : z = x => h2 q.symm
  rw [List.eraseDups_cons]
  simp only [List.filter_cons, h1', h2', Bool.not_false, if_true, List.filter_nil]
  rw [dups2 h3]
theorem sw_par2 {sc : Scope} {env : Env} {x y : Str} {px py pt pt2 : Pos} {kt k2 : Nat} {a b : Expr} (hs : env.scope = sc) (hk : sc.kind = .function) (hx : locL sc x = true) (hy : locL sc y = true) (hl : (py.line == px.line) = true) (hxy : x ≠ y)
    (hf : [a, b].all (foldedForSure 8) = false) (hc : [a, b].all (constantsAlone 8) = false) (pa : Plain a) (pb : Plain b) :
    swappedStores [.Tuple [.Name x px, .Name y py] kt pt] (.Tuple [a, b] k2 pt2) env = pure (some [x, y]) := by
  have kx : env.kindOf x = some .local := by rw [← locL_eq hx, ← hs]; rfl
  have ky : env.kindOf y = some .local := by rw [← locL_eq hy, ← hs]; rfl
  have hb : env.blockKind = .function := by unfold Env.blockKind; rw [hs, hk]; rfl
  unfold swappedStores
  simp only [hb, kx, ky, hl, hf, hc, Expr.pos, List.head?_cons, Option.map_some, Option.getD_some, List.length_cons, List.length_nil, List.filterMap_cons, List.filterMap_nil, List.any_cons, List.any_nil, beq_self_eq_true, Bool.and_self, if_true, bne_self_eq_false, Bool.or_false, dups2 hxy]
  show (if (!(true || 0 + 1 + 1 == 3)) = true then pure none else if (isStar a || isStar b) = true then pure none else _) = _
  rw [plain_star pa, plain_star pb]
  rfl
theorem sw_par3 {sc : Scope} {env : Env} {x y z : Str} {px py pz pt pt2 : Pos} {kt k2 : Nat} {a b c : Expr} (hs : env.scope = sc) (hk : sc.kind = .function) (hx : locL sc x = true) (hy : locL sc y = true) (hz : locL sc z = true) (hl : (py.line == px.line) = true) (hl2 : (pz.line == px.line) = true) (hxy : x ≠ y) (hxz : x ≠ z) (hyz : y ≠ z)
    (hf : [a, b, c].all (foldedForSure 8) = false) (hc : [a, b, c].all (constantsAlone 8) = false) (pa : Plain a) (pb : Plain b) (pc : Plain c) :
    swappedStores [.Tuple [.Name x px, .Name y py, .Name z pz] kt pt] (.Tuple [a, b, c] k2 pt2) env = pure (some [x, y, z]) := by
  have kx : env.kindOf x = some .local := by rw [← locL_eq hx, ← hs]; rfl
  have ky : env.kindOf y = some .local := by rw [← locL_eq hy, ← hs]; rfl
  have kz : env.kindOf z = some .local := by rw [← locL_eq hz, ← hs]; rfl
  have hb : env.blockKind = .function := by unfold Env.blockKind; rw [hs, hk]; rfl
  unfold swappedStores
  simp only [hb, kx, ky, kz, hl, hl2, hf, hc, Expr.pos, List.head?_cons, Option.map_some, Option.getD_some, List.length_cons, List.length_nil, List.filterMap_cons, List.filterMap_nil, List.any_cons, List.any_nil, beq_self_eq_true, Bool.and_self, if_true, bne_self_eq_false, Bool.or_false, dups3 hxy hxz hyz]
  show (if (!(0 + 1 + 1 + 1 == 2 || true)) = true then pure none else if (isStar a || (isStar b || isStar c)) = true then pure none else _) = _
  rw [plain_star pa, plain_star pb, plain_star pc]
  rfl
/-- a name that is captured: the stores go the plain way -/
def plainNames (sc : Scope) (ts : List Expr) : Bool :=
  decide ((ts.filterMap fun
    | .Name id pos => if sc.names.lookup id == some .local && pos.line == (ts.head?.map (·.pos.line)).getD 0 then some id else none
    | _ => none).length ≠ ts.length)
theorem sw_none {sc : Scope} {env : Env} {ts : List Expr} {kt : Nat} {pt : Pos} {v : Expr} (hs : env.scope = sc) (h : dTup v = none ∨ plainNames sc ts = true) : swappedStores [.Tuple ts kt pt] v env = pure none := by
  rcases h with h | h
  · cases v <;> first | rfl | (cases h)
  · cases v <;> first | rfl | skip
    unfold plainNames at h
    have h := of_decide_eq_true h
    have kk : ∀ id, env.kindOf id = sc.names.lookup id := fun id => by rw [← hs]; rfl
    unfold swappedStores
    simp only [kk]
    split
    · rfl
    · split
      · rfl
      · rw [if_pos]
        rw [Bool.or_eq_true]
        exact .inl (bne_iff_ne.mpr h)

/-- raise x("..") -/
def dRs : Stmt → Option Str
  | .Raise (some (.Call (.Name x _) [.Constant (.str _) _ _] [] _)) none _ => some x
  | _ => none
theorem dRs_eq {st : Stmt} {x : Str} (h : dRs st = some x) : ∃ p m j p2 p3 p4, st = .Raise (some (.Call (.Name x p) [.Constant (.str m) j p2] [] p3)) none p4 := by
  unfold dRs at h
  split at h
  · cases h
    exact ⟨_, _, _, _, _, _, rfl⟩
  · cases h
/-! ### the statements' check -/
inductive ST where
  | ex (a : Expr) | nm (x : Str) (px : Pos) (a : Expr) | tp (ts : List Expr) (a : Expr) | put (o i a : Expr) | ite (c : Expr) (a b : List Stmt) | fr (t i : Expr) (b : List Stmt) | ret (a : Expr) | retN | pas | brk | cnt
def dS : Stmt → Option ST
  | .Expr a _ => some (.ex a)
  | .Assign [.Name x px] a _ => some (.nm x px a)
  | .Assign [.Tuple ts _ _] a _ => some (.tp ts a)
  | .Assign [.Subscript o i _] a _ => some (.put o i a)
  | .If c a b _ => some (.ite c a b)
  | .For t i b [] _ => some (.fr t i b)
  | .Return (some a) _ => some (.ret a)
  | .Return none _ => some .retN
  | .Pass _ => some .pas
  | .Break _ => some .brk
  | .Continue _ => some .cnt
  | _ => none
/-- x, y = a, b as a pair of names -/
def d2 : List Expr → Expr → Option (Str × Str × Expr × Expr)
  | [.Name x px, .Name y py], .Tuple [a, b] _ _ => if (py.line == px.line) = true ∧ [a, b].all (foldedForSure 8) = false ∧ [a, b].all (constantsAlone 8) = false then some (x, y, a, b) else none
  | _, _ => none
def d3 : List Expr → Expr → Option (Str × Str × Str × Expr × Expr × Expr)
  | [.Name x px, .Name y py, .Name z pz], .Tuple [a, b, c] _ _ => if (py.line == px.line) = true ∧ (pz.line == px.line) = true ∧ [a, b, c].all (foldedForSure 8) = false ∧ [a, b, c].all (constantsAlone 8) = false then some (x, y, z, a, b, c) else none
  | _, _ => none
/-- o[i], x = a, b -/
def dP2 : List Expr → Option (Expr × Expr × Str)
  | [.Subscript o i _, .Name x _] => some (o, i, x)
  | _ => none
def notSD : Expr → Bool
  | .SetComp .. => false
  | .DictComp .. => false
  | _ => true
def isFrz : S → Bool
  | .frz _ => true
  | _ => false
def headS : List Stmt → Option (Stmt × List Stmt)
  | [] => none
  | s :: r => some (s, r)
section
variable (ci : CI) (sc : Scope) (N : List Str)
mutual
def chkS : S → Stmt → Bool
  | .ex e, st => match dS st with
    | some (.ex a) => notC a && chkE ci sc N e a
    | _ => false
  | .asg (.nm i) e, st => match dS st with
    | some (.nm x px a) => decide (N[i]? = some x) && locB sc x && chkE ci sc N e a && notSD a
    | _ => false
  | .asg (.tup l) e, st => match dS st with
    | some (.tp ts a) => chkTs (locB sc) N l ts && chkE ci sc N e a && notC a && (match dTup a with | none => true | some _ => plainNames sc ts)
    | _ => false
  | .par i j a b, st => match dS st with
    | some (.tp ts v) => (match d2 ts v with
      | some (x, y, p, q) => decide (N[i]? = some x) && decide (N[j]? = some y) && decide (x ≠ y) && locL sc x && locL sc y && chkE ci sc N a p && chkE ci sc N b q
      | none => false)
    | _ => false
  | .par3 i j l a b c, st => match dS st with
    | some (.tp ts v) => (match d3 ts v with
      | some (x, y, z, p, q, r) => decide (N[i]? = some x) && decide (N[j]? = some y) && decide (N[l]? = some z) && decide (x ≠ y) && decide (x ≠ z) && decide (y ≠ z) && locL sc x && locL sc y && locL sc z && chkE ci sc N a p && chkE ci sc N b q && chkE ci sc N c r
      | none => false)
    | _ => false
  | .put o i e, st => match dS st with
    | some (.put y z a) => chkE ci sc N o y && chkE ci sc N i z && chkE ci sc N e a && notC a
    | _ => false
  | .put2 o i j a b, st => match dS st with
    | some (.tp ts v) => (match dP2 ts with
      | some (y, z, x) => decide (N[j]? = some x) && locB sc x && chkE ci sc N o y && chkE ci sc N i z && chkE ci sc N (.tup (.cons a (.cons b .nil))) v && notC v && plainNames sc ts
      | none => false)
    | _ => false
  | .ite c a b, st => match dS st with
    | some (.ite x y z) => chkE ci sc N c x && chkSs a y && chkSs b z
    | _ => false
  | .for_ t it b, st => match dS st with
    | some (.fr x i y) => chkT (locB sc) N t x && !(dSet i) && chkI ci sc N it i x && chkSs b y
    | _ => false
  | .ret e, st => match dS st with
    | some (.ret a) => chkE ci sc N e a
    | _ => false
  | .retN, st => match dS st with
    | some .retN => true
    | _ => false
  | .pas, st => match dS st with
    | some .pas => true
    | _ => false
  | .brk, st => match dS st with
    | some .brk => true
    | _ => false
  | .cnt, st => match dS st with
    | some .cnt => true
    | _ => false
  | .frz _, _ => false
  | .told _ _, _ => false
  | .raise c, st => match dRs st with
    | some x => ci.lam && decide (c < 16) && ci.cl.contains c && decide (clsN.getD c "" = x) && glB sc x && okNm x
    | none => false
  | .die, _ => true
def chkSs : Ss → List Stmt → Bool
  | .nil, l => l.isEmpty
  | .cons s r, l => if isFrz s = true then chkSs r l else match headS l with
    | some (st, sts) => chkS s st && chkSs r sts
    | none => false
end
end
end MF

set_option Elab.async false
set_option linter.all false
set_option maxRecDepth 100000
set_option maxHeartbeats 8000000
/-! the statements' soundness -/
namespace MF
open PySem PySem.Spec PyProof.Rows L2 MZ
variable [LTab]

section
variable {ci : CI} {cs : List D} {cf : CF} {ca : Nat → Addr} {k : Nat} {X : Cx} {Wx : WX}
/-- a body's ground: what a name's store wants, what exceptions want -/
structure Gb (ci : CI) (cs : List D) (cf : CF) (ca : Nat → Addr) (k : Nat) (X : Cx) (Wx : WX) : Prop extends Gd ci cs cf ca k X Wx where
  kd : X.env.scope.kind = .function
  st : ∀ x, locB X.env.scope x = true → Loc X.env.scope x ∧ (X.fn x = true ∨ X.env.scope.names.lookup x = some .local)
  ws : ∀ c d σ σ' H, Wx c d σ H → Wx c d σ' H
  po : PassesOwn (model X.prog X.w) X.A X.env X.xe
def CFl (K : PySem.W.Frag) (B : Addr → Prop) (E : Ends) : List Addr → Hs → Hp → Fl → Prop := fun φ' h' H' l => match l with
  | .nx env => ∀ σ, RE K φ' (Mu B φ' h') H' env σ → E.nx σ H'
  | .rt w => ∀ v, RW K φ' (Mu B φ' h') H' w v → E.rt v H'
  | .bk env => ∀ σ, RE K φ' (Mu B φ' h') H' env σ → E.bk σ H'
  | .ct env => ∀ σ, RE K φ' (Mu B φ' h') H' env σ → E.ct σ H'
abbrev Ey (ca : Nat → Addr) (Wx : WX) : Nat → Hp → Prop := fun c H' => ∀ σ, Wx (.ref (ca c)) none σ H'
def tS (K : PySem.W.Frag) (cs : List D) (cf : CF) (ca : Nat → Addr) (Wx : WX) (s : S) : TS := fun E σ H => ∃ (B : Addr → Prop) (φ : List Addr) (env : Ev) (h : Hs), RS K B φ h H ∧ RE K φ (Mu B φ h) H env σ ∧ Pg K B φ h H (Ey ca Wx) (exec cs cf s env h) (CFl K B E)
def tSs (K : PySem.W.Frag) (cs : List D) (cf : CF) (ca : Nat → Addr) (Wx : WX) (s : Ss) : TS := fun E σ H => ∃ (B : Addr → Prop) (φ : List Addr) (env : Ev) (h : Hs), RS K B φ h H ∧ RE K φ (Mu B φ h) H env σ ∧ Pg K B φ h H (Ey ca Wx) (execs cs cf s env h) (CFl K B E)
theorem ps_of {st : Stmt} {t t' : TS} (h : PS X st t) (g : ∀ E σ H, t' E σ H → t E σ H) : PS X st t' := ⟨fun pins s σ H E I q => h.run pins s σ H E I (g E σ H q)⟩
theorem pss_of {st : List Stmt} {t t' : TS} (h : PSs X st t) (g : ∀ E σ H, t' E σ H → t E σ H) : PSs X st t' := ⟨fun pins s σ H E I q => h.run pins s σ H E I (g E σ H q)⟩
theorem Pg.toEx {α : Type} {K : PySem.W.Frag} {B : Addr → Prop} {φ : List Addr} {h : Hs} {H : Hp} {σ : L2.St} {m : Res α} {C : List Addr → Hs → Hp → α → Prop} (P : Pg K B φ h H (Ey ca Wx) m C) : Pg K B φ h H (Ex ca Wx σ) m C := by
  cases m with
  | ok a h' => exact P
  | exc c d h' => exact fun φ' H' x r => P φ' H' x r σ
  | bad => exact P
theorem Pg.toEy (hw : ∀ c d σ σ' H, Wx c d σ H → Wx c d σ' H) {α : Type} {K : PySem.W.Frag} {B : Addr → Prop} {φ : List Addr} {h : Hs} {H : Hp} {σ : L2.St} {m : Res α} {C : List Addr → Hs → Hp → α → Prop} (P : Pg K B φ h H (Ex ca Wx σ) m C) : Pg K B φ h H (Ey ca Wx) m C := by
  cases m with
  | ok a h' => exact P
  | exc c d h' => exact fun φ' H' x r σ' => hw _ _ _ _ _ (P φ' H' x r)
  | bad => exact P
/-- an expression, then -/
theorem se_then (hw : ∀ c d σ σ' H, Wx c d σ H → Wx c d σ' H) {e : E} {σ : L2.St} {H : Hp} {α : Type} {f : W → Hs → Res α} {B : Addr → Prop} {φ : List Addr} {env : Ev} {h : Hs} {C : List Addr → Hs → Hp → α → Prop} {Q : VK} (S : RS X.K B φ h H) (R : RE X.K φ (Mu B φ h) H env σ)
    (P : Pg X.K B φ h H (Ey ca Wx) ((ev cs cf e env h).bind f) C)
    (g : ∀ φ1 h1 H1 w v, Ext φ h H φ1 h1 H1 → RS X.K B φ1 h1 H1 → RE X.K φ1 (Mu B φ1 h1) H1 env σ → RW X.K φ1 (Mu B φ1 h1) H1 w v → Pg X.K B φ1 h1 H1 (Ey ca Wx) (f w h1) C → Q v H1) : tE X.K cs cf ca Wx e σ H Q :=
  e_then S R P.toEx fun φ1 h1 H1 w v X1 S1 R1 rv P1 => g φ1 h1 H1 w v X1 S1 R1 rv (P1.toEy hw)
/-! a fresh value, kept or not -/
theorem fp_cv {e : E} {σ : L2.St} {H : Hp} {Q : VK} {B : Addr → Prop} {φ : List Addr} {env : Ev} {h : Hs} {EE : Nat → Hp → Prop} (hf : freshE e = true) (S : RS X.K B φ h H) (P : Pg X.K B φ h H EE (ev cs cf e env h) (CV X.K B Q)) : Pg X.K B φ h H EE (ev cs cf e env h) (FP X.K B H Q) := by
  refine Pg.monoE P (fun _ _ z => z) fun φ1 h1 H1 w eq X1 S1 cv => ?_
  have nm : ∀ {p : Addr}, H p = none → RS X.K (Bp B p) φ1 h1 H1 → ¬ Mu B φ1 h1 p := fun {p} hp S2 z => by
    rcases z with z | z
    · exact S.hb p z hp
    · exact S2.nb p (.inr rfl) z
  rcases fresh_shape hf eq with ⟨ds, rfl⟩ | rfl
  · refine ⟨_, rfl, fun p hp S2 vs e rd => cv _ (.t (.lst (nm hp S2) e (rd.kp (Kp.less fun a z => Mu.bp.mpr (.inl z)))))⟩
  · exact ⟨_, rfl, fun p hp S2 e => cv _ (.t (.dct (nm hp S2) (.inl e) .nil))⟩
theorem fp_own {e : E} {σ : L2.St} {H : Hp} {Q : VK} {B : Addr → Prop} {φ : List Addr} {env : Ev} {h : Hs} {EE : Nat → Hp → Prop} (hf : freshE e = true) (S : RS X.K B φ h H) (P : Pg X.K B φ h H EE (ev cs cf (.own e) env h) (CV X.K B Q)) : Pg X.K B φ h H EE (ev cs cf e env h) (FP X.K B H Q) := by
  simp only [ev] at P
  cases eq : ev cs cf e env h with
  | bad => rw [eq] at P; exact P.elim
  | exc c d h1 => rw [eq] at P; exact P
  | ok w h1 =>
    rw [eq] at P
    simp only [Res.ok_bind] at P
    intro φ1 H1 X1 S1
    rcases fresh_shape hf eq with ⟨ds, rfl⟩ | rfl
    · refine ⟨_, rfl, fun p hp S2 vs e rd => ?_⟩
      have hn : ¬ B p := fun b => S.hb p b hp
      refine P (φ1 ++ [p]) H1 (X1.adopt S1.len hp) (S2.adopt ⟨vs, e, rd⟩ hn) _ (.ref ?_)
      rw [List.getElem?_append_right (by rw [S1.len]; exact Nat.le_refl _), S1.len]
      simp
    · refine ⟨_, rfl, fun p hp S2 e => ?_⟩
      have hn : ¬ B p := fun b => S.hb p b hp
      refine P (φ1 ++ [p]) H1 (X1.adopt S1.len hp) (S2.adopt ⟨[], e, .nil⟩ hn) _ (.ref ?_)
      rw [List.getElem?_append_right (by rw [S1.len]; exact Nat.le_refl _), S1.len]
      simp
theorem s_ex (G : Gb ci cs cf ca k X Wx) {e : E} {a : Expr} {p : Pos} (hn : notC a = true) (h : chkE ci X.env.scope X.N e a = true) : PS X (.Expr a p) (tS X.K cs cf ca Wx (.ex e)) := by
  refine ps_of (ps_expr (ok_E e a X Wx G.toGd h).e (notC_sw hn)) fun E σ H ⟨B, φ, env, hh, S, R, P⟩ => ?_
  exact se_then G.ws S R P fun φ1 h1 H1 w v X1 S1 R1 rv P1 => Pg.okv S1 P1 σ R1
/-- the value goes on to the name i -/
theorem nm_post (G : Gb ci cs cf ca k X Wx) {i : Nat} {e : E} {σ : L2.St} {H : Hp} {E : Ends} {B : Addr → Prop} {φ : List Addr} {env : Ev} {h : Hs} (S : RS X.K B φ h H) (R : RE X.K φ (Mu B φ h) H env σ) (P : Pg X.K B φ h H (Ey ca Wx) (exec cs cf (.asg (.nm i) e) env h) (CFl X.K B E)) :
    Pg X.K B φ h H (Ex ca Wx σ) (ev cs cf e env h) (CV X.K B fun x H1 => E.nx (σ.set i (some x)) H1) := by
  rw [exec] at P
  refine (Pg.bind P.toEx).mono fun φ1 h1 H1 w X1 S1 P1 v rv => ?_
  obtain ⟨e1, he, P2⟩ := Pg.optBind P1
  cases he
  exact Pg.okv S1 P2 _ ((R.ext X1).set rv)
theorem s_nm (G : Gb ci cs cf ca k X Wx) {i : Nat} {e : E} {x : Str} {px p : Pos} {a : Expr} (hi : X.N[i]? = some x) (hl : locB X.env.scope x = true) (hn : notSD a = true) (h : chkE ci X.env.scope X.N e a = true) : PS X (.Assign [.Name x px] a p) (tS X.K cs cf ca Wx (.asg (.nm i) e)) := by
  cases hsw : swC X.env.scope a x px with
  | false =>
    have hsw := swC_no (env := X.env) (l := p.line) rfl (by cases a <;> first | rfl | (cases hn)) hsw
    refine ps_of (ps_set G.nd hi (G.st x hl).1 (ok_E e a X Wx G.toGd h).e hsw (G.st x hl).2) fun E σ H ⟨B, φ, env, hh, S, R, P⟩ => ?_
    exact ⟨B, φ, env, hh, S, R, nm_post G S R P⟩
  | true =>
    -- a comprehension, stored at once
    cases a <;> first | (cases hsw; done) | skip
    rename_i elt gs scope pa
    simp only [swC, Bool.and_eq_true, Bool.not_eq_true', beq_iff_eq] at hsw
    obtain ⟨⟨w1, w2⟩, w3⟩ := hsw
    have key : ∀ (elt' : E) (tg : Tg) (own : List Nat) (it : I) (c : Eo), chkE ci X.env.scope X.N (.comp elt' tg own it c) (.ListComp elt gs scope pa) = true → (∀ (E : Ends) σ H, tS X.K cs cf ca Wx (.asg (.nm i) e) E σ H → ∃ (B : Addr → Prop) (φ : List Addr) (env : Ev) (h : Hs), RS X.K B φ h H ∧ RE X.K φ (Mu B φ h) H env σ ∧ Pg X.K B φ h H (Ex ca Wx σ) (ev cs cf (.comp elt' tg own it c) env h) (FP X.K B H fun x H1 => E.nx (σ.set i (some x)) H1)) →
        PS X (.Assign [.Name x px] (.ListComp elt gs scope pa) p) (tS X.K cs cf ca Wx (.asg (.nm i) e)) := by
      intro elt' tg own it c h g
      rw [chkE] at h
      split at h
      · rename_i y t ii ifs scope' eq
        obtain ⟨pp, eq⟩ := dComp_eq eq
        cases eq
        simp only [Bool.and_eq_true, decide_eq_true_eq, Bool.not_eq_true'] at h
        obtain ⟨⟨⟨⟨⟨⟨⟨h1, h2⟩, h3⟩, h4⟩, h5⟩, h6⟩, h7⟩, h8⟩ := h
        refine ps_of (ps_setLc (g := gT X.K tg) (tt := tCo X.K cs cf ca c) (te := tE X.K cs cf ca bot elt') G.calm G.nd hi w1 (sw_true G.kd w1 (by simpa using w2) w3) (ok_I it _ _ X Wx G.toGd h6) (blkOk_by h1) (fun s H C cl fp => ok_T (X := X.blk s H scope (compEnvC scope cl C X.env) fp) G.nd G.calm (fun x h => locB_rel (fun _ => rfl) h) tg t h4)
          (fun s H C cl fp => ok_C c ifs (X.blk s H scope (compEnvC scope cl C X.env) fp) (G.toGd.blk s H scope C cl fp) h8) (fun s H C cl fp => (ok_E elt' elt (X.blk s H scope (compEnvC scope cl C X.env) fp) bot (G.toGd.blk s H scope C cl fp) h7).e) (noset h5)) fun E σ H q => ?_
        obtain ⟨B, φ, env, hh, S, R, P⟩ := g E σ H q
        rw [h2]
        exact comp_then h3 S R P
      · cases h
    cases e <;> first
      | (rename_i elt' tg own it c
         exact key elt' tg own it c h fun E σ H ⟨B, φ, env, hh, S, R, P⟩ => ⟨B, φ, env, hh, S, R, fp_cv (σ := σ) rfl S (nm_post G S R P)⟩)
      | skip
    all_goals first
      | (rw [chkE] at h; simp only [dName, dConst, dBin, dNeg, dCmp, dChain, dAnd, dOr, dNot, dIf, dTup, dLst, dIx, dSl, dRev, dCall, dMeth, dMeth0, dMeth2, dDsp, dView, dOfZip, dDict, dDict1, dKw1, dCpy, dLrg, dSaid] at h; exact absurd h (by decide))
      | skip
    rename_i e
    have h0 := h
    rw [chkE, Bool.and_eq_true] at h
    cases e <;> first
      | (rename_i elt' tg own it c
         exact key elt' tg own it c h.2 fun E σ H ⟨B, φ, env, hh, S, R, P⟩ => ⟨B, φ, env, hh, S, R, fp_own (σ := σ) rfl S (nm_post G S R P)⟩)
      | skip
    all_goals first
      | (have h2 := h.2; rw [chkE] at h2; simp only [dName, dConst, dBin, dNeg, dCmp, dChain, dAnd, dOr, dNot, dIf, dTup, dLst, dIx, dSl, dRev, dCall, dMeth, dMeth0, dMeth2, dDsp, dView, dOfZip, dDict, dDict1, dKw1, dCpy, dLrg, dSaid] at h2; exact absurd h2 (by decide))
      | (exact absurd h.1 (by decide))
      | (exact absurd h.1 Bool.false_ne_true)
theorem sole_no {t a : Expr} {l : Nat} {env : Env} (h : notC a = true) : swapsWithSole [t] a l env = pure false := by
  unfold swapsWithSole
  exact notC_sw h
theorem chkT_nm {lk : Str → Bool} {N : List Str} {i : Nat} {a : Expr} (h : chkT lk N (.nm i) a = true) : ∃ x p, a = .Name x p ∧ N[i]? = some x ∧ lk x = true := by
  cases a <;> first | (rw [chkT] at h; first | (cases h; done) | skip) | skip
  case Name x p =>
    rw [Bool.and_eq_true] at h
    exact ⟨x, p, rfl, of_decide_eq_true h.1, h.2⟩
  all_goals (exact absurd h (by simp [chkT]))
/-! targets that are tuples -/
theorem s_tp (G : Gb ci cs cf ca k X Wx) {l : List Tg} {e : E} {ts : List Expr} {kt : Nat} {pt p : Pos} {a : Expr} (ht : chkTs (locB X.env.scope) X.N l ts = true) (h : chkE ci X.env.scope X.N e a = true) (hn : notC a = true) (hw : dTup a = none ∨ plainNames X.env.scope ts = true) :
    PS X (.Assign [.Tuple ts kt pt] a p) (tS X.K cs cf ca Wx (.asg (.tup l) e)) := by
  have hgT : PG X (.Tuple ts kt pt) (gT X.K (.tup l)) := ok_T G.nd G.calm G.st (.tup l) _ (by rw [chkT]; exact ht)
  -- a pair of objects: two names
  have hgP : PG X (.Tuple ts kt pt) (fun v σ H Q => ∃ i j x y q, l = [.nm i, .nm j] ∧ v = .ref q ∧ SqT X.K H q [x, y] ∧ Q ((σ.set i (some x)).set j (some y)) H) := by
    by_cases h2 : ∃ i j, l = [.nm i, .nm j]
    · obtain ⟨i, j, rfl⟩ := h2
      match ts, ht with
      | [], ht => simp [chkTs] at ht
      | [_], ht => simp [chkTs] at ht
      | _ :: _ :: _ :: _, ht => simp [chkTs] at ht
      | [u, v], ht =>
        simp only [chkTs, Bool.and_eq_true] at ht
        obtain ⟨x1, p1, rfl, h1, h2⟩ := chkT_nm ht.1
        obtain ⟨x2, p2, rfl, h3, h4⟩ := chkT_nm ht.2.1
        refine pg_of (pg_tup (n := 2) G.calm (pgs_cons (pg_name G.nd h1 (G.st _ h2).1 (G.st _ h2).2) (pgs_cons (pg_name G.nd h3 (G.st _ h4).1 (G.st _ h4).2) pgs_nil (by rfl)) (by rfl)) (by rfl) (by rfl)) fun v σ H Q q => ?_
        obtain ⟨i', j', x, y, q0, el, ev, hq, z⟩ := q
        cases el
        exact ⟨q0, [x, y], ev, hq, rfl, x, [y], rfl, y, [], rfl, rfl, z⟩
    · refine ⟨fun pins s σ H v u Q I r q => ?_⟩
      obtain ⟨i', j', x, y, q0, el, ev, hq, z⟩ := q
      exact absurd ⟨i', j', el⟩ h2
  have hg : PG X (.Tuple ts kt pt) (fun v σ H Q => gT X.K (.tup l) v σ H Q ∨ ∃ i j x y q, l = [.nm i, .nm j] ∧ v = .ref q ∧ SqT X.K H q [x, y] ∧ Q ((σ.set i (some x)).set j (some y)) H) :=
    ⟨fun pins s σ H v u Q I r q => q.elim (fun q => hgT.run pins s σ H v u Q I r q) fun q => hgP.run pins s σ H v u Q I r q⟩
  refine ps_of (ps_asg (ok_E e a X Wx G.toGd h).e hg (sole_no hn) (sw_none rfl hw) rfl) fun E σ H ⟨B, φ, env, hh, S, R, P⟩ => ?_
  rw [exec] at P
  refine se_then G.ws S R P fun φ1 h1 H1 w v X1 S1 R1 rv P1 => ?_
  obtain ⟨e1, he, P2⟩ := Pg.optBind P1
  cases w with
  | t d =>
    cases rv with
    | t rd => exact .inl ⟨B, φ1, env, e1, h1, d, S1, R1, rd, he, fun σ' R' _ => Pg.okv S1 P2 σ' R'⟩
  | ref _ => cases he
  | scr _ => cases he
  | pr u w =>
    cases rv with
    | pr s r1 r2 =>
      simp only [asgW] at he
      split at he
      · cases he
        exact .inr ⟨_, _, _, _, _, rfl, rfl, s, Pg.okv S1 P2 _ ((R1.set r1).set r2)⟩
      · cases he
theorem s_par (G : Gb ci cs cf ca k X Wx) {i j : Nat} {a b : E} {x y : Str} {px py pt pt2 p : Pos} {kt k2 : Nat} {u v : Expr} (hi : X.N[i]? = some x) (hj : X.N[j]? = some y) (hxy : x ≠ y) (lx : locL X.env.scope x = true) (ly : locL X.env.scope y = true) (hl : (py.line == px.line) = true) (hf : [u, v].all (foldedForSure 8) = false) (hc : [u, v].all (constantsAlone 8) = false)
    (ha : chkE ci X.env.scope X.N a u = true) (hb : chkE ci X.env.scope X.N b v = true) : PS X (.Assign [.Tuple [.Name x px, .Name y py] kt pt] (.Tuple [u, v] k2 pt2) p) (tS X.K cs cf ca Wx (.par i j a b)) := by
  have hij : i ≠ j := fun z => by rw [z, hj] at hi; exact hxy (Option.some.inj hi).symm
  have pa := chkE_plain ha
  have pb := chkE_plain hb
  refine ps_of (ps_par G.calm G.nd hi hj hij (locL_eq lx) (locL_eq ly) (pa_cons (ok_E a u X Wx G.toGd ha).e (pa_cons (ok_E b v X Wx G.toGd hb).e pa_nil (star_one pb)) (star_one pa)) (sw_par2 rfl G.kd lx ly hl hxy hf hc pa pb) rfl) fun E σ H ⟨B, φ, env, hh, S, R, P⟩ => ?_
  rw [exec] at P
  refine se_then G.ws S R P fun φ1 h1 H1 w1 v1 X1 S1 R1 r1 P1 => ?_
  refine se_then G.ws S1 R1 P1 fun φ2 h2 H2 w2 v2 X2 S2 R2 r2 P2 => ?_
  exact ⟨v1, v2, rfl, Pg.okv S2 P2 _ ((R2.set (r1.ext X2)).set r2)⟩
theorem s_par3 (G : Gb ci cs cf ca k X Wx) {i j l : Nat} {a b c : E} {x y z : Str} {px py pz pt pt2 p : Pos} {kt k2 : Nat} {u v w : Expr} (hi : X.N[i]? = some x) (hj : X.N[j]? = some y) (hll : X.N[l]? = some z) (hxy : x ≠ y) (hxz : x ≠ z) (hyz : y ≠ z) (lx : locL X.env.scope x = true) (ly : locL X.env.scope y = true) (lz : locL X.env.scope z = true)
    (hl : (py.line == px.line) = true) (hl2 : (pz.line == px.line) = true) (hf : [u, v, w].all (foldedForSure 8) = false) (hc : [u, v, w].all (constantsAlone 8) = false)
    (ha : chkE ci X.env.scope X.N a u = true) (hb : chkE ci X.env.scope X.N b v = true) (hcc : chkE ci X.env.scope X.N c w = true) : PS X (.Assign [.Tuple [.Name x px, .Name y py, .Name z pz] kt pt] (.Tuple [u, v, w] k2 pt2) p) (tS X.K cs cf ca Wx (.par3 i j l a b c)) := by
  have hij : i ≠ j := fun q => by rw [q, hj] at hi; exact hxy (Option.some.inj hi).symm
  have hil : i ≠ l := fun q => by rw [q, hll] at hi; exact hxz (Option.some.inj hi).symm
  have hjl : j ≠ l := fun q => by rw [q, hll] at hj; exact hyz (Option.some.inj hj).symm
  have pa := chkE_plain ha
  have pb := chkE_plain hb
  have pc := chkE_plain hcc
  refine ps_of (ps_par3 G.calm G.nd hi hj hll hij hil hjl (locL_eq lx) (locL_eq ly) (locL_eq lz) (pa_cons (ok_E a u X Wx G.toGd ha).e (pa_cons (ok_E b v X Wx G.toGd hb).e (pa_cons (ok_E c w X Wx G.toGd hcc).e pa_nil (star_one pc)) (star_one pb)) (star_one pa)) (sw_par3 rfl G.kd lx ly lz hl hl2 hxy hxz hyz hf hc pa pb pc) rfl) fun E σ H ⟨B, φ, env, hh, S, R, P⟩ => ?_
  rw [exec] at P
  refine se_then G.ws S R P fun φ1 h1 H1 w1 v1 X1 S1 R1 r1 P1 => ?_
  refine se_then G.ws S1 R1 P1 fun φ2 h2 H2 w2 v2 X2 S2 R2 r2 P2 => ?_
  refine se_then G.ws S2 R2 P2 fun φ3 h3 H3 w3 v3 X3 S3 R3 r3 P3 => ?_
  exact ⟨v1, v2, v3, rfl, Pg.okv S3 P3 _ (((R3.set (r1.ext (X2.trans X3))).set (r2.ext X3)).set r3)⟩
/-! o[i] = .. -/
theorem pset_or {t t' : TSet} (h : PSet X t) (h' : PSet X t') : PSet X (fun o i v H Q => t o i v H Q ∨ t' o i v H Q) := by
  intro pins s σ H o i v ov iv u Q I ro ri rv q
  rcases q with q | q
  · exact h pins s σ H o i v ov iv u Q I ro ri rv q
  · exact h' pins s σ H o i v ov iv u Q I ro ri rv q
/-- a live object is written: no tree changes -/
theorem kp_live {K : PySem.W.Frag} {B : Addr → Prop} {φ : List Addr} {h : Hs} {H : Hp} (S : RS K B φ h H) {j : Nat} {a : Addr} {u ob : Ob} {o : HO} (e : h[j]? = some u) (hu : u ≠ .dead) (ea : φ[j]? = some a) : Kp K (Mu B φ h) (Mu B φ (h.set j ob)) H (upd H a o) := by
  have l : Live φ h a := ⟨j, u, e, hu, ea⟩
  have less : ∀ b, Mu B φ (h.set j ob) b → Mu B φ h b := fun b z => by
    rcases z with z | ⟨i, w, h1, h2, h3⟩
    · exact .inl z
    · by_cases hj : j = i
      · subst hj
        rw [ea] at h3; cases h3
        exact .inr l
      · rw [List.getElem?_set_ne hj] at h1
        exact .inr ⟨i, w, h1, h2, h3⟩
  have na : ∀ {b : Addr}, ¬ Mu B φ h b → b ≠ a := fun n z => n (by rw [z]; exact .inr l)
  have kind : (∃ xs, H a = some (.lst xs)) ∨ ∃ l, H a = some (.dK l) := by
    have q := S.ob j u a e ea
    cases u with
    | dead => exact absurd rfl hu
    | lst xs => obtain ⟨vs, e, _⟩ := q; exact .inl ⟨vs, e⟩
    | dct xs => obtain ⟨vs, e, _⟩ := q; exact .inr ⟨vs, e⟩
  have nt : ∀ {b : Addr} {w : HO}, H b = some w → (∀ xs, w ≠ .lst xs) → (∀ xs, w ≠ .dK xs) → b ≠ a := fun q h1 h2 z => by
    rw [z] at q
    rcases kind with ⟨xs, q'⟩ | ⟨l, q'⟩ <;> rw [q] at q' <;> cases q'
    · exact h1 _ rfl
    · exact h2 _ rfl
  refine ⟨fun b vs q => ?_, fun b vs n q => ⟨fun z => n (less b z), by rw [upd_ne (na n)]; exact q⟩, fun b kv n q => ⟨fun z => n (less b z), ?_⟩⟩
  · rcases q with (q | ⟨w, q⟩) | q
    · exact .inl (.inl (by rw [upd_ne (nt q (fun _ z => nomatch z) (fun _ z => nomatch z))]; exact q))
    · exact .inl (.inr ⟨w, by rw [upd_ne (nt q (fun _ z => nomatch z) (fun _ z => nomatch z))]; exact q⟩)
    · exact .inr q
  · rcases q with q | ⟨w, q⟩
    · exact .inl (by rw [upd_ne (na n)]; exact q)
    · exact .inr ⟨w, by rw [upd_ne (na n)]; exact q⟩
/-- o[i] takes a value -/
theorem put_tail {w1 w2 w3 : W} {v1 v2 v3 : V} {B : Addr → Prop} {φ3 : List Addr} {h3 : Hs} {H3 : Hp} {α : Type} {f : Unit → Hs → Res α} {C : List Addr → Hs → Hp → α → Prop} {Q : Hp → Prop} (S3 : RS X.K B φ3 h3 H3) (r1 : RW X.K φ3 (Mu B φ3 h3) H3 w1 v1) (r2 : RW X.K φ3 (Mu B φ3 h3) H3 w2 v2) (r3 : RW X.K φ3 (Mu B φ3 h3) H3 w3 v3)
    (P3 : Pg X.K B φ3 h3 H3 (Ey ca Wx) ((putW w2 w3 w1 h3).bind f) C) (g : ∀ h5 H5, Ext φ3 h3 H3 φ3 h5 H5 → RS X.K B φ3 h5 H5 → Pg X.K B φ3 h5 H5 (Ey ca Wx) (f () h5) C → Q H5) : rSetL v2 v3 v1 H3 Q ∨ rSetD v2 v3 v1 H3 Q := by
  cases w2 with
  | t _ => exact P3.elim
  | pr _ _ => exact P3.elim
  | scr _ => exact P3.elim
  | ref j =>
    cases w3 with
    | ref _ => exact P3.elim
    | pr _ _ => exact P3.elim
    | scr _ => exact P3.elim
    | t d =>
      simp only [putW] at P3
      cases ef : w1.frz h3 with
      | none => rw [ef] at P3; exact P3.elim
      | some pr =>
        obtain ⟨yv, h4⟩ := pr
        rw [ef] at P3
        simp only at P3
        obtain ⟨S4, X4, rd⟩ := frz_ok S3 r1 ef
        cases r2 with
        | @ref _ b ea =>
          cases e2 : h4[j]? with
          | none => rw [e2] at P3; exact P3.elim
          | some ob =>
            rw [e2] at P3
            cases ob with
            | dead => exact P3.elim
            | lst xs =>
              simp only at P3
              cases d <;> first | exact P3.elim | skip
              rename_i n
              simp only at P3
              cases en : ixN xs.length n with
              | none => rw [en] at P3; exact P3.elim
              | some jj =>
                rw [en] at P3
                obtain ⟨us, q1, q2⟩ := S4.ob j _ b e2 ea
                cases r3 with
                | t r3 =>
                  cases r3
                  obtain ⟨S5, X5⟩ := S4.write (o := .lst (us.set jj v1)) (ob := .lst (xs.set jj yv)) e2 (fun z => nomatch z) ea (fun z => nomatch z) ⟨_, upd_same, (q2.set rd jj).kp (kp_live S4 e2 (fun z => nomatch z) ea)⟩
                  refine .inl ⟨b, us, n, jj, rfl, rfl, q1, by rw [← q2.len]; exact en, ?_⟩
                  exact g _ _ (X4.trans X5) S5 (Pg.rebase (X4.trans X5) P3)
            | dct l =>
              simp only at P3
              cases ek : keyOf d with
              | none => rw [ek] at P3; exact P3.elim
              | some q =>
                rw [ek] at P3
                simp only at P3
                by_cases hz : l.length < lim
                · rw [if_pos hz] at P3
                  obtain ⟨kv, q1, q2⟩ := S4.ob j _ b e2 ea
                  cases r3 with
                  | t r3 =>
                    have ev := keyOf_v r3.rp ek
                    subst ev
                    obtain ⟨S5, X5⟩ := S4.write (o := .dK (L2.putK kv q v1)) (ob := .dct (putKD l q yv)) e2 (fun z => nomatch z) ea (fun z => nomatch z) ⟨_, upd_same, (RKv.put rd q2).kp (kp_live S4 e2 (fun z => nomatch z) ea)⟩
                    refine .inr ⟨b, _, rfl, DPut.k q1 (by rw [← RKv.len q2, sizeLine_eq]; unfold lim at hz; omega), ?_⟩
                    exact g _ _ (X4.trans X5) S5 (Pg.rebase (X4.trans X5) P3)
                · rw [if_neg hz] at P3; exact P3.elim
theorem s_put (G : Gb ci cs cf ca k X Wx) {o i e : E} {y z a : Expr} {p p2 : Pos} (ho : chkE ci X.env.scope X.N o y = true) (hi : chkE ci X.env.scope X.N i z = true) (he : chkE ci X.env.scope X.N e a = true) (hn : notC a = true) :
    PS X (.Assign [.Subscript y z p2] a p) (tS X.K cs cf ca Wx (.put o i e)) := by
  have pz := chkE_plain hi
  have hu : X.A.units + 1 < cLine := Nat.lt_trans (Nat.add_lt_add_left (show 1 < 150 by decide) _) G.un
  refine ps_of (ps_asg (ok_E e a X Wx G.toGd he).e (pg_sub (ok_E o y X Wx G.toGd ho).e (ok_E i z X Wx G.toGd hi).e (pset_or set_list (set_dict hu)) (by cases z <;> first | (intro _; rfl) | (exact (pz.2.1 _ _ _ _ rfl).elim))) (sole_no hn) (by cases a <;> rfl) rfl) fun E σ H ⟨B, φ, env, hh, S, R, P⟩ => ?_
  rw [exec] at P
  refine se_then G.ws S R P fun φ1 h1 H1 w1 v1 X1 S1 R1 r1 P1 => ?_
  refine se_then G.ws S1 R1 P1 fun φ2 h2 H2 w2 v2 X2 S2 R2 r2 P2 => ?_
  refine se_then G.ws S2 R2 P2 fun φ3 h3 H3 w3 v3 X3 S3 R3 r3 P3 => ?_
  exact put_tail S3 (r1.ext (X2.trans X3)) (r2.ext X3) r3 P3 fun h5 H5 X5 S5 P5 => Pg.okv S5 P5 σ (R3.ext X5)
/-! o[i], x = a, b -/
theorem dP2_eq {ts : List Expr} {o i : Expr} {x : Str} (h : dP2 ts = some (o, i, x)) : ∃ p2 px, ts = [.Subscript o i p2, .Name x px] := by
  unfold dP2 at h
  split at h
  · cases h; exact ⟨_, _, rfl⟩
  · cases h
theorem two_eq {w : W} {x y : D} (h : two w = some (x, y)) : w = .t (.tuple [x, y]) := by
  unfold two at h
  split at h
  · cases h; rfl
  · cases h
theorem s_put2 (G : Gb ci cs cf ca k X Wx) {o i a b : E} {j : Nat} {y z v : Expr} {x : Str} {p px p2 pt : Pos} {kt : Nat} (hj : X.N[j]? = some x) (hl : locB X.env.scope x = true) (ho : chkE ci X.env.scope X.N o y = true) (hi : chkE ci X.env.scope X.N i z = true) (he : chkE ci X.env.scope X.N (.tup (.cons a (.cons b .nil))) v = true) (hn : notC v = true) (hw : plainNames X.env.scope [.Subscript y z p2, .Name x px] = true) :
    PS X (.Assign [.Tuple [.Subscript y z p2, .Name x px] kt pt] v p) (tS X.K cs cf ca Wx (.put2 o i j a b)) := by
  have pz := chkE_plain hi
  have hu : X.A.units + 1 < cLine := Nat.lt_trans (Nat.add_lt_add_left (show 1 < 150 by decide) _) G.un
  have gs : PG X (.Subscript y z p2) (gSub (tE X.K cs cf ca Wx o) (tE X.K cs cf ca Wx i) (fun o i v H Q => rSetL o i v H Q ∨ rSetD o i v H Q)) := pg_sub (ok_E o y X Wx G.toGd ho).e (ok_E i z X Wx G.toGd hi).e (pset_or set_list (set_dict hu)) (by cases z <;> first | (intro _; rfl) | (exact (pz.2.1 _ _ _ _ rfl).elim))
  refine ps_of (ps_asg (ok_E _ v X Wx G.toGd he).e (pg_tup (n := 2) G.calm (pgs_cons gs (pgs_cons (pg_name G.nd hj (G.st _ hl).1 (G.st _ hl).2) pgs_nil (by rfl)) (by rfl)) (by rfl) (by rfl)) (sole_no hn) (sw_none rfl (.inr hw)) rfl) fun E σ H ⟨B, φ, env, hh, S, R, P⟩ => ?_
  rw [exec] at P
  refine se_then G.ws S R P fun φ1 h1 H1 w v X1 S1 R1 rv P1 => ?_
  obtain ⟨⟨dx, dy⟩, ew, P1⟩ := Pg.optBind P1
  obtain rfl := two_eq ew
  cases rv with
  | t rv =>
    cases rv with
    | @tup q vs _ hq rs =>
      cases rs with
      | @cons _ vx _ _ r1 rs =>
        cases rs with
        | @cons _ vy _ _ r2 rs =>
          cases rs
          refine ⟨q, _, rfl, hq, rfl, vx, [vy], rfl, ?_⟩
          refine se_then G.ws S1 R1 P1 fun φ2 h2 H2 w2 v2 X2 S2 R2 q2 P2 => ?_
          refine se_then G.ws S2 R2 P2 fun φ3 h3 H3 w3 v3 X3 S3 R3 q3 P3 => ?_
          refine put_tail (w1 := .t dx) S3 ((RW.t r1 : RW X.K φ1 (Mu B φ1 h1) H1 (.t dx) vx).ext (X2.trans X3)) (q2.ext X3) q3 P3 fun h5 H5 X5 S5 P5 => ?_
          exact ⟨vy, [], rfl, rfl, Pg.okv S5 P5 _ ((R3.ext X5).set ((RW.t r2 : RW X.K φ1 (Mu B φ1 h1) H1 (.t dy) vy).ext ((X2.trans X3).trans X5)))⟩
end
end MF

set_option Elab.async false
set_option linter.all false
set_option maxRecDepth 100000
set_option maxHeartbeats 8000000
/-! blocks, loops -/
namespace MF
open PySem PySem.Spec PyProof.Rows L2 MZ
variable [LTab]

section
variable {ci : CI} {cs : List D} {cf : CF} {ca : Nat → Addr} {k : Nat} {X : Cx} {Wx : WX}
theorem ss_nil : PSs X [] (tSs X.K cs cf ca Wx .nil) := pss_of pss_nil fun E σ H ⟨B, φ, env, h, S, R, P⟩ => Pg.okv S P σ R
theorem ss_cons {s : S} {r : Ss} {st : Stmt} {sts : List Stmt} (h1 : PS X st (tS X.K cs cf ca Wx s)) (h2 : PSs X sts (tSs X.K cs cf ca Wx r)) : PSs X (st :: sts) (tSs X.K cs cf ca Wx (.cons s r)) := by
  refine pss_of (pss_cons h1 h2) fun E σ H ⟨B, φ, env, h, S, R, P⟩ => ?_
  rw [execs] at P
  refine ⟨B, φ, env, h, S, R, (Pg.bind P).mono fun φ1 h1 H1 l X1 S1 P1 => ?_⟩
  cases l with
  | nx e => exact fun σ1 R1 => ⟨B, φ1, e, h1, S1, R1, P1⟩
  | rt w => exact fun v rv => Pg.okv S1 P1 v rv
  | bk e => exact fun σ1 R1 => Pg.okv S1 P1 σ1 R1
  | ct e => exact fun σ1 R1 => Pg.okv S1 P1 σ1 R1
theorem RE.setW {K : PySem.W.Frag} {φ : List Addr} {M : Addr → Prop} {H : Hp} {env : Ev} {σ : L2.St} (r : RE K φ M H env σ) {i : Nat} {w : MF.W} {v : V} (e : σ[i]? = some (some v)) (q : RW K φ M H w v) : RE K φ M H (env.set i (some w)) σ := by
  refine ⟨by rw [List.length_set]; exact r.1, fun j u ej => ?_⟩
  by_cases hj : i = j
  · subst hj
    by_cases hl : i < env.length
    · rw [List.getElem?_set_self hl] at ej
      cases ej
      exact ⟨v, e, q⟩
    · rw [List.getElem?_eq_none (by rw [List.length_set]; omega)] at ej; cases ej
  · rw [List.getElem?_set_ne hj] at ej
    exact r.2 j u ej
theorem ss_frz {i : Nat} {r : Ss} {sts : List Stmt} (h2 : PSs X sts (tSs X.K cs cf ca Wx r)) : PSs X sts (tSs X.K cs cf ca Wx (.cons (.frz i) r)) := by
  refine pss_of h2 fun E σ H ⟨B, φ, env, h, S, R, P⟩ => ?_
  rw [execs, exec] at P
  cases e : env[i]? with
  | none => rw [e] at P; exact P.elim
  | some o =>
    cases o with
    | none => rw [e] at P; exact P.elim
    | some w =>
      rw [e] at P
      obtain ⟨v, h1, h2⟩ := R.2 i w e
      cases ef : w.frz h with
      | none => simp only [ef] at P; exact P.elim
      | some p =>
        obtain ⟨d, h'⟩ := p
        simp only [ef] at P
        obtain ⟨S2, X2, rd⟩ := frz_ok S h2 ef
        exact ⟨B, φ, env.set i (some (.t d)), h', S2, (R.ext X2).setW h1 (.t rd), Pg.rebase X2 P⟩
theorem s_ite {c : E} {a b : Ss} {x : Expr} {y z : List Stmt} {p : Pos} (hw : ∀ c d σ σ' H, Wx c d σ H → Wx c d σ' H) (hc : PT X x (tT X.K cs cf ca Wx c)) (ha : PSs X y (tSs X.K cs cf ca Wx a)) (hb : PSs X z (tSs X.K cs cf ca Wx b)) : PS X (.If x y z p) (tS X.K cs cf ca Wx (.ite c a b)) := by
  refine ps_of (ps_if hc ha hb) fun E σ H ⟨B, φ, env, h, S, R, P⟩ => ?_
  rw [exec] at P
  refine t_then S R P.toEx fun φ1 h1 H1 r X1 S1 R1 P1 => ?_
  cases r with
  | true => exact ⟨B, φ1, env, h1, S1, R1, P1.toEy hw⟩
  | false => exact ⟨B, φ1, env, h1, S1, R1, P1.toEy hw⟩
theorem s_ret {e : E} {x : Expr} {p : Pos} (hw : ∀ c d σ σ' H, Wx c d σ H → Wx c d σ' H) (he : PE X x (tE X.K cs cf ca Wx e)) : PS X (.Return (some x) p) (tS X.K cs cf ca Wx (.ret e)) := by
  refine ps_of (ps_ret he) fun E σ H ⟨B, φ, env, h, S, R, P⟩ => ?_
  rw [exec] at P
  exact se_then hw S R P fun φ1 h1 H1 w v X1 S1 R1 rv P1 => Pg.okv S1 P1 v rv
theorem s_retN {p : Pos} : PS X (.Return none p) (tS X.K cs cf ca Wx .retN) := ps_of ps_retN fun E σ H ⟨B, φ, env, h, S, R, P⟩ => Pg.okv S P _ (.t .non)
theorem s_pas {p : Pos} : PS X (.Pass p) (tS X.K cs cf ca Wx .pas) := ps_of ps_pass fun E σ H ⟨B, φ, env, h, S, R, P⟩ => Pg.okv S P σ R
theorem s_brk {p : Pos} : PS X (.Break p) (tS X.K cs cf ca Wx .brk) := ps_of ps_break fun E σ H ⟨B, φ, env, h, S, R, P⟩ => Pg.okv S P σ R
theorem s_cnt {p : Pos} : PS X (.Continue p) (tS X.K cs cf ca Wx .cnt) := ps_of ps_continue fun E σ H ⟨B, φ, env, h, S, R, P⟩ => Pg.okv S P σ R
theorem s_for (G : Gb ci cs cf ca k X Wx) {t : Tg} {it : I} {b : Ss} {x i : Expr} {y : List Stmt} {p : Pos} (hset : ∀ v, foldedSetIterable i X.env v = pure v) (hi : PI X x i (tI X.K cs cf ca Wx it)) (hg : PG X x (gT X.K t)) (hb : PSs X y (tSs X.K cs cf ca Wx b)) : PS X (.For x i y [] p) (tS X.K cs cf ca Wx (.for_ t it b)) := by
  refine ps_of (ps_for G.po G.calm hi hg hb hset) fun E σ H ⟨B, φ, env, h, S, R, P⟩ => ?_
  rw [exec] at P
  refine ⟨B, φ, env, h, S, R, Pg.monoE (Pg.bind P.toEx) (fun _ _ e => e) fun φ1 h1 H1 xs eqI X1 S1 P1 hz J src => ?_⟩
  have P1 := P1.toEy G.ws
  generalize hF : (fun x e h => (Res.opt (asgT t x e) h).bind fun e1 h2 => execs cs cf b e1 h2) = F at P1
  let W : Nat → Nat → L2.St → Hp → Prop := fun i m σ Hc => m = xs.length - i ∧ i ≤ xs.length ∧ ∃ (φ' : List Addr) (h' : Hs) (e : Ev), Ext φ1 h1 H1 φ' h' Hc ∧ RS X.K B φ' h' Hc ∧ RE X.K φ' (Mu B φ' h') Hc e σ ∧ Pg X.K B φ' h' Hc (Ey ca Wx) (forL F (xs.drop i) e h') (CFl X.K B E)
  refine ⟨W, ⟨xs.length, by simp, Nat.zero_le _, φ1, h1, env, Ext.refl, S1, R.ext X1, by rw [List.drop_zero]; exact P1⟩, ?_⟩
  rintro i m σ' Hc ⟨hm, hi, φ', h', e, X2, S2, R2, P2⟩
  have sr := src B φ' h' Hc (fun a z => .inl z) X2 S2 i
  by_cases hlt : i < xs.length
  · obtain ⟨go, yl⟩ := sr.1 hlt
    refine .inr ⟨go, W (i + 1) (xs.length - (i + 1)), fun σ' H' w => ⟨_, by omega, w⟩, fun x H2 hy => ?_⟩
    obtain ⟨d, hd, hH, rdx⟩ := yl x H2 hy
    obtain ⟨X3, S3⟩ : Ext φ' h' Hc φ' h' H2 ∧ RS X.K B φ' h' H2 := by
      rcases hH with rfl | ⟨p, o, hp, rfl⟩ | ⟨p, q', o, u, hp, hq, nq, rfl⟩
      · exact ⟨Ext.refl, S2⟩
      · exact ⟨Ext.fresh hp, S2.fresh hp⟩
      · have hq2 : upd Hc p o q' = none := by rw [upd_ne nq]; exact hq
        exact ⟨(Ext.fresh hp).trans (Ext.fresh hq2), (S2.fresh hp).fresh hq2⟩
    have hdrop : xs.drop i = d :: xs.drop (i + 1) := by
      obtain ⟨hi', e⟩ := List.getElem?_eq_some_iff.mp hd
      rw [List.drop_eq_getElem_cons hi', e]
    rw [hdrop, forL, ← hF] at P2
    simp only [bind_assoc] at P2
    obtain ⟨e1, he, P3⟩ := Pg.optBind P2
    rw [hF] at P3
    refine ⟨B, φ', e, e1, h', d, S3, R2.ext X3, rdx, he, fun σ2 R3 _ => ⟨B, φ', e1, h', S3, R3, (Pg.bind (P3.rebase X3)).mono fun φ4 h4 H4 l X4 S4 P4 => ?_⟩⟩
    have X14 := (X2.trans X3).trans X4
    cases l with
    | nx e2 => exact fun σ3 R4 => ⟨rfl, by omega, φ4, h4, e2, X14, S4, R4, P4⟩
    | ct e2 => exact fun σ3 R4 => ⟨rfl, by omega, φ4, h4, e2, X14, S4, R4, P4⟩
    | bk e2 => exact fun σ3 R4 => Pg.okv S4 P4 σ3 R4
    | rt w => exact fun v rv => Pg.okv S4 P4 v rv
  · have hi2 : i = xs.length := by omega
    refine .inl ⟨sr.2 hi2, ?_⟩
    rw [hi2, List.drop_length, forL] at P2
    exact Pg.okv S2 P2 σ' R2
/-! every checked statement -/
theorem d2_eq {ts : List Expr} {v p q : Expr} {x y : Str} (h : d2 ts v = some (x, y, p, q)) : ∃ px py k2 pt2, ts = [.Name x px, .Name y py] ∧ v = .Tuple [p, q] k2 pt2 ∧ (py.line == px.line) = true ∧ [p, q].all (foldedForSure 8) = false ∧ [p, q].all (constantsAlone 8) = false := by
  unfold d2 at h
  split at h
  · split at h
    · rename_i hc
      cases h
      exact ⟨_, _, _, _, rfl, rfl, hc.1, hc.2.1, hc.2.2⟩
    · cases h
  · cases h
theorem d3_eq {ts : List Expr} {v p q r : Expr} {x y z : Str} (h : d3 ts v = some (x, y, z, p, q, r)) : ∃ px py pz k2 pt2, ts = [.Name x px, .Name y py, .Name z pz] ∧ v = .Tuple [p, q, r] k2 pt2 ∧ (py.line == px.line) = true ∧ (pz.line == px.line) = true ∧ [p, q, r].all (foldedForSure 8) = false ∧ [p, q, r].all (constantsAlone 8) = false := by
  unfold d3 at h
  split at h
  · split at h
    · rename_i hc
      cases h
      exact ⟨_, _, _, _, _, rfl, rfl, hc.1, hc.2.1, hc.2.2.1, hc.2.2.2⟩
    · cases h
  · cases h
theorem dS_ex {st : Stmt} {a : Expr} (h : dS st = some (.ex a)) : ∃ p, st = .Expr a p := by unfold dS at h; split at h <;> cases h; exact ⟨_, rfl⟩
theorem dS_nm {st : Stmt} {x : Str} {px : Pos} {a : Expr} (h : dS st = some (.nm x px a)) : ∃ p, st = .Assign [.Name x px] a p := by unfold dS at h; split at h <;> cases h; exact ⟨_, rfl⟩
theorem dS_tp {st : Stmt} {ts : List Expr} {a : Expr} (h : dS st = some (.tp ts a)) : ∃ kt pt p, st = .Assign [.Tuple ts kt pt] a p := by unfold dS at h; split at h <;> cases h; exact ⟨_, _, _, rfl⟩
theorem dS_put {st : Stmt} {o i a : Expr} (h : dS st = some (.put o i a)) : ∃ p2 p, st = .Assign [.Subscript o i p2] a p := by unfold dS at h; split at h <;> cases h; exact ⟨_, _, rfl⟩
theorem dS_ite {st : Stmt} {c : Expr} {a b : List Stmt} (h : dS st = some (.ite c a b)) : ∃ p, st = .If c a b p := by unfold dS at h; split at h <;> cases h; exact ⟨_, rfl⟩
theorem dS_fr {st : Stmt} {t i : Expr} {b : List Stmt} (h : dS st = some (.fr t i b)) : ∃ p, st = .For t i b [] p := by unfold dS at h; split at h <;> cases h; exact ⟨_, rfl⟩
theorem dS_ret {st : Stmt} {a : Expr} (h : dS st = some (.ret a)) : ∃ p, st = .Return (some a) p := by unfold dS at h; split at h <;> cases h; exact ⟨_, rfl⟩
theorem dS_retN {st : Stmt} (h : dS st = some .retN) : ∃ p, st = .Return none p := by unfold dS at h; split at h <;> cases h; exact ⟨_, rfl⟩
theorem dS_pas {st : Stmt} (h : dS st = some .pas) : ∃ p, st = .Pass p := by unfold dS at h; split at h <;> cases h; exact ⟨_, rfl⟩
theorem dS_brk {st : Stmt} (h : dS st = some .brk) : ∃ p, st = .Break p := by unfold dS at h; split at h <;> cases h; exact ⟨_, rfl⟩
theorem dS_cnt {st : Stmt} (h : dS st = some .cnt) : ∃ p, st = .Continue p := by unfold dS at h; split at h <;> cases h; exact ⟨_, rfl⟩
end
section
variable {ci : CI} {cs : List D} {cf : CF} {ca : Nat → Addr} {k : Nat} {X : Cx} {Wx : WX}
theorem s_raise (G : Gb ci cs cf ca k X Wx) {c : Nat} {x m : Str} {j : Nat} {p p2 p3 p4 : Pos} (hl : ci.lam = true) (hc : c ∈ ci.cl) (hx : clsN.getD c "" = x) (hg : glB X.env.scope x = true) (hk : okNm x = true) : PS X (.Raise (some (.Call (.Name x p) [.Constant (.str m) j p2] [] p3)) none p4) (tS X.K cs cf ca Wx (.raise c)) := by
  have C := (G.xf hl).md.cls c hc
  rw [hx] at C
  obtain ⟨n1, n2, n3⟩ := okNm_nm hk
  refine ps_of (ps_raise G.calm G.tk (pmk_own PySem.F.excBase_ValueError C.e C.g C.k (raises_own C.s C.t) (glB_gl hg) n1)) fun E σ H ⟨B, φ, env, h, S, R, P⟩ => ?_
  rw [exec] at P
  exact P φ H Ext.refl S σ
mutual
theorem ok_S (G : Gb ci cs cf ca k X Wx) : ∀ (s : S) (st : Stmt), chkS ci X.env.scope X.N s st = true → PS X st (tS X.K cs cf ca Wx s)
  | .ex e, st, h => by
    rw [chkS] at h
    split at h
    · rename_i a e'
      obtain ⟨p, rfl⟩ := dS_ex e'
      rw [Bool.and_eq_true] at h
      exact s_ex G h.1 h.2
    · cases h
  | .asg (.nm i) e, st, h => by
    rw [chkS] at h
    split at h
    · rename_i x px a e'
      obtain ⟨p, rfl⟩ := dS_nm e'
      simp only [Bool.and_eq_true, decide_eq_true_eq] at h
      exact s_nm G h.1.1.1 h.1.1.2 h.2 h.1.2
    · cases h
  | .asg (.tup l) e, st, h => by
    rw [chkS] at h
    split at h
    · rename_i ts a e'
      obtain ⟨kt, pt, p, rfl⟩ := dS_tp e'
      simp only [Bool.and_eq_true] at h
      obtain ⟨⟨⟨h1, h2⟩, h3⟩, h4⟩ := h
      refine s_tp G h1 h2 h3 ?_
      split at h4
      · rename_i e0; exact .inl e0
      · exact .inr h4
    · cases h
  | .par i j a b, st, h => by
    rw [chkS] at h
    split at h
    · rename_i ts v e'
      obtain ⟨kt, pt, p, rfl⟩ := dS_tp e'
      split at h
      · rename_i x y u w e2
        obtain ⟨px, py, k2, pt2, rfl, rfl, c1, c2, c3⟩ := d2_eq e2
        simp only [Bool.and_eq_true, decide_eq_true_eq] at h
        obtain ⟨⟨⟨⟨⟨⟨h1, h2⟩, h3⟩, h4⟩, h5⟩, h6⟩, h7⟩ := h
        exact s_par G h1 h2 h3 h4 h5 c1 c2 c3 h6 h7
      · cases h
    · cases h
  | .par3 i j l a b c, st, h => by
    rw [chkS] at h
    split at h
    · rename_i ts v e'
      obtain ⟨kt, pt, p, rfl⟩ := dS_tp e'
      split at h
      · rename_i x y z u w r e2
        obtain ⟨px, py, pz, k2, pt2, rfl, rfl, c1, c2, c3, c4⟩ := d3_eq e2
        simp only [Bool.and_eq_true, decide_eq_true_eq] at h
        obtain ⟨⟨⟨⟨⟨⟨⟨⟨⟨⟨⟨h1, h2⟩, h3⟩, h4⟩, h5⟩, h6⟩, h7⟩, h8⟩, h9⟩, ha⟩, hb⟩, hc⟩ := h
        exact s_par3 G h1 h2 h3 h4 h5 h6 h7 h8 h9 c1 c2 c3 c4 ha hb hc
      · cases h
    · cases h
  | .put o i e, st, h => by
    rw [chkS] at h
    split at h
    · rename_i y z a e'
      obtain ⟨p2, p, rfl⟩ := dS_put e'
      simp only [Bool.and_eq_true] at h
      exact s_put G h.1.1.1 h.1.1.2 h.1.2 h.2
    · cases h
  | .put2 o i j a b, st, h => by
    rw [chkS] at h
    split at h
    · rename_i ts v e'
      obtain ⟨kt, pt, p, rfl⟩ := dS_tp e'
      split at h
      · rename_i y z x e2
        obtain ⟨p2, px, rfl⟩ := dP2_eq e2
        simp only [Bool.and_eq_true, decide_eq_true_eq] at h
        obtain ⟨⟨⟨⟨⟨⟨h1, h2⟩, h3⟩, h4⟩, h5⟩, h6⟩, h7⟩ := h
        exact s_put2 G h1 h2 h3 h4 h5 h6 h7
      · cases h
    · cases h
  | .ite c a b, st, h => by
    rw [chkS] at h
    split at h
    · rename_i x y z e'
      obtain ⟨p, rfl⟩ := dS_ite e'
      simp only [Bool.and_eq_true] at h
      exact s_ite G.ws (ok_E c x X Wx G.toGd h.1.1).t (ok_Ss G a y h.1.2) (ok_Ss G b z h.2)
    · cases h
  | .for_ t it b, st, h => by
    rw [chkS] at h
    split at h
    · rename_i x i y e'
      obtain ⟨p, rfl⟩ := dS_fr e'
      simp only [Bool.and_eq_true, Bool.not_eq_true'] at h
      obtain ⟨⟨⟨h1, h2⟩, h3⟩, h4⟩ := h
      exact s_for G (noset h2) (ok_I it i x X Wx G.toGd h3) (ok_T G.nd G.calm G.st t x h1) (ok_Ss G b y h4)
    · cases h
  | .ret e, st, h => by
    rw [chkS] at h
    split at h
    · rename_i a e'
      obtain ⟨p, rfl⟩ := dS_ret e'
      exact s_ret G.ws (ok_E e a X Wx G.toGd h).e
    · cases h
  | .retN, st, h => by
    rw [chkS] at h
    split at h
    · rename_i e'
      obtain ⟨p, rfl⟩ := dS_retN e'
      exact s_retN
    · cases h
  | .pas, st, h => by
    rw [chkS] at h
    split at h
    · rename_i e'
      obtain ⟨p, rfl⟩ := dS_pas e'
      exact s_pas
    · cases h
  | .brk, st, h => by
    rw [chkS] at h
    split at h
    · rename_i e'
      obtain ⟨p, rfl⟩ := dS_brk e'
      exact s_brk
    · cases h
  | .cnt, st, h => by
    rw [chkS] at h
    split at h
    · rename_i e'
      obtain ⟨p, rfl⟩ := dS_cnt e'
      exact s_cnt
    · cases h
  | .frz _, st, h => by rw [chkS] at h; cases h
  | .told _ _, st, h => by rw [chkS] at h; cases h
  | .raise c, st, h => by
    rw [chkS] at h
    split at h
    · rename_i x e'
      obtain ⟨p, m, j, p2, p3, p4, rfl⟩ := dRs_eq e'
      simp only [Bool.and_eq_true, decide_eq_true_eq] at h
      obtain ⟨⟨⟨⟨⟨h1, h2⟩, h0⟩, h3⟩, h4⟩, h5⟩ := h
      exact s_raise G h1 (by simpa using h0) h3 h4 h5
    · cases h
  | .die, st, h => ps_of ps_never fun E σ H ⟨B, φ, env, h, S, R, P⟩ => P
theorem ok_Ss (G : Gb ci cs cf ca k X Wx) : ∀ (s : Ss) (sts : List Stmt), chkSs ci X.env.scope X.N s sts = true → PSs X sts (tSs X.K cs cf ca Wx s)
  | .nil, sts, h => by
    rw [chkSs] at h
    cases sts with
    | nil => exact ss_nil
    | cons _ _ => cases h
  | .cons s r, sts, h => by
    rw [chkSs] at h
    split at h
    · rename_i hf
      have ih := ok_Ss G r sts h
      cases s <;> first | (cases hf; done) | skip
      exact ss_frz ih
    · cases sts with
      | nil => cases h
      | cons st sts' =>
        simp only [headS, Bool.and_eq_true] at h
        exact ss_cons (ok_S G s st h.1) (ok_Ss G r sts' h.2)
end
end
end MF

set_option Elab.async false
set_option linter.all false
set_option maxRecDepth 100000
set_option maxHeartbeats 8000000
/-! defs -/
namespace MF
open PySem PySem.Spec PyProof.Rows L2 MZ
variable [LTab]

def isFree : NameKind → Bool
  | .free => true
  | _ => false
def scB (N ps : List Str) (sc : Scope) : Bool := (match sc.kind with | .function => true | _ => false) && !sc.isCoroutine && !sc.isGenerator && decide N.Nodup && decide (N.take ps.length = ps) && ps.all (locB sc) && sc.names.all fun y => !isFree y.2
theorem scB_ok {N ps : List Str} {sc : Scope} (h : scB N ps sc = true) : FnScope N ps sc := by
  unfold scB at h
  simp only [Bool.and_eq_true, Bool.not_eq_true', decide_eq_true_eq, List.all_eq_true] at h
  obtain ⟨⟨⟨⟨⟨⟨h1, h2⟩, h3⟩, h4⟩, h5⟩, h6⟩, h7⟩ := h
  refine ⟨?_, h2, h3, h4, h5, fun x hx => locB_loc (h6 x hx), fun y hy e => ?_⟩
  · split at h1
    · assumption
    · cases h1
  · have := h7 y hy
    rw [e] at this
    cases this
/-- what is checked at the def r -/
def ciR (ci : CI) (r : DR) : CI := ⟨ci.fns, ci.cons, ci.cl, r.lam⟩
def okDR (ci : CI) (r : DR) : Bool := scB r.N r.ps (defScope r.st) && decide (r.fd.np = r.ps.length) && decide (r.fd.nn = r.N.length) && chkSs (ciR ci r) (defScope r.st) r.N r.fd.body (defBody r.st)
section
variable {ci : CI} {cs : List D} {ca : Nat → Addr} {P : Program} {w : World} {K : PySem.W.Frag} {mg : Str → Option Value} {base : Heap} {ds : List DR}
/-- what stands of the module at a ground -/
structure Gm (ci : CI) (cs : List D) (ca : Nat → Addr) (ds : List DR) (K : PySem.W.Frag) (mg : Str → Option Value) (base : Heap) : Prop where
  nm : ci.fns = ds.map (·.name)
  ok : ∀ r ∈ ds, okDR ci r = true
  fn : ∀ (i : Nat) (r : DR), ds[i]? = some r → ∃ (f : Addr) (fd : FuncData), mg r.name = some (.ref f) ∧ FunD K r.name r.name (defArgs r.st) (defBody r.st) (defScope r.st) [] [] f fd ∧ Binds K fd r.ps []
  md : ∃ o, base.get? sysModules = some o
  blt : ∀ x ∈ (["len", "sum", "all", "any", "max", "min", "int", "str", "abs", "repr", "tuple", "list", "divmod", "sorted", "dict", "isinstance", "range", "enumerate", "zip", "reversed", "bool", "set"] : List Str), mg x = none
  con : ∀ (j : Nat) (x : Str) (d : D), ci.cons[j]? = some x → cs[j]? = some d → ∃ (u : Value) (v : V), mg x = some u ∧ RelV v u ∧ ∀ M H, RD K M H d v
  xm : ci.lam = true → SaidM K mg ca ci.cl
  xt : ci.lam = true → ∀ r ∈ ds, r.lam = true → ∀ (f : Addr) (fd : FuncData), mg r.name = some (.ref f) → FunD K r.name r.name (defArgs r.st) (defBody r.st) (defScope r.st) [] [] f fd →
    ∃ c P, fd.code = .ref c ∧ LamX.TabB base mg c P ∧ (P, r.name ++ ".<locals>." ++ "<lambda>") ∈ LTab.l ∧ ∀ z ∈ LTab.l, z.1 = P → z.2 = r.name ++ ".<locals>." ++ "<lambda>"
abbrev Pr (ds : List DR) : List Fd := ds.map (·.fd)
/-- behind the defs: what is told of a call of each -/
def tells (cl : List Nat) : Nat → List DR → List Fd
  | _, [] => []
  | g, r :: rs => ⟨r.fd.np, r.fd.np, .cons (.told g cl) .nil, false⟩ :: tells cl (g + 1) rs
def Prs (cl : List Nat) (ds : List DR) : List Fd := if cl.isEmpty then Pr ds else Pr ds ++ tells cl 0 ds
theorem tells_at {cl : List Nat} {r : DR} : ∀ {ds : List DR} {g0 g : Nat}, ds[g]? = some r → (tells cl g0 ds)[g]? = some ⟨r.fd.np, r.fd.np, .cons (.told (g0 + g) cl) .nil, false⟩
  | [], _, _, e => by simp at e
  | q :: ds, g0, 0, e => by
    have e : q = r := by simpa using e
    subst e
    rfl
  | q :: ds, g0, g + 1, e => by
    have := tells_at (cl := cl) (g0 := g0 + 1) (show ds[g]? = some r by simpa using e)
    rw [show tells cl g0 (q :: ds) = ⟨q.fd.np, q.fd.np, .cons (.told g0 cl) .nil, false⟩ :: tells cl (g0 + 1) ds from rfl, List.getElem?_cons_succ, this, show g0 + 1 + g = g0 + (g + 1) by omega]
theorem prs_at {cl : List Nat} {i : Nat} {r : DR} (e : ds[i]? = some r) : (Prs cl ds)[i]? = some r.fd := by
  have h0 : (Pr ds)[i]? = some r.fd := by rw [List.getElem?_map, e]; rfl
  unfold Prs
  split
  · exact h0
  · rw [List.getElem?_append_left (List.getElem?_eq_some_iff.mp h0).1]
    exact h0
theorem prs_told {cl : List Nat} {g : Nat} {r : DR} (hc : cl.isEmpty = false) (e : ds[g]? = some r) : (Prs cl ds)[ds.length + g]? = some ⟨r.fd.np, r.fd.np, .cons (.told g cl) .nil, false⟩ := by
  unfold Prs
  rw [if_neg (by rw [hc]; decide), List.getElem?_append_right (by simp), List.length_map, Nat.add_sub_cancel_left, tells_at e, Nat.zero_add]
theorem slots_all : ∀ ws : List W, slotsW (ws.map some) = some ws
  | [] => rfl
  | w :: ws => by rw [List.map_cons, slotsW, slots_all ws]; rfl
theorem callF_np {cl : List Nat} {k i : Nat} {ws : List W} {h : Hs} {r : DR} (e : ds[i]? = some r) (n : callF cs (Prs cl ds) k i ws h ≠ .bad) : ws.length = r.fd.np := by
  cases k with
  | zero => exact absurd rfl n
  | succ k =>
    unfold callF at n
    rw [prs_at e] at n
    simp only at n
    by_cases hl : ws.length = r.fd.np
    · exact hl
    · rw [if_neg hl] at n; exact absurd rfl n
theorem start_RE {φ : List Addr} {M : Addr → Prop} {H : Hp} {ws : List W} {vs : List V} {N : List Str} (r : RWs K φ M H ws vs) (hl : vs.length ≤ N.length) : RE K φ M H (ws.map some ++ List.replicate (N.length - vs.length) none) (L2.start N vs) := by
  have e := r.len
  refine ⟨by unfold L2.start; simp [e], fun i w0 h => ?_⟩
  have hi : i < ws.length := by
    by_cases hi : i < ws.length
    · exact hi
    · rw [List.getElem?_append_right (by simpa using hi), List.getElem?_replicate] at h
      split at h <;> cases h
  rw [List.getElem?_append_left (by simpa using hi), List.getElem?_map] at h
  obtain ⟨w1, hw, h⟩ := Option.map_eq_some_iff.mp h
  cases h
  have get : ∀ {ws : List W} {vs : List V}, RWs K φ M H ws vs → ∀ {i : Nat} {w : W}, ws[i]? = some w → ∃ v, vs[i]? = some v ∧ RW K φ M H w v := by
    intro ws vs r
    induction r with
    | nil => intro i w h; simp at h
    | cons a _ ih =>
      intro i w h
      cases i with
      | zero => simp at h; subst h; exact ⟨_, rfl, a⟩
      | succ i =>
        obtain ⟨v, h1, h2⟩ := ih (by simpa using h)
        exact ⟨v, by simpa using h1, h2⟩
  obtain ⟨v, h1, h2⟩ := get r hw
  refine ⟨v, ?_, h2⟩
  unfold L2.start
  rw [List.getElem?_append_left (by rw [List.length_map, ← e]; exact hi), List.getElem?_map, h1]
  rfl
/-- a def's body, its evaluator's outcome, its ends -/
theorem fin_ok {φ : List Addr} {h : Hs} {H : Hp} {B : Addr → Prop} {Q : VK} {E : Nat → Hp → Prop} {keep : Bool} {m : Res Fl} (S : RS K B φ h H)
    (Pp : Pg K B φ h H E (match m with | .ok l h1 => fin keep h.length l h1 | .exc c v h1 => .exc c v (h1.take h.length) | .bad => .bad) (CV K B Q)) :
    Pg K B φ h H E m (CFl K B { nx := fun _ H' => Q .non H', rt := Q }) := by
  cases m with
  | bad => exact Pp
  | exc c v h1 => exact fun φ' H' X S' => Pp (φ'.take h.length) H' (X.cut S) (S'.cut _)
  | ok l h1 =>
    intro φ' H' X S'
    cases l with
    | bk e => exact Pp.elim
    | ct e => exact Pp.elim
    | nx e =>
      intro σ R
      cases keep with
      | true => exact Pp φ' H' X S' _ (.t .non)
      | false => exact Pp (φ'.take h.length) H' (X.cut S) (S'.cut _) _ (.t .non)
    | rt w =>
      intro v rv
      cases keep with
      | true => exact Pp φ' H' X S' v rv
      | false =>
        have Pp : Pg K B φ h H E (match w.frz h1 with | some (d, h1) => .ok (.t d) (h1.take h.length) | none => .bad) (CV K B Q) := Pp
        cases ef : w.frz h1 with
        | none => rw [ef] at Pp; exact Pp.elim
        | some p =>
          obtain ⟨d, h2⟩ := p
          rw [ef] at Pp
          obtain ⟨S2, X2, rd⟩ := frz_ok S' rv ef
          exact Pp (φ'.take h.length) H' ((X.trans X2).cut S) (S2.cut _) v (.t rd.cut)
theorem callF_told {cl : List Nat} {k g : Nat} {ws : List W} {h : Hs} {r : DR} (hc : cl.isEmpty = false) (e : ds[g]? = some r) : callF cs (Prs cl ds) (k + 1) (ds.length + g) ws h = toldC cl (callF cs (Prs cl ds) k g ws h) h.length := by
  rw [callF, prs_told hc e]
  simp only
  by_cases hl : ws.length = r.fd.np
  · rw [if_pos hl, Nat.sub_self, List.replicate_zero, List.append_nil, execs, exec, slots_all]
    dsimp only
    unfold toldC
    generalize callF cs (Prs cl ds) k g ws h = m
    have tt : ∀ c v h', toldR cl m ≠ .exc c v h' := fun c v h' z => by
      unfold toldR at z
      cases m with
      | bad => cases z
      | ok w h => simp only at z; split at z <;> cases z
      | exc c w h => simp only at z; split at z <;> (try split at z) <;> cases z
    generalize toldR cl m = t at tt
    cases t with
    | exc c v h' => exact absurd rfl (tt c v h')
    | ok a h' => rfl
    | bad => rfl
  · rw [if_neg hl]
    cases z : callF cs (Prs cl ds) k g ws h with
    | bad => rfl
    | _ => exact absurd (callF_np e (by rw [z]; exact fun y => nomatch y)) hl
/-- every def, at every depth of calls -/
theorem all_fns (G : Gm ci cs ca ds K mg base) : ∀ (k i : Nat) (r : DR), ds[i]? = some r → ∃ (f : Addr) (fd : FuncData), mg r.name = some (.ref f) ∧ FunD K r.name r.name (defArgs r.st) (defBody r.st) (defScope r.st) [] [] f fd ∧ Binds K fd r.ps [] ∧ FG P w K mg base k f fd r.ps (spF K ca (callF cs (Prs ci.cl ds) k) i r.ps.length)
  | 0, i, r, e => by
    obtain ⟨f, fd, h1, F, h3⟩ := G.fn i r e
    exact ⟨f, fd, h1, F, h3, fun vs H Q E h => h.1, fun A outer s H args us vs Q E _ _ _ _ _ ⟨_, B, φ, h, ws, _, _, z⟩ => z.elim⟩
  | k + 1, i, r, e => by
    obtain ⟨f, fd, h1, F, h3⟩ := G.fn i r e
    refine ⟨f, fd, h1, F, h3, fun vs H Q E h => h.1, fun A outer s H args us vs Q E hr hgu e0 hb rv hsp => ?_⟩
    have hmem := List.mem_of_getElem? e
    have hok := G.ok r hmem
    unfold okDR at hok
    simp only [Bool.and_eq_true, decide_eq_true_eq] at hok
    obtain ⟨⟨⟨o1, o2⟩, o3⟩, o4⟩ := hok
    have Sc := scB_ok o1
    obtain ⟨hl, B, φ, h, ws, S, rws, Pp⟩ := hsp
    obtain ⟨oc, od, dV, kV, doc, pm, an, cdv, ct, osl, rfl, lk, hcd, _, _⟩ := F.ex
    have KX : K.In s.heap := e0.mod.kin.keeps fun b o q => (e0.bs b o q).1
    have hps : r.ps.length ≤ r.N.length := by
      have := congrArg List.length Sc.pre
      rw [List.length_take] at this
      omega
    -- by the hand layer's entry
    have key : ∃ t, PSs (cxOf (L2.CX P w) P w K mg base r.N r.name (defScope r.st) f cdv A outer s H E) (defBody r.st) t ∧ t { nx := fun _ H' => Q .non H', rt := Q } (L2.start r.N vs) H := by
      refine ⟨tSs K cs (callF cs (Prs ci.cl ds) k) ca (fun c d _ H => E c d H) r.fd.body, ?_, B, φ, _, h, S, start_RE rws (by rw [hl]; exact hps), ?_⟩
      · have Gb0 : Gb (ciR ci r) cs (callF cs (Prs ci.cl ds) k) ca k (cxOf (L2.CX P w) P w K mg base r.N r.name (defScope r.st) f cdv A outer s H E) (fun c d _ H => E c d H) :=
          { calm := rfl
            un := by
              have q := hr.un
              show A.units + 3 + 150 < cLine
              omega
            gu := hgu
            md := G.md
            nd := Sc.nd
            room := hr.deeper _
            tk := takes_of rfl rfl rfl rfl
            blt := G.blt
            fns := fun j x hj => by
              have hj : ci.fns[j]? = some x := hj
              rw [G.nm, List.getElem?_map] at hj
              obtain ⟨r', e', hx⟩ := Option.map_eq_some_iff.mp hj
              obtain ⟨f', fd', q1, q2, q3, q4⟩ := all_fns G k j r' e'
              subst hx
              have ok' := G.ok r' (List.mem_of_getElem? e')
              unfold okDR at ok'
              simp only [Bool.and_eq_true, decide_eq_true_eq] at ok'
              exact ⟨f', fd', r'.ps, q1, q2.kp, q3, fun ws h n => by rw [callF_np e' n, ok'.1.1.2], q4⟩
            con := G.con
            xf := fun hlam => by
              have hlam : ci.lam = true := hlam
              have hcl : ci.cl.isEmpty = false := by
                cases z : ci.cl.isEmpty with
                | false => rfl
                | true => unfold CI.lam at hlam; rw [z] at hlam; cases hlam
              refine ⟨G.xm hlam, fun hlm => ?_, fun g x hg => ?_⟩
              · obtain ⟨c, Pt, q1, q2, q3, q4⟩ := G.xt hlam r hmem hlm f _ h1 F
                exact ⟨c, Pt, q1, q2, q3, q4⟩
              have lenF : ci.fns.length = ds.length := by rw [G.nm, List.length_map]
              show (∀ ws h, callF cs (Prs ci.cl ds) k (ci.fns.length + g) ws h = .bad) ∨ _
              rw [show (ciR ci r).fns.length = ds.length from lenF]
              match k with
              | 0 => exact .inl fun ws h => rfl
              | j + 1 =>
                have hg : ci.fns[g]? = some x := hg
                rw [G.nm, List.getElem?_map] at hg
                obtain ⟨r', e', hx⟩ := Option.map_eq_some_iff.mp hg
                obtain ⟨f', fd', q1, q2, q3, q4⟩ := all_fns G j g r' e'
                subst hx
                have ok' := G.ok r' (List.mem_of_getElem? e')
                unfold okDR at ok'
                simp only [Bool.and_eq_true, decide_eq_true_eq] at ok'
                exact .inr ⟨j, callF cs (Prs ci.cl ds) j, f', fd', r'.ps, rfl, q1, q2.kp, q3, fun ws h n => by rw [callF_np e' n, ok'.1.1.2], q4, fun ws h => callF_told hcl e'⟩
            kd := Sc.kind
            st := fun x hx => ⟨locB_loc hx, .inl rfl⟩
            ws := fun _ _ _ _ _ z => z
            po := passes_of rfl }
        exact ok_Ss Gb0 r.fd.body (defBody r.st) o4
      · unfold callF at Pp
        rw [prs_at e] at Pp
        simp only at Pp
        have hw : ws.length = r.fd.np := by rw [rws.len, hl, o2]
        rw [if_pos hw] at Pp
        have en : r.fd.nn - r.fd.np = r.N.length - vs.length := by rw [o3, o2, hl]
        rw [en] at Pp
        exact Pg.toEy (σ := []) (fun _ _ _ _ _ z => z) (fin_ok S Pp)
    have lim : s.heap.NoLimit := e0.mod.nolimit.keeps fun b o q => (e0.bs b o q).1
    have lv : vs.length = r.ps.length := hl
    have par : ∀ y ∈ r.ps.zip us, (defScope r.st).names.lookup y.1 = some .local ∨ ((defScope r.st).names.lookup y.1 = some .cell ∧ ((cellsFrom (s.heap.objs.size + 1) (defScope r.st).names []).lookup y.1).isSome = true) := fun ⟨n, v⟩ hy =>
      (Sc.par n (List.of_mem_zip hy).1).imp id fun q => ⟨q, PySem.W.cellsFrom_some _ _ _ (.inl q)⟩
    refine codeAny_call_function hr.depth (KX f _ lk) rfl Sc.co Sc.gen rfl (PySem.W.codeRec_of KX hcd) (hb _ _ _ _ ?_)
    refine wpAny_newFunctionEnv_cells Sc.kind par fun env ee s1 x => ?_
    subst ee
    refine ⟨lim.keeps x.toInCall.keep, codeAny_func ?_⟩
    obtain ⟨t, ht, hq⟩ := key
    have I0 : Inv (cxOf (L2.CX P w) P w K mg base r.N r.name (defScope r.st) f cdv A outer s H E) [] (L2.start r.N vs) H s1 := inv_start Sc hr.hd e0 lv rv x
    refine wpAny_mono (ht.run [] s1 (L2.start r.N vs) H _ I0 hq) (fun fl s' out => ?_) fun e s' out => out
    cases fl with
    | next =>
      obtain ⟨σ', H', J, q⟩ := out
      exact ⟨V.non, H', J.os, J.bare, J.base, J.hok, rfl, q⟩
    | ret u =>
      obtain ⟨v, σ', H', J, rr, q⟩ := out
      exact ⟨v, H', J.os, J.bare, J.base, J.hok, rr, q⟩
    | brk => exact (show False from out.choose_spec.choose_spec.2).elim
    | cont => exact (show False from out.choose_spec.choose_spec.2).elim
  termination_by k => k
  decreasing_by all_goals omega
end
end MF

set_option Elab.async false
set_option linter.all false
set_option maxRecDepth 100000
set_option maxHeartbeats 8000000
/-! the head's facts; the law's own call -/
namespace MF
open PySem PySem.Spec PyProof.Rows L2 MZ

theorem uTup_ok {K : PySem.W.Frag} {u : Value} {l : List Value} (h : uTup K u = some l) : ∃ a, u = .ref a ∧ ∀ (vs : List V) (H : Hp), Vals vs l → SqT K H a vs := by
  unfold uTup at h
  split at h
  · rename_i a
    split at h
    · rename_i c od its n osl e
      split at h
      · rename_i hc
        cases h
        obtain ⟨h1, h2⟩ := hc
        subst h1
        exact ⟨a, rfl, fun vs H r => .inr ⟨_, its, n, e, rfl, rfl, h2, r⟩⟩
      · cases h
    · cases h
  · cases h
mutual
theorem treeB_ok {K : PySem.W.Frag} : ∀ {d : D} {u : Value}, treeB K d u = true → ∃ v, RelV v u ∧ ∀ M H, RD K M H d v
  | .none, u, h => by
    rw [treeB] at h
    cases u <;> first | exact ⟨.non, rfl, fun _ _ => .non⟩ | (cases h; done)
  | .bool b, u, h => by
    rw [treeB] at h
    have h := of_decide_eq_true h
    cases u <;> first | (cases h; exact ⟨.bl b, rfl, fun _ _ => .bl _⟩) | (cases h; done)
  | .int i, u, h => by
    rw [treeB] at h
    have h := of_decide_eq_true h
    cases u <;> first | (cases h; exact ⟨.int i, ⟨_, rfl⟩, fun _ _ => .int _⟩) | (cases h; done)
  | .str x, u, h => by
    rw [treeB] at h
    have h := of_decide_eq_true h
    cases u <;> first | (cases h; exact ⟨.str x, ⟨_, rfl⟩, fun _ _ => .str _⟩) | (cases h; done)
  | .tuple ds, u, h => by
    rw [treeB] at h
    split at h
    · rename_i l e
      obtain ⟨a, rfl, g⟩ := uTup_ok e
      obtain ⟨vs, r, q⟩ := treesB_ok h
      exact ⟨.ref a, rfl, fun M H => .tup (g vs H r) (q M H)⟩
    · cases h
  | .list _, u, h => by rw [treeB] at h; cases h
  | .dict _, u, h => by rw [treeB] at h; cases h
theorem treesB_ok {K : PySem.W.Frag} : ∀ {ds : List D} {us : List Value}, treesB K ds us = true → ∃ vs, Vals vs us ∧ ∀ M H, RDs K M H ds vs
  | [], us, h => by
    rw [treesB] at h
    cases us with
    | nil => exact ⟨[], .nil, fun _ _ => .nil⟩
    | cons _ _ => cases h
  | d :: ds, us, h => by
    rw [treesB] at h
    cases us with
    | nil => cases h
    | cons u us =>
      simp only [uHd, Bool.and_eq_true] at h
      obtain ⟨v, r, g⟩ := treeB_ok h.1
      obtain ⟨vs, rs, gs⟩ := treesB_ok h.2
      exact ⟨v :: vs, .cons r rs, fun M H => .cons (g M H) (gs M H)⟩
end
theorem conB_ok {K : PySem.W.Frag} {h : Heap} {mg : Str → Option Value} (X : K.In h) (G : h.Ns mainGlobals mg) {q : Str × D} (c : conB K q = true) : ∃ (u : Value) (v : V), mg q.1 = some u ∧ RelV v u ∧ ∀ M H, RD K M H q.2 v := by
  unfold conB at c
  split at c
  · rename_i u e
    obtain ⟨v, r, g⟩ := treeB_ok c
    exact ⟨u, v, PySem.W.mg_of X G e, r, g⟩
  · cases c
/-! ### the call of the law -/
theorem law_g [LTab] {P : Program} {w : World} {K : PySem.W.Frag} {mg mb : Str → Option Value} {k : Nat} {fa a : Addr} {fd : FuncData} {x : Str} {sp : Sp} {s₁ : Shared} {vs : List Value} {ns : List Int}
    (KX : K.In s₁.heap) (hmg : s₁.heap.Ns mainGlobals mg) (hmb : s₁.heap.Ns builtinsNs mb) (hbt : ∀ x : Str, x ≠ "__name__" → mb x = bootBuiltins x) (hnl : s₁.heap.NoLimit) (hgn : s₁.gens = #[])
    (ha : s₁.heap.get? a = some { cls := .type "list", data := .seq vs.toArray }) (hi : IntsAre vs ns) (hl : ns.length ≤ sizeLine) (hr : Room k callerA) (hsys : ∃ o, s₁.heap.get? sysModules = some o ∧ o.cls ≠ .type "list")
    (F : ∀ base : Heap, K.In base → base.Ns mainGlobals mg → (∃ o, base.get? sysModules = some o) → FG P w K mg base k fa fd [x] sp) (hbind : ∀ (s : Shared) (u : Value), BindsTo s fd ⟨[u], []⟩ [(x, u)])
    (hsp : ∀ H : Hp, SqL K H a (ns.map V.int) → sp [.ref a] H (fun v _ => v = .bl true) fun _ _ _ => False) :
    codeAny (model P w) callerA (.call (.ref fa) ⟨[.ref a], []⟩) (fun r s' => r = .ok (.ret (.bool true)) ∧ OldK s₁.heap s'.heap ∧ s'.os = s₁.os ∧ AllBare s'.gens) s₁ := by
  have rel := vals_ints hi
  have cnt := hi.length
  have sysa : sysModules ≠ a := fun z => by
    obtain ⟨o, e, n⟩ := hsys
    rw [z, ha] at e
    cases e
    exact n rfl
  -- H: nothing is tracked but the script, frozen, if it is not the module's own
  have go : ∀ H : Hp, (∀ b u, H b = some u → b = a ∧ K.lookup a = none ∧ u = .frz { cls := .type "list", data := .seq vs.toArray } (.lst (ns.map V.int))) → SqL K H a (ns.map V.int) →
      codeAny (model P w) callerA (.call (.ref fa) ⟨[.ref a], []⟩) (fun r s' => r = .ok (.ret (.bool true)) ∧ OldK s₁.heap s'.heap ∧ s'.os = s₁.os ∧ AllBare s'.gens) s₁ := by
    intro H only seq
    have off : ∀ {b : Addr}, b ≠ a → H b = none := fun {b} n => by
      cases q : H b with
      | none => rfl
      | some u => exact absurd (only b u q).1 n
    have hk : HOk P w H s₁.heap := fun b u q => by
      obtain ⟨rfl, _, rfl⟩ := only b u q
      exact ⟨ha, by rw [List.length_map]; exact hl, vs, _, rel, ha⟩
    have dicts : ∀ {b : Addr} {o : Obj} {es : Array DictEntry} {ep : Nat}, s₁.heap.get? b = some o → o.data = .dict es ep → H b = none := fun {b o es ep} e q => off fun z => by
      rw [z, ha] at e
      cases e
      have q : Data.seq vs.toArray _ = Data.dict es ep := q
      cases q
    have names : ∀ {b : Addr} {m : Str → Option Value}, s₁.heap.Ns b m → (hidT s₁.heap H).Ns b m := fun ⟨o, es, ep, e, q, r⟩ => ⟨o, es, ep, hidT_get e (dicts e q), q, r⟩
    have kept : K.In (hidT s₁.heap H) := fun b o e => hidT_get (KX b o e) (by
      cases q : H b with
      | none => rfl
      | some u =>
        obtain ⟨rfl, n, _⟩ := only b u q
        rw [n] at e; cases e)
    have md : Mod K mg (hidT s₁.heap H) := ⟨kept, names hmg, ⟨mb, names hmb, hbt⟩, hnl.elim fun mc q => ⟨mc, names q.1, q.2⟩⟩
    have nob : ∀ b : Addr, b ∉ frs ([] : List Env) := fun b z => by cases z
    have env0 : Env0 P w K mg (hidT s₁.heap H) callerA [] s₁ H := ⟨rfl, md, fun b o e => of_hidT e, Nat.le_of_eq (hidT_size _ _), trivial, fun b z => absurd z (nob b), hk, .of_eq hgn⟩
    obtain ⟨so, se, _⟩ := hsys
    refine codeAny_mono ((F _ kept (names hmg) ⟨so, hidT_get se (off sysa)⟩).run callerA [] s₁ H ⟨[.ref a], []⟩ [.ref a] [.ref a] _ _ hr rfl env0 (hbind s₁ (.ref a)) (.cons rfl .nil) (hsp H seq)) fun r s' out => ?_
    cases r with
    | error e =>
      obtain ⟨_, _, _, _, _, _, _, _, _, _, _, _, z⟩ := out
      exact z.elim
    | ok fl =>
      cases fl with
      | next => exact out.elim
      | brk => exact out.elim
      | cont => exact out.elim
      | ret u =>
        obtain ⟨v, H', os, bare, un, hk', rv, q⟩ := out
        have q : v = .bl true := q
        subst q
        obtain rfl : u = Value.bool true := rv
        refine ⟨rfl, OldK.of_keep fun b o e => ?_, os, bare⟩
        cases q : H b with
        | none => exact un.keep b o e q (nob b) (by simp)
        | some u =>
          obtain ⟨rfl, _, rfl⟩ := only b u q
          obtain ⟨e2, _⟩ := hk' b _ (un.frzs b _ _ q)
          rw [ha] at e; cases e
          exact e2
  cases own : K.lookup a with
  | some o =>
    have e := KX a o own
    rw [ha] at e
    cases e
    exact go (fun _ => none) (fun b u z => by cases z) (.inr ⟨_, vs.toArray, _, own, rfl, rfl, rfl, by rw [List.size_toArray, cnt]; exact hl, by simpa using rel⟩)
  | none =>
    refine go (fun b => if b = a then some (.frz { cls := .type "list", data := .seq vs.toArray } (.lst (ns.map V.int))) else none) (fun b u z => ?_) (.inl (.inr ⟨{ cls := .type "list", data := .seq vs.toArray }, if_pos rfl⟩))
    have z : (if b = a then some (HO.frz { cls := .type "list", data := .seq vs.toArray } (.lst (ns.map V.int))) else none) = some u := z
    split at z
    · cases z
      exact ⟨by assumption, own, rfl⟩
    · cases z
/-! ### all of it -/
/-- the parameters are bound one by one -/
def Bd (r : DR) : Prop := ∀ (kV doc pm : Value) (an : Option Addr) (cdv ct : Value) (us : List Value), us.length = r.ps.length → bindArgs (PySem.W.fnOf r.name r.name (defArgs r.st) (defBody r.st) (defScope r.st) .none kV doc pm an cdv ct) ⟨us, []⟩ = pure (r.ps.zip us)
section
variable [LTab]
theorem gm_of {ci : CI} {cs : List D} {ca : Nat → Addr} {ds : List DR} {K : PySem.W.Frag} {mg : Str → Option Value} {base : Heap} {fa : List He.Fa} (nm : ci.fns = ds.map (·.name)) (ok : ∀ r ∈ ds, okDR ci r = true) (hb : ∀ r ∈ ds, Bd r) (X : K.In base) (G : base.Ns mainGlobals mg) (md : ∃ o, base.get? sysModules = some o)
    (c : He.SaysD (faO ds ++ fa) (fnO ds) K) (cc : (ci.cons.zip cs).all (conB K) = true) (xm : ci.lam = true → SaidM K mg ca ci.cl)
    (xt : ci.lam = true → ∀ r ∈ ds, r.lam = true → ∀ (f : Addr) (fd : FuncData), mg r.name = some (.ref f) → FunD K r.name r.name (defArgs r.st) (defBody r.st) (defScope r.st) [] [] f fd →
      ∃ c P, fd.code = .ref c ∧ LamX.TabB base mg c P ∧ (P, r.name ++ ".<locals>." ++ "<lambda>") ∈ LTab.l ∧ ∀ z ∈ LTab.l, z.1 = P → z.2 = r.name ++ ".<locals>." ++ "<lambda>") : Gm ci cs ca ds K mg base where
  nm := nm
  ok := ok
  md := md
  fn := fun i r e => by
    have hm := List.mem_of_getElem? e
    obtain ⟨fd, F⟩ := He.SaysD.defs c (d := dfO r) (List.mem_map_of_mem hm)
    have g := He.glo_ok X G (He.SaysD.facts c (f := .glo r.name) (List.mem_append_left _ (List.mem_append_left _ (List.mem_map_of_mem (f := fun r : DR => He.Fa.glo r.name) hm))))
    exact ⟨_, fd, g, F, FunD.bindsN F (hb r hm)⟩
  blt := fun x hx => He.free_ok X G (He.SaysD.facts c (f := .free x) (List.mem_append_left _ (List.mem_append_right _ (List.mem_map_of_mem hx))))
  con := fun j x d h1 h2 => by
    have hj : (ci.cons.zip cs)[j]? = some (x, d) := by rw [List.getElem?_zip_eq_some]; exact ⟨h1, h2⟩
    exact conB_ok X G (q := (x, d)) (List.all_eq_true.mp cc _ (List.mem_of_getElem? hj))
  xm := xm
  xt := xt
end
theorem walk_mf {l : PySem.W.OpenLaw} {n k i nn : Nat} {q : Program} {loose : List Str} {XP : (Str → Option Value) → Heap → Prop} {d : DefRec} {x : Str} {ci : CI} {cs : List D} {ds : List DR} {rl : DR}
    (hn : l.most = some n) (hn2 : n ≤ sizeLine) (hdf : d.params.defaults = []) (hr : Room k callerA) (nm : ci.fns = ds.map (·.name)) (ok : ∀ r ∈ ds, okDR ci r = true) (hb : ∀ r ∈ ds, Bd r) (hi : ds[i]? = some rl) (hd : d.name = rl.name) (hps : rl.ps = [x])
    (math : ∀ ns : List Int, ns.length ≤ n → ∃ h, callF cs (Pr ds) k i [.scr ns] [] = .ok (.t (.bool true)) h) (hcl : ci.cl = [] := by rfl) :
    PySem.W.WalkO q loose XP (hookM nn (faO ds) (fnO ds) (ci.cons.zip cs)).says l.row.toRowW d [] (fun f vs => PySem.call f vs) := by
  refine Att.attach_call hn hdf fun w s₀ s₁ mg mb fa o pm cd doc a vs ns G Y ho hdd hcd hmg hobj hints hlen hg => ?_
  obtain ⟨⟨K, KX, c, cc⟩, hsys⟩ := Y
  rw [hd] at hmg
  have hm := List.mem_of_getElem? hi
  -- the law's own function object
  obtain ⟨fd0, F0⟩ := He.SaysD.defs c (d := dfO rl) (List.mem_map_of_mem hm)
  have g0 : mg rl.name = some (.ref (He.ga K rl.name)) := He.glo_ok KX G.T.g (He.SaysD.facts c (f := .glo rl.name) (List.mem_append_left _ (List.mem_map_of_mem (f := fun r : DR => He.Fa.glo r.name) hm)))
  rw [hmg] at g0
  cases g0
  have hbd : ∀ (s : Shared) (u : Value), BindsTo s fd0 ⟨[u], []⟩ [(x, u)] := fun s u => by
    have z := FunD.bindsA (ps := rl.ps) F0 (hb rl hm) s [u] (by rw [hps]; rfl)
    rw [hps] at z
    exact z
  letI : LTab := ⟨[]⟩
  have ep : Prs ci.cl ds = Pr ds := by rw [hcl]; rfl
  have nolam : ci.lam ≠ true := by unfold CI.lam; rw [hcl]; decide
  refine law_g (sp := spF K (fun _ => 0) (callF cs (Prs ci.cl ds) k) i 1) KX G.T.g G.T.b G.T.builtins G.T.nolimit hg hobj hints (Nat.le_trans hlen hn2) hr hsys (fun base kin kns ksys => ?_) hbd fun H seq => ?_
  · have Gm0 := gm_of (ca := fun _ => 0) (fa := []) nm ok hb kin kns ksys (by rw [List.append_nil]; exact c) cc (fun z => absurd z nolam) (fun z => absurd z nolam)
    obtain ⟨f, fd, q1, q2, q3, q4⟩ := all_fns (P := l.prog) (w := w) (ca := fun _ => 0) Gm0 k i rl hi
    rw [hmg] at q1
    cases q1
    rw [hps] at q4
    obtain ⟨_, _, _, _, _, _, _, _, _, _, _, l1, _⟩ := F0.ex
    obtain ⟨_, _, _, _, _, _, _, _, _, _, _, l2, _⟩ := q2.ex
    have l3 := l1.symm.trans l2
    cases l3
    exact q4
  · obtain ⟨h', e⟩ := math ns hlen
    refine ⟨rfl, fun _ => False, [], [], [.scr ns], ⟨fun z hz => absurd hz (by show z ∉ ([] : List (Addr × Str)); simp), rfl, fun i j a e => by simp at e, fun a z => z.elim, fun a z => z.elim, fun k o a e => by simp at e⟩, .cons (.scr ?_) .nil, ?_⟩
    · rcases seq with z | z
      · refine .inl ⟨fun m => ?_, z⟩
        rcases m with m | ⟨k, o, m, _⟩
        · exact m
        · simp at m
      · exact .inr fun H2 => .inr z
    · rw [ep, e]
      intro φ' H' X S v rv
      cases rv with
      | t rv => cases rv; rfl
end MF

set_option Elab.async false
set_option linter.all false
set_option maxRecDepth 100000
set_option maxHeartbeats 8000000
/-! the end where lambdas are handed on: tables of code objects -/
namespace MF
open PySem PySem.Spec PyProof.Rows L2 MZ

/-! ### the call of the law, with tables -/
theorem law_gs {P : Program} {w : World} {K : PySem.W.Frag} {mg mb : Str → Option Value} {k : Nat} {fa a : Addr} {fd : FuncData} {x : Str} {sp : Sp} {s₁ : Shared} {vs : List Value} {ns : List Int} {ts : List (Addr × Addr)}
    (KX : K.In s₁.heap) (hmg : s₁.heap.Ns mainGlobals mg) (hmb : s₁.heap.Ns builtinsNs mb) (hbt : ∀ x : Str, x ≠ "__name__" → mb x = bootBuiltins x) (hnl : s₁.heap.NoLimit) (hgn : s₁.gens = #[])
    (emp : ∀ p ∈ ts, s₁.heap.get? p.2 = some { cls := .none, data := .fields #[] }) (out : ∀ p ∈ ts, K.lookup p.2 = none) (cdh : ∀ p ∈ ts, PySem.W.codeHdIn K p.1 p.2 = true)
    (bmain : ∃ (m : Addr) (u : Obj), mg "__builtins__" = some (.ref m) ∧ m ≠ builtinsNs ∧ s₁.heap.get? m = some u ∧ u.cls = .type "module" ∧ u.dict = some builtinsNs ∧ u.data = .plain)
    (ha : s₁.heap.get? a = some { cls := .type "list", data := .seq vs.toArray }) (hi : IntsAre vs ns) (hl : ns.length ≤ sizeLine) (hr : Room k callerA) (hsys : ∃ o, s₁.heap.get? sysModules = some o ∧ o.cls ≠ .type "list" ∧ o.cls ≠ .none)
    (F : ∀ base : Heap, K.In base → base.Ns mainGlobals mg → (∃ o, base.get? sysModules = some o) → (∀ p ∈ ts, LamX.TabB base mg p.1 p.2) → FG P w K mg base k fa fd [x] sp) (hbind : ∀ (s : Shared) (u : Value), BindsTo s fd ⟨[u], []⟩ [(x, u)])
    (hsp : ∀ H : Hp, (∀ p ∈ ts, H p.2 = some (.tbl #[])) → SqL K H a (ns.map V.int) → sp [.ref a] H (fun v _ => v = .bl true) fun _ _ _ => False) :
    codeAny (model P w) callerA (.call (.ref fa) ⟨[.ref a], []⟩) (fun r s' => r = .ok (.ret (.bool true)) ∧ OldK s₁.heap s'.heap ∧ s'.os = s₁.os ∧ AllBare s'.gens) s₁ := by
  have rel := vals_ints hi
  have cnt := hi.length
  have isTab : ∀ {b : Addr}, b ∈ ts.map (·.2) → s₁.heap.get? b = some { cls := .none, data := .fields #[] } := fun {b} q => by
    obtain ⟨p, hp, rfl⟩ := List.mem_map.mp q
    exact emp p hp
  have noT : a ∉ ts.map (·.2) := fun q => by
    have := isTab q
    rw [ha] at this
    exact nomatch congrArg Obj.cls (Option.some.inj this)
  have go : ∀ H : Hp, (∀ b u, H b = some u → (b ∈ ts.map (·.2) ∧ u = .tbl #[]) ∨ (b = a ∧ K.lookup a = none ∧ u = .frz { cls := .type "list", data := .seq vs.toArray } (.lst (ns.map V.int)))) → (∀ p ∈ ts, H p.2 = some (.tbl #[])) → SqL K H a (ns.map V.int) →
      codeAny (model P w) callerA (.call (.ref fa) ⟨[.ref a], []⟩) (fun r s' => r = .ok (.ret (.bool true)) ∧ OldK s₁.heap s'.heap ∧ s'.os = s₁.os ∧ AllBare s'.gens) s₁ := by
    intro H only full seq
    -- what is neither a table nor the script
    have off : ∀ {b : Addr} {o : Obj}, s₁.heap.get? b = some o → o.cls ≠ .none → o.cls ≠ .type "list" → H b = none := fun {b o} e n1 n2 => by
      cases q : H b with
      | none => rfl
      | some u =>
        rcases only b u q with ⟨t, _⟩ | ⟨rfl, _, _⟩
        · rw [isTab t] at e; cases e; exact absurd rfl n1
        · rw [ha] at e; cases e; exact absurd rfl n2
    have offD : ∀ {b : Addr} {o : Obj} {es : Array DictEntry} {ep : Nat}, s₁.heap.get? b = some o → o.data = .dict es ep → H b = none := fun {b o es ep} e q => by
      cases z : H b with
      | none => rfl
      | some u =>
        rcases only b u z with ⟨t, _⟩ | ⟨rfl, _, _⟩
        · rw [isTab t] at e; cases e; cases q
        · rw [ha] at e; cases e
          have q : Data.seq vs.toArray _ = Data.dict es ep := q
          cases q
    have hk : HOk P w H s₁.heap := fun b u q => by
      rcases only b u q with ⟨t, rfl⟩ | ⟨rfl, _, rfl⟩
      · exact isTab t
      · exact ⟨ha, by rw [List.length_map]; exact hl, vs, _, rel, ha⟩
    have names : ∀ {b : Addr} {m : Str → Option Value}, s₁.heap.Ns b m → (hidT s₁.heap H).Ns b m := fun ⟨o, es, ep, e, q, r⟩ => ⟨o, es, ep, hidT_get e (offD e q), q, r⟩
    have kept : K.In (hidT s₁.heap H) := fun b o e => hidT_get (KX b o e) (by
      cases q : H b with
      | none => rfl
      | some u =>
        rcases only b u q with ⟨t, _⟩ | ⟨rfl, n, _⟩
        · obtain ⟨p, hp, rfl⟩ := List.mem_map.mp t
          rw [out p hp] at e; cases e
        · rw [n] at e; cases e)
    have tabs : ∀ p ∈ ts, LamX.TabB (hidT s₁.heap H) mg p.1 p.2 := fun p hp => by
      refine ⟨PySem.W.codeHd_of_K kept (cdh p hp), ?_, fun z => ?_⟩
      · obtain ⟨m, u, b1, b2, b3, b4, b5, b6⟩ := bmain
        refine ⟨m, u, b1, b2, fun z => ?_, fun z => ?_, hidT_get b3 (off b3 (by rw [b4]; exact fun z => nomatch z) (by rw [b4]; exact fun z => absurd (Value.type.inj z) (by decide))), b4, b5, b6⟩
        · obtain ⟨o, es, ep, e, q, _⟩ := hmg
          rw [z, e] at b3; cases b3
          rw [q] at b6; cases b6
        · rw [z, emp p hp] at b3; cases b3
          cases b6
      · obtain ⟨o, es, ep, e, q, _⟩ := hmg
        rw [z, emp p hp] at e; cases e
        cases q
    have md : Mod K mg (hidT s₁.heap H) := ⟨kept, names hmg, ⟨mb, names hmb, hbt⟩, hnl.elim fun mc q => ⟨mc, names q.1, q.2⟩⟩
    have nob : ∀ b : Addr, b ∉ frs ([] : List Env) := fun b z => by cases z
    have env0 : Env0 P w K mg (hidT s₁.heap H) callerA [] s₁ H := ⟨rfl, md, fun b o e => of_hidT e, Nat.le_of_eq (hidT_size _ _), trivial, fun b z => absurd z (nob b), hk, .of_eq hgn⟩
    obtain ⟨so, se, s2, s3⟩ := hsys
    refine codeAny_mono ((F _ kept (names hmg) ⟨so, hidT_get se (off se s3 s2)⟩ tabs).run callerA [] s₁ H ⟨[.ref a], []⟩ [.ref a] [.ref a] _ _ hr rfl env0 (hbind s₁ (.ref a)) (.cons rfl .nil) (hsp H full seq)) fun r s' out => ?_
    cases r with
    | error e =>
      obtain ⟨_, _, _, _, _, _, _, _, _, _, _, _, z⟩ := out
      exact z.elim
    | ok fl =>
      cases fl with
      | next => exact out.elim
      | brk => exact out.elim
      | cont => exact out.elim
      | ret u =>
        obtain ⟨v, H', os, bare, un, hk', rv, q⟩ := out
        have q : v = .bl true := q
        subst q
        obtain rfl : u = Value.bool true := rv
        have same : ∀ b o, b ∉ ts.map (·.2) → s₁.heap.get? b = some o → s'.heap.get? b = some o := fun b o nt e => by
          cases q : H b with
          | none => exact un.keep b o e q (nob b) (by simp)
          | some u =>
            rcases only b u q with ⟨t, _⟩ | ⟨rfl, _, rfl⟩
            · exact absurd t nt
            · obtain ⟨e2, _⟩ := hk' b _ (un.frzs b _ _ q)
              rw [ha] at e; cases e
              exact e2
        have more : ∀ p ∈ ts, ∃ m : Array Value, s'.heap.get? p.2 = some { cls := .none, data := .fields m } := fun p hp => by
          obtain ⟨m, z⟩ := un.tbls p.2 #[] (full p hp)
          exact ⟨_, hk' p.2 _ z⟩
        refine ⟨rfl, ⟨fun b o e => ?_, fun b o e => ?_⟩, os, bare⟩
        · by_cases t : b ∈ ts.map (·.2)
          · obtain ⟨p, hp, rfl⟩ := List.mem_map.mp t
            obtain ⟨m, z⟩ := more p hp
            rw [emp p hp] at e; cases e
            refine .inr (.inl ⟨((PySem.W.codeHd_of_K KX (cdh p hp)).tab (emp p hp)).isCodeTable, rfl, #[], m, rfl, ?_⟩)
            rw [Array.empty_append]
            exact z
          · exact .inl (same b o t e)
        · by_cases t : b ∈ ts.map (·.2)
          · obtain ⟨p, hp, rfl⟩ := List.mem_map.mp t
            obtain ⟨m, z⟩ := more p hp
            exact ⟨_, z⟩
          · exact ⟨o, same b o t e⟩
  have tl : ∀ p ∈ ts, p.2 ∈ ts.map (·.2) := fun p hp => List.mem_map_of_mem hp
  cases own : K.lookup a with
  | some o =>
    have e := KX a o own
    rw [ha] at e
    cases e
    refine go (fun b => if b ∈ ts.map (·.2) then some (.tbl #[]) else none) (fun b u z => ?_) (fun p hp => if_pos (tl p hp)) (.inr ⟨_, vs.toArray, _, own, rfl, rfl, rfl, by rw [List.size_toArray, cnt]; exact hl, by simpa using rel⟩)
    have z : (if b ∈ ts.map (·.2) then some (HO.tbl #[]) else none) = some u := z
    split at z
    · cases z; exact .inl ⟨by assumption, rfl⟩
    · cases z
  | none =>
    refine go (fun b => if b ∈ ts.map (·.2) then some (.tbl #[]) else if b = a then some (.frz { cls := .type "list", data := .seq vs.toArray } (.lst (ns.map V.int))) else none) (fun b u z => ?_) (fun p hp => if_pos (tl p hp))
      (.inl (.inr ⟨{ cls := .type "list", data := .seq vs.toArray }, (if_neg noT).trans (if_pos rfl)⟩))
    have z : (if b ∈ ts.map (·.2) then some (HO.tbl #[]) else if b = a then some (HO.frz { cls := .type "list", data := .seq vs.toArray } (.lst (ns.map V.int))) else none) = some u := z
    split at z
    · cases z; exact .inl ⟨by assumption, rfl⟩
    · split at z
      · cases z; exact .inr ⟨by assumption, own, rfl⟩
      · cases z
theorem excB_ok {K : PySem.W.Frag} {D : Addr} (h : excB K D = true) : ExcC K D := by
  unfold excB at h
  simp only [Bool.and_eq_true, decide_eq_true_eq] at h
  obtain ⟨⟨⟨⟨⟨⟨⟨h1, h2⟩, h3⟩, h4⟩, h5⟩, h6⟩, h7⟩, h8⟩ := h
  exact ⟨He.eqO_ok h1, He.eqO_ok h2, h3, h4, He.eqO_ok h5, He.eqO_ok h6, h7, h8⟩
theorem cN_mem {c : Nat} (h : c < 16) : cN c ∈ clsAll := by
  have h : c < clsN.length := h
  show clsN.getD c "" ∈ clsAll
  rw [List.getD_eq_getElem?_getD, List.getElem?_eq_getElem h]
  exact List.mem_append_left _ (List.getElem_mem h)
theorem dst_inj {α : Type} {f : α → Addr} : ∀ {l : List α}, dstB (l.map f) = true → ∀ x ∈ l, ∀ y ∈ l, f x = f y → x = y
  | [], _, x, hx, _, _, _ => by cases hx
  | a :: r, h, x, hx, y, hy, e => by
    simp only [List.map_cons, dstB, Bool.and_eq_true, Bool.not_eq_true', List.contains_eq_mem, decide_eq_false_iff_not] at h
    rcases List.mem_cons.mp hx with rfl | hx2 <;> rcases List.mem_cons.mp hy with rfl | hy2
    · rfl
    · exact absurd (e ▸ List.mem_map_of_mem hy2) h.1
    · exact absurd (e ▸ List.mem_map_of_mem hx2) h.1
    · exact dst_inj h.2 x hx2 y hy2 e
/-! ### what a text holds that tells of calls -/
/-- rs is the def that tells of a call, rw that which tells a refusal's word -/
def saidB (rs rw : DR) : Bool := decide (rs.name = "_law_said") && (match rs.ps, rw.ps, dTold (defBody rs.st) with
  | [a], [_], some (a', e, w) => decide (a = a') && decide (w = rw.name) && chkTold (defScope rs.st) rs.N a e w && chkWhich (defScope rw.st) rw.N (defBody rw.st)
  | _, _, _ => false)
section
variable {ci : CI} {cs : List D} {ds : List DR} {K : PySem.W.Frag} {mg : Str → Option Value} {base : Heap} {cl : List Nat} {fa : List He.Fa}
theorem saidM_of [LTab] {rs rw : DR} {cn : List (Str × D)} (ok : ∀ r ∈ ds, okDR ci r = true) (hb : ∀ r ∈ ds, Bd r) (hs : rs ∈ ds) (hw : rw ∈ ds) (sd : saidB rs rw = true) (X : K.In base) (G : base.Ns mainGlobals mg) (c : He.SaysD (faS ds cl) (fnO ds) K) (ex : exB ds cl cn K = true) : SaidM K mg (fun c => He.ga K (cN c)) cl := by
  have fact : ∀ {f : He.Fa}, f ∈ clsAll.map He.Fa.glo ++ (cl.map (fun c => He.Fa.exc (cN c)) ++ (cl.map (fun c => He.Fa.exm (cN c) "MainError" true) ++ [.glo "MainError", .free "ValueError"])) → f.ok K = true := fun h => He.SaysD.facts c (List.mem_append_right _ h)
  have fglo : ∀ y ∈ clsAll, mg y = some (.ref (He.ga K y)) := fun y hy => He.glo_ok X G (fact (List.mem_append_left _ (List.mem_map_of_mem hy)))
  unfold exB at ex
  simp only [Bool.and_eq_true] at ex
  have kd : ∀ c ∈ cl, kindB K c = true := List.all_eq_true.mp ex.2.1
  have nin : ∀ {x : Str}, x ∈ bltN → mg x = none := fun {x} hx => He.free_ok X G (He.SaysD.facts c (f := .free x) (List.mem_append_left _ (List.mem_append_right _ (List.mem_map_of_mem hx))))
  have df : ∀ r ∈ ds, ∃ fd, mg r.name = some (.ref (He.ga K r.name)) ∧ FunD K r.name r.name (defArgs r.st) (defBody r.st) (defScope r.st) [] [] (He.ga K r.name) fd ∧ Binds K fd r.ps [] ∧ FnScope r.N r.ps (defScope r.st) := fun r hm => by
    obtain ⟨fd, F⟩ := He.SaysD.defs c (d := dfO r) (List.mem_map_of_mem hm)
    have g := He.glo_ok X G (He.SaysD.facts c (f := .glo r.name) (List.mem_append_left _ (List.mem_append_left _ (List.mem_map_of_mem (f := fun r : DR => He.Fa.glo r.name) hm))))
    have o := ok r hm
    unfold okDR at o
    simp only [Bool.and_eq_true] at o
    exact ⟨fd, g, F, FunD.bindsN F (hb r hm), scB_ok o.1.1.1⟩
  refine ⟨fun c hc => ?_, ?_, fun c hc => ?_, fun c hc y hy => ?_, ⟨?_, fun c hc => ?_⟩, nin (by decide), ?_⟩
  · have e := He.exc_ok (fact (f := .exc (cN c)) (List.mem_append_right _ (List.mem_append_left _ (List.mem_map_of_mem (f := fun c => He.Fa.exc (cN c)) hc))))
    have k := kd c hc
    unfold kindB at k
    simp only [Bool.and_eq_true, decide_eq_true_eq] at k
    exact ⟨fglo _ (cN_mem k.1.1.1), e.2.1, e.1, e.2.2.1, e.2.2.2⟩
  · exact ⟨_, He.glo_ok X G (fact (f := .glo "MainError") (by simp)), fun c hc => He.exm_ok (fact (f := .exm (cN c) "MainError" true) (List.mem_append_right _ (List.mem_append_right _ (List.mem_append_left _ (List.mem_map_of_mem (f := fun c => He.Fa.exm (cN c) "MainError" true) hc)))))⟩
  · have k := kd c hc
    unfold kindB at k
    simp only [Bool.and_eq_true] at k
    exact excB_ok k.1.1.2
  · have k := kd c hc
    unfold kindB at k
    simp only [Bool.and_eq_true] at k
    exact ⟨_, fglo y hy, of_decide_eq_true (List.all_eq_true.mp k.1.2 y hy)⟩
  · exact He.free_ok X G (fact (f := .free "ValueError") (by simp))
  · have k := kd c hc
    unfold kindB at k
    simp only [Bool.and_eq_true, decide_eq_true_eq] at k
    exact k.2
  · unfold saidB at sd
    rw [Bool.and_eq_true, decide_eq_true_eq] at sd
    obtain ⟨sn, sd⟩ := sd
    split at sd
    · rename_i a ew a' e w e1 e2 e3
      simp only [Bool.and_eq_true, decide_eq_true_eq] at sd
      obtain ⟨⟨⟨rfl, rfl⟩, ct⟩, cw⟩ := sd
      obtain ⟨fd, g1, F1, b1, s1⟩ := df rs hs
      obtain ⟨fdw, g2, F2, b2, s2⟩ := df rw hw
      rw [sn] at g1 F1
      rw [e1] at b1 s1
      rw [e2] at b2 s2
      exact ⟨rs.st, rw.st, _, _, fd, fdw, rs.N, rw.N, a, e, rw.name, ew, g1, F1, b1, s1, e3, ct, g2, F2, b2, s2, cw⟩
    · cases sd
/-- each def's table -/
theorem tabs_of [LTab] (el : LTab.l = (lds ds).map fun r => ((He.cT K (r.name, none)).2, (r.name ++ ".<locals>." ++ "<lambda>" : Str))) {cn : List (Str × D)} (ex : exB ds cl cn K = true) (X : K.In base) (G : base.Ns mainGlobals mg) (c : He.SaysD (faS ds cl) (fnO ds) K)
    (tb : ∀ p ∈ (lds ds).map fun r => He.cT K (r.name, none), LamX.TabB base mg p.1 p.2) {r : DR} (hml : r ∈ lds ds) (f : Addr) (fd : FuncData) (hf : mg r.name = some (.ref f)) (F : FunD K r.name r.name (defArgs r.st) (defBody r.st) (defScope r.st) [] [] f fd) :
    ∃ c P, fd.code = .ref c ∧ LamX.TabB base mg c P ∧ (P, r.name ++ ".<locals>." ++ "<lambda>") ∈ LTab.l ∧ ∀ z ∈ LTab.l, z.1 = P → z.2 = r.name ++ ".<locals>." ++ "<lambda>" := by
  have hm : r ∈ ds := (List.mem_filter.mp hml).1
  unfold exB at ex
  simp only [Bool.and_eq_true] at ex
  have g := He.glo_ok X G (He.SaysD.facts c (f := .glo r.name) (List.mem_append_left _ (List.mem_append_left _ (List.mem_map_of_mem (f := fun r : DR => He.Fa.glo r.name) hm))))
  rw [hf] at g
  cases g
  obtain ⟨oc, od, dV, kV, doc, pm, an, cdv, ct, osl, rfl, lk, hcd, _, _⟩ := F.ex
  obtain ⟨c0, rfl⟩ := He.codeIn_ref hcd
  have e : He.codeOf K (r.name, none) = c0 := He.codeOf_eq lk rfl
  refine ⟨c0, (He.cT K (r.name, none)).2, rfl, ?_, by rw [el]; exact List.mem_map_of_mem (f := fun r : DR => ((He.cT K (r.name, none)).2, (r.name ++ ".<locals>." ++ "<lambda>" : Str))) hml, fun z hz ez => ?_⟩
  · have t := tb _ (List.mem_map_of_mem (f := fun r : DR => He.cT K (r.name, none)) hml)
    rw [show (He.cT K (r.name, none)).1 = c0 from e] at t
    exact t
  · rw [el] at hz
    obtain ⟨r', hm', rfl⟩ := List.mem_map.mp hz
    have := dst_inj ex.2.2 r' hm' r hml ez
    rw [this]
theorem walk_mfs {l : PySem.W.OpenLaw} {n k i nn : Nat} {q : Program} {loose : List Str} {XP : (Str → Option Value) → Heap → Prop} {d : DefRec} {x : Str} {rl rs rw : DR}
    (hn : l.most = some n) (hn2 : n ≤ sizeLine) (hdf : d.params.defaults = []) (hr : Room k callerA) (nm : ci.fns = ds.map (·.name)) (ok : ∀ r ∈ ds, okDR ci r = true) (hb : ∀ r ∈ ds, Bd r) (hi : ds[i]? = some rl) (hd : d.name = rl.name) (hps : rl.ps = [x]) (hs : rs ∈ ds) (hw : rw ∈ ds) (sd : saidB rs rw = true)
    (math : ∀ ns : List Int, ns.length ≤ n → ∃ h, callF cs (Prs ci.cl ds) k i [.scr ns] [] = .ok (.t (.bool true)) h) :
    PySem.W.WalkO q loose XP (hookS nn ds ci.cl (ci.cons.zip cs)).says l.row.toRowW d [] (fun f vs => PySem.call f vs) := by
  refine Att.attach_call hn hdf fun w s₀ s₁ mg mb fa o pm cd doc a vs ns G Y ho hdd hcd hmg hobj hints hlen hg => ?_
  obtain ⟨⟨K, KX, sx⟩, hsys⟩ := Y
  have c := sx.t.d
  have ex := sx.more
  have cc : (ci.cons.zip cs).all (conB K) = true := by
    unfold exB at ex
    simp only [Bool.and_eq_true] at ex
    exact ex.1
  rw [hd] at hmg
  have hm := List.mem_of_getElem? hi
  obtain ⟨fd0, F0⟩ := He.SaysD.defs c (d := dfO rl) (List.mem_map_of_mem hm)
  have g0 : mg rl.name = some (.ref (He.ga K rl.name)) := He.glo_ok KX G.T.g (He.SaysD.facts c (f := .glo rl.name) (List.mem_append_left _ (List.mem_append_left _ (List.mem_map_of_mem (f := fun r : DR => He.Fa.glo r.name) hm))))
  rw [hmg] at g0
  cases g0
  have hbd : ∀ (s : Shared) (u : Value), BindsTo s fd0 ⟨[u], []⟩ [(x, u)] := fun s u => by
    have z := FunD.bindsA (ps := rl.ps) F0 (hb rl hm) s [u] (by rw [hps]; rfl)
    rw [hps] at z
    exact z
  have tf : ∀ {p : Addr × Addr}, p ∈ (lds ds).map (fun r => He.cT K (r.name, none)) → ∃ r ∈ lds ds, p = He.cT K (r.name, none) := fun hp => by
    obtain ⟨r, h1, h2⟩ := List.mem_map.mp hp
    exact ⟨r, h1, h2.symm⟩
  have mtf : ∀ {r : DR}, r ∈ lds ds → ((r.name, none) : He.Defn) ∈ tfS ds := fun h => List.mem_map_of_mem (f := fun r : DR => ((r.name, none) : He.Defn)) h
  letI : LTab := ⟨(lds ds).map fun r => ((He.cT K (r.name, none)).2, (r.name ++ ".<locals>." ++ "<lambda>" : Str))⟩
  refine law_gs (ts := (lds ds).map fun r => He.cT K (r.name, none)) (sp := spF K (fun c => He.ga K (cN c)) (callF cs (Prs ci.cl ds) k) i 1) KX G.T.g G.T.b G.T.builtins G.T.nolimit hg (fun p hp => ?_) (fun p hp => ?_) (fun p hp => ?_) G.T.bmain hobj hints (Nat.le_trans hlen hn2) hr hsys (fun base kin kns ksys tabs => ?_) hbd fun H full seq => ?_
  · obtain ⟨r, h1, rfl⟩ := tf hp
    exact sx.empty _ (mtf h1)
  · obtain ⟨r, h1, rfl⟩ := tf hp
    exact sx.out _ (mtf h1)
  · obtain ⟨r, h1, rfl⟩ := tf hp
    exact sx.hd _ (mtf h1)
  · have Gm0 := gm_of (ca := fun c => He.ga K (cN c)) nm ok hb kin kns ksys c cc (fun _ => saidM_of ok hb hs hw sd kin kns c ex) fun _ r hr hlm f fd => tabs_of rfl ex kin kns c tabs (List.mem_filter.mpr ⟨hr, hlm⟩) f fd
    obtain ⟨f, fd, q1, q2, q3, q4⟩ := all_fns (P := l.prog) (w := w) (ca := fun c => He.ga K (cN c)) Gm0 k i rl hi
    rw [hmg] at q1
    cases q1
    rw [hps] at q4
    obtain ⟨_, _, _, _, _, _, _, _, _, _, _, l1, _⟩ := F0.ex
    obtain ⟨_, _, _, _, _, _, _, _, _, _, _, l2, _⟩ := q2.ex
    have l3 := l1.symm.trans l2
    cases l3
    exact q4
  · obtain ⟨h', e⟩ := math ns hlen
    refine ⟨rfl, fun _ => False, [], [], [.scr ns], ⟨fun z hz => ?_, rfl, fun i j a e => by simp at e, fun a z => z.elim, fun a z => z.elim, fun k o a e => by simp at e⟩, .cons (.scr ?_) .nil, ?_⟩
    · obtain ⟨r, h1, rfl⟩ := List.mem_map.mp hz
      exact LamX.TabS.nil (full _ (List.mem_map_of_mem (f := fun r : DR => He.cT K (r.name, none)) h1))
    · rcases seq with z | z
      · refine .inl ⟨fun m => ?_, z⟩
        rcases m with m | ⟨k, o, m, _⟩
        · exact m
        · simp at m
      · exact .inr fun H2 => .inr z
    · rw [e]
      intro φ' H' X S v rv
      cases rv with
      | t rv => cases rv; rfl
end
end MF

set_option Elab.async false
set_option linter.all false
set_option maxRecDepth 100000
set_option maxHeartbeats 4000000
/-! plain mathematics of the evaluator: outcomes, loops, sizes of what is shown -/
namespace MF
open PySem L2

inductive Tr {α : Type} (m : Res α) (Q : α → Hs → Prop) : Prop
  | mk (a : α) (h : Hs) (e : m = .ok a h) (q : Q a h) : Tr m Q
theorem Tr.eq {α : Type} {m : Res α} {Q : α → Hs → Prop} : Tr m Q ↔ ∃ a h, m = .ok a h ∧ Q a h := ⟨fun ⟨a, h, e, q⟩ => ⟨a, h, e, q⟩, fun ⟨a, h, e, q⟩ => ⟨a, h, e, q⟩⟩
theorem Tr.ok {α : Type} {a : α} {h : Hs} {Q : α → Hs → Prop} : Tr (.ok a h) Q ↔ Q a h := ⟨fun ⟨_, _, e, q⟩ => by cases e; exact q, fun q => ⟨_, _, rfl, q⟩⟩
theorem Tr.nbad {α : Type} {Q : α → Hs → Prop} (t : Tr .bad Q) : False := by
  obtain ⟨_, _, e, _⟩ := t
  cases e
theorem Tr.nexc {α : Type} {c : Nat} {v : D} {h : Hs} {Q : α → Hs → Prop} (t : Tr (.exc c v h) Q) : False := by
  obtain ⟨_, _, e, _⟩ := t
  cases e
theorem Tr.bind {α β : Type} {m : Res α} {f : α → Hs → Res β} {Q : β → Hs → Prop} : Tr (m.bind f) Q ↔ Tr m (fun a h => Tr (f a h) Q) := by
  cases m with
  | ok a h => rw [Tr.ok]; rfl
  | exc c v h => exact ⟨fun q => (Tr.nexc q).elim, fun q => (Tr.nexc q).elim⟩
  | bad => exact ⟨fun q => (Tr.nbad q).elim, fun q => (Tr.nbad q).elim⟩
theorem Tr.cong {α : Type} {m m' : Res α} {Q : α → Hs → Prop} (h : m = m') : Tr m Q = Tr m' Q := by rw [h]
theorem Res.bind_cong {α β : Type} {m m' : Res α} {f : α → Hs → Res β} (h : m = m') : m.bind f = m'.bind f := by rw [h]
theorem Tr.mono {α : Type} {m : Res α} {Q Q' : α → Hs → Prop} (h : Tr m Q) (g : ∀ a h, Q a h → Q' a h) : Tr m Q' := by
  obtain ⟨a, h, e, q⟩ := h
  exact ⟨a, h, e, g _ _ q⟩
theorem Tr.of {α : Type} {m : Res α} {a : α} {h : Hs} {Q : α → Hs → Prop} (e : m = .ok a h) (q : Q a h) : Tr m Q := ⟨a, h, e, q⟩
theorem Tr.opt {α : Type} {o : Option α} {h : Hs} {a : α} {Q : α → Hs → Prop} (e : o = some a) (q : Q a h) : Tr (Res.opt o h) Q := by rw [e]; exact ⟨_, _, rfl, q⟩
/-- a loop -/
theorem forL_tr {f : D → Ev → Hs → Res Fl} {xs : List D} {env : Ev} {h : Hs} {Q : Fl → Hs → Prop} (I : Nat → Ev → Hs → Prop) (h0 : I 0 env h)
    (step : ∀ i x e h, xs[i]? = some x → I i e h → Tr (f x e h) (fun l h' => match l with
      | .nx e' => I (i + 1) e' h'
      | .ct e' => I (i + 1) e' h'
      | .bk e' => Q (.nx e') h'
      | .rt w => Q (.rt w) h')) (fin : ∀ e h, I xs.length e h → Q (.nx e) h) : Tr (forL f xs env h) Q := by
  have go : ∀ (ys : List D) (i : Nat) (e : Ev) (h : Hs), i + ys.length = xs.length → ys = xs.drop i → I i e h → Tr (forL f ys e h) Q := by
    intro ys
    induction ys with
    | nil =>
      intro i e h hl hy hI
      have : i = xs.length := by simpa using hl
      subst this
      exact ⟨_, _, rfl, fin e h hI⟩
    | cons x ys ih =>
      intro i e h hl hy hI
      have hx : xs[i]? = some x := by
        have := congrArg (·[0]?) hy
        simpa using this.symm
      have hy2 : ys = xs.drop (i + 1) := by
        rw [← List.drop_drop, ← hy]; rfl
      have hl2 : (i + 1) + ys.length = xs.length := by simp at hl; omega
      show Tr ((f x e h).bind fun l h1 => match l with
        | .nx e => forL f ys e h1
        | .ct e => forL f ys e h1
        | .bk e => .ok (.nx e) h1
        | .rt w => .ok (.rt w) h1) Q
      rw [Tr.bind]
      refine (step i x e h hx hI).mono fun l h' q => ?_
      cases l with
      | nx e' => exact ih (i + 1) e' h' hl2 hy2 q
      | ct e' => exact ih (i + 1) e' h' hl2 hy2 q
      | bk e' => exact Tr.ok.mpr q
      | rt w => exact Tr.ok.mpr q
  exact go xs 0 env h (by simp) (by simp) h0
/-- a comprehension: the results one by one, the heap by an invariant -/
theorem compL_tr {f : D → Hs → Res (Option D)} {xs : List D} {h : Hs} (I : Hs → Prop) (P : D → Prop) (h0 : I h) (step : ∀ x h, x ∈ xs → I h → Tr (f x h) (fun o h' => I h' ∧ ∀ y, o = some y → P y)) :
    Tr (compL f xs h) (fun ys h' => I h' ∧ (∀ y ∈ ys, P y) ∧ ys.length ≤ xs.length) := by
  induction xs generalizing h with
  | nil => exact Tr.ok.mpr ⟨h0, fun y hy => by simp at hy, Nat.le_refl _⟩
  | cons x xs ih =>
    show Tr ((f x h).bind fun o h1 => (compL f xs h1).bind fun ys h2 => .ok (match o with | some y => y :: ys | none => ys) h2) _
    rw [Tr.bind]
    refine (step x h List.mem_cons_self h0).mono fun o h1 ⟨i1, p1⟩ => ?_
    rw [Tr.bind]
    refine (ih i1 fun x h hx => step x h (List.mem_cons_of_mem _ hx)).mono fun ys h2 ⟨i2, p2, l2⟩ => ?_
    cases o with
    | none => exact Tr.ok.mpr ⟨i2, p2, Nat.le_succ_of_le l2⟩
    | some y => exact Tr.ok.mpr ⟨i2, fun z hz => by rcases List.mem_cons.mp hz with rfl | hz; exact p1 _ rfl; exact p2 z hz, Nat.succ_le_succ l2⟩
/-- a comprehension without tests that changes nothing: a map -/
theorem compL_map {f : D → Hs → Res (Option D)} {g : D → D} {xs : List D} {h : Hs} (e : ∀ x ∈ xs, f x h = .ok (some (g x)) h) : compL f xs h = .ok (xs.map g) h := by
  induction xs with
  | nil => rfl
  | cons x xs ih =>
    show (f x h).bind _ = _
    rw [e x List.mem_cons_self]
    show (compL f xs h).bind _ = _
    rw [ih fun y hy => e y (List.mem_cons_of_mem _ hy)]
    rfl
theorem compL_filter {f : D → Hs → Res (Option D)} {g : D → D} {p : D → Bool} {xs : List D} {h : Hs} (e : ∀ x ∈ xs, f x h = .ok (if p x then some (g x) else none) h) : compL f xs h = .ok ((xs.filter p).map g) h := by
  induction xs with
  | nil => rfl
  | cons x xs ih =>
    show (f x h).bind _ = _
    rw [e x List.mem_cons_self]
    show (compL f xs h).bind _ = _
    rw [ih fun y hy => e y (List.mem_cons_of_mem _ hy)]
    cases hp : p x with
    | true => simp [hp]
    | false => simp [hp]
theorem nox_ok {α : Type} {m : Res α} {a : α} {h : Hs} (e : m = .ok a h) : m.nox = .ok a h := by rw [e]; rfl
theorem Tr.nox {α : Type} {m : Res α} {Q : α → Hs → Prop} (h : Tr m Q) : Tr m.nox Q := by
  obtain ⟨a, h', e, q⟩ := h
  exact ⟨a, h', by rw [e]; rfl, q⟩
theorem atI_in {xs : List D} {i : Int} (h0 : 0 ≤ i) (h1 : i < xs.length) : ∃ d, atI xs i = some d ∧ d ∈ xs ∧ xs[i.toNat]? = some d := by
  have hi : i.toNat < xs.length := by omega
  refine ⟨xs[i.toNat], ?_, List.getElem_mem hi, List.getElem?_eq_getElem hi⟩
  unfold atI ixN
  rw [if_pos h0, if_pos h1]
  exact List.getElem?_eq_getElem hi

/-! ### what is shown -/
/-- shown at all, nested at most m, in at most n signs -/
def Sh (m n : Nat) (d : D) : Prop := d.showable = true ∧ d.depth ≤ m ∧ d.shown.length ≤ n
theorem Sh.le {m n m' n' : Nat} {d : D} (h : Sh m n d) (hm : m ≤ m') (hn : n ≤ n') : Sh m' n' d := ⟨h.1, Nat.le_trans h.2.1 hm, Nat.le_trans h.2.2 hn⟩
theorem Sh.rep {m n : Nat} {d : D} (h : Sh m n d) (hm : m ≤ 60) (hn : n ≤ lim) : repOk d = true := by
  unfold repOk
  simp only [Bool.and_eq_true, decide_eq_true_eq]
  exact ⟨⟨h.1, Nat.le_trans h.2.1 hm⟩, Nat.le_trans h.2.2 hn⟩
theorem join_le {k : Nat} : ∀ ts : List Str, (∀ t ∈ ts, t.length ≤ k) → (Str.join ", " ts).length ≤ ts.length * (k + 2)
  | [], _ => by
    show Str.length (Str.join ", " []) ≤ 0 * _
    rw [Nat.zero_mul]
    exact Nat.le_of_eq rfl
  | [x], h => by
    show x.length ≤ _
    have := h x List.mem_cons_self
    simp; omega
  | x :: y :: r, h => by
    show (x ++ ", " ++ Str.join ", " (y :: r)).length ≤ _
    have e2 : ((", " : String) : Str).length = 2 := rfl
    rw [Str.length_append, Str.length_append, e2]
    have h1 := h x List.mem_cons_self
    have h2 := join_le (y :: r) fun t ht => h t (List.mem_cons_of_mem _ ht)
    simp only [List.length_cons, Nat.add_mul, Nat.one_mul] at h2 ⊢
    omega
theorem shownAll_map : ∀ ds : List D, PyData.shownAll ds = ds.map PyData.shown
  | [] => rfl
  | d :: ds => by rw [PyData.shownAll, shownAll_map ds]; rfl
theorem depthAll_le {m : Nat} : ∀ {ds : List D}, (∀ d ∈ ds, d.depth ≤ m) → PyData.depthAll ds ≤ m
  | [], _ => Nat.zero_le _
  | d :: ds, h => by
    rw [PyData.depthAll]
    exact Nat.max_le.mpr ⟨h d List.mem_cons_self, depthAll_le fun x hx => h x (List.mem_cons_of_mem _ hx)⟩
theorem showableAll_of : ∀ {ds : List D}, (∀ d ∈ ds, d.showable = true) → PyData.showableAll ds = true
  | [], _ => rfl
  | d :: ds, h => by
    rw [PyData.showableAll, h d List.mem_cons_self, showableAll_of fun x hx => h x (List.mem_cons_of_mem _ hx)]; rfl
theorem Sh.tuple {m n k : Nat} {ds : List D} (h : ∀ d ∈ ds, Sh m n d) (hk : ds.length ≤ k) : Sh (m + 1) (k * (n + 2) + 3) (.tuple ds) := by
  refine ⟨by rw [PyData.showable]; exact showableAll_of fun d hd => (h d hd).1, by rw [PyData.depth]; exact Nat.succ_le_succ (depthAll_le fun d hd => (h d hd).2.1), ?_⟩
  have e : (PyData.tuple ds).shown = tupleText (ds.map PyData.shown) := by rw [PyData.shown, shownAll_map]
  rw [e]
  have hj := join_le (k := n) (ds.map PyData.shown) fun t ht => by
    obtain ⟨d, hd, rfl⟩ := List.mem_map.mp ht
    exact (h d hd).2.2
  rw [List.length_map] at hj
  have hl : ds.length * (n + 2) ≤ k * (n + 2) := Nat.mul_le_mul_right _ hk
  unfold tupleText
  rw [Str.length_append, Str.length_append]
  have e1 : (("(" : String) : Str).length = 1 := rfl
  have e2 : ((if (ds.map PyData.shown).length == 1 then ",)" else ")" : String) : Str).length ≤ 2 := by
    split
    · exact Nat.le_refl _
    · exact Nat.le_succ _
  have e1' : Str.length ("(" : Str) = 1 := rfl
  omega
theorem from_le {n : Nat} : ∀ (ts : List Str) (k : Nat) (acc : Str), (∀ t ∈ ts, t.length ≤ n) → (textFrom k acc ts).length ≤ acc.length + ts.length * (n + 2)
  | [], k, acc, _ => by show acc.length ≤ _; simp
  | t :: ts, k, acc, h => by
    show (textFrom (k + 1) (acc ++ (if k > 0 then ", " else "" : String) ++ t) ts).length ≤ _
    have ih := from_le ts (k + 1) (acc ++ (if k > 0 then ", " else "" : String) ++ t) fun u hu => h u (List.mem_cons_of_mem _ hu)
    have e : (acc ++ (if k > 0 then ", " else "" : String) ++ t).length ≤ acc.length + 2 + t.length := by
      rw [Str.length_append, Str.length_append]
      have : ((if k > 0 then ", " else "" : String) : Str).length ≤ 2 := by
        split
        · exact Nat.le_refl _
        · exact Nat.zero_le _
      omega
    have ht := h t List.mem_cons_self
    simp only [List.length_cons, Nat.add_mul, Nat.one_mul] at ih ⊢
    omega
theorem Sh.list {m n k : Nat} {ds : List D} (h : ∀ d ∈ ds, Sh m n d) (hk : ds.length ≤ k) : Sh (m + 1) (k * (n + 2) + 3) (.list ds) := by
  refine ⟨by rw [PyData.showable]; exact showableAll_of fun d hd => (h d hd).1, by rw [PyData.depth]; exact Nat.succ_le_succ (depthAll_le fun d hd => (h d hd).2.1), ?_⟩
  have e : (PyData.list ds).shown = listText (ds.map PyData.shown) := by rw [PyData.shown, shownAll_map]
  rw [e]
  have hj := from_le (n := n) (ds.map PyData.shown) 0 "[" fun t ht => by
    obtain ⟨d, hd, rfl⟩ := List.mem_map.mp ht
    exact (h d hd).2.2
  rw [List.length_map] at hj
  have hl : ds.length * (n + 2) ≤ k * (n + 2) := Nat.mul_le_mul_right _ hk
  unfold listText
  rw [Str.length_append]
  have e1 : Str.length ("[" : Str) = 1 := rfl
  have e2 : Str.length ("]" : Str) = 1 := rfl
  omega
theorem Sh.int {i : Int} {k : Nat} (hk : 0 < k) (h : i.natAbs < 10 ^ k) (hk2 : k ≤ 500) : Sh 0 (k + 1) (.int i) := by
  refine ⟨?_, Nat.le_refl _, ?_⟩
  · rw [PyData.showable]
    refine decide_eq_true ?_
    by_cases h0 : i.natAbs = 0
    · rw [h0]; decide
    · refine (Nat.log2_lt h0).mpr ?_
      refine Nat.lt_of_lt_of_le h ?_
      have h1 : (10 : Nat) ^ k ≤ 10 ^ 500 := Nat.pow_le_pow_right (by decide) hk2
      have h2 : (10 : Nat) ^ 500 ≤ 2 ^ 1920 := by decide +kernel
      exact Nat.le_trans h1 h2
  · rw [PyData.shown]
    rw [ofString_length]
    exact int_text_length_le10 hk h
theorem Sh.non : Sh 0 4 .none := ⟨rfl, Nat.le_refl _, by rw [PyData.shown]; exact Nat.le_of_eq rfl⟩
theorem Sh.bl {b : Bool} : Sh 0 5 (.bool b) := by
  refine ⟨rfl, Nat.le_refl _, ?_⟩
  rw [PyData.shown]
  cases b
  · exact Nat.le_of_eq rfl
  · exact Nat.le_succ _
/-! ### the evaluator, step by step -/
section
variable {cs : List D} {cf : Nat → List W → Hs → Res W} {env : Ev} {h : Hs}
@[simp] theorem ev_var {i : Nat} : ev cs cf (.var i) env h = match env[i]? with | some (some w) => .ok w h | _ => .bad := by rw [ev] <;> rfl
@[simp] theorem ev_con {j : Nat} : ev cs cf (.con j) env h = Res.opt ((cs[j]?).map .t) h := by rw [ev]
@[simp] theorem ev_lit {d : D} : ev cs cf (.lit d) env h = .ok (.t d) h := by rw [ev]
@[simp] theorem ev_bin {o : Op2} {a b : E} : ev cs cf (.bin o a b) env h = (ev cs cf a env h).bind fun x h1 => (ev cs cf b env h1).bind fun y h2 => Res.opt ((x.peek h2).bind fun d => (y.peek h2).bind fun e => (binD o d e).map .t) h2 := by rw [ev]
@[simp] theorem ev_neg {a : E} : ev cs cf (.neg a) env h = (ev cs cf a env h).bind fun x h1 => match x with | .t (.int i) => .ok (.t (.int (-i))) h1 | _ => .bad := by rw [ev] <;> rfl
@[simp] theorem ev_cmp {o : Cp} {a b : E} : ev cs cf (.cmp o a b) env h = (ev cs cf a env h).bind fun x h1 => (ev cs cf b env h1).bind fun y h2 => Res.opt ((x.peek h2).bind fun d => (y.peek h2).bind fun e => (cmpD o d e).map fun r => .t (.bool r)) h2 := by rw [ev]
@[simp] theorem ev_chain {o p : Cp} {a b c : E} : ev cs cf (.chain o p a b c) env h = (ev cs cf a env h).bind fun x h1 => (ev cs cf b env h1).bind fun y h2 => (Res.opt ((x.peek h2).bind fun d => (y.peek h2).bind fun e => cmpD o d e) h2).bind fun r h3 => if r = true then (ev cs cf c env h3).bind fun z h4 => Res.opt ((y.peek h4).bind fun d => (z.peek h4).bind fun e => (cmpD p d e).map fun q => .t (.bool q)) h4 else .ok (.t (.bool false)) h3 := by rw [ev]
@[simp] theorem ev_and {a b : E} : ev cs cf (.and a b) env h = (ev cs cf a env h).bind fun x h1 => (Res.opt (truW x h1) h1).bind fun r h2 => if r = true then ev cs cf b env h2 else .ok x h2 := by rw [ev]
@[simp] theorem ev_or {a b : E} : ev cs cf (.or a b) env h = (ev cs cf a env h).bind fun x h1 => (Res.opt (truW x h1) h1).bind fun r h2 => if r = true then .ok x h2 else ev cs cf b env h2 := by rw [ev]
@[simp] theorem ev_not {a : E} : ev cs cf (.not a) env h = (ev cs cf a env h).bind fun x h1 => (Res.opt (truW x h1) h1).bind fun r h2 => .ok (.t (.bool (!r))) h2 := by rw [ev]
@[simp] theorem ev_ife {c a b : E} : ev cs cf (.ife c a b) env h = (ev cs cf c env h).bind fun x h1 => (Res.opt (truW x h1) h1).bind fun r h2 => if r = true then ev cs cf a env h2 else ev cs cf b env h2 := by rw [ev]
def tupW (ws : List W) (h1 : Hs) : Res W := match ws with
  | [.ref k, y] => .ok (.pr (.ref k) y) h1
  | [.t d, .ref k] => .ok (.pr (.t d) (.ref k)) h1
  | _ => (Res.opt (frzs ws h1) h1).bind fun p _ => .ok (.t (.tuple p.1)) p.2
@[simp] theorem ev_tup {es : Es} : ev cs cf (.tup es) env h = (evs cs cf es env h).bind tupW := by rw [ev] <;> rfl
@[simp] theorem ev_lst {es : Es} : ev cs cf (.lst es) env h = (evs cs cf es env h).bind fun ws h1 => (Res.opt (frzs ws h1) h1).bind fun p _ => .ok (.t (.list p.1)) p.2 := by rw [ev]
@[simp] theorem ev_own {e : E} : ev cs cf (.own e) env h = (ev cs cf e env h).bind ownW := by rw [ev]
def ixW (x y : W) (h2 : Hs) : Res W := match x, y with
    | .pr u v, .t (.int i) => if i = 0 then .ok u h2 else if i = 1 then .ok v h2 else .bad
    | .scr ns, .t (.int i) => Res.opt ((atI ns i).map fun n => .t (.int n)) h2
    | x, y => Res.opt ((x.peek h2).bind fun d => (y.peek h2).bind fun e => (ixD d e).map .t) h2
@[simp] theorem ev_ix {a b : E} : ev cs cf (.ix a b) env h = (ev cs cf a env h).bind fun x h1 => (ev cs cf b env h1).bind fun y h2 => ixW x y h2 := by rw [ev] <;> rfl
@[simp] theorem ixW_t {d : D} {y : W} : ixW (.t d) y h = Res.opt ((y.peek h).bind fun e => (ixD d e).map .t) h := rfl
@[simp] theorem ixW_ref {k : Nat} {y : W} : ixW (.ref k) y h = Res.opt (((W.ref k).peek h).bind fun d => (y.peek h).bind fun e => (ixD d e).map .t) h := rfl
@[simp] theorem ixW_scr {ns : List Int} {i : Int} : ixW (.scr ns) (.t (.int i)) h = Res.opt ((atI ns i).map fun n => .t (.int n)) h := rfl
def slW (x : W) (l u : Option Int) (h3 : Hs) : Res W := match x with
    | .scr ns => .ok (.t (.list ((cutD ns l u).map .int))) h3
    | x => Res.opt ((x.peek h3).bind fun d => (slD d l u).map .t) h3
@[simp] theorem ev_sl {a : E} {lo hi : Eo} : ev cs cf (.sl a lo hi) env h = (ev cs cf a env h).bind fun x h1 => (evo cs cf lo env h1).bind fun l h2 => (evo cs cf hi env h2).bind fun u h3 => slW x l u h3 := by rw [ev] <;> rfl
@[simp] theorem slW_t {d : D} {l u : Option Int} : slW (.t d) l u h = Res.opt ((slD d l u).map .t) h := rfl
@[simp] theorem slW_scr {ns : List Int} {l u : Option Int} : slW (.scr ns) l u h = .ok (.t (.list ((cutD ns l u).map .int))) h := rfl
@[simp] theorem ev_rev {a : E} : ev cs cf (.rev a) env h = (ev cs cf a env h).bind fun x h1 => Res.opt ((x.peek h1).bind fun d => (revD d).map .t) h1 := by rw [ev]
@[simp] theorem ev_isi {a : E} {T : String} : ev cs cf (.isi a T) env h = (ev cs cf a env h).bind fun x h1 => Res.opt ((x.peek h1).map fun d => .t (.bool (isD T d))) h1 := by rw [ev]
@[simp] theorem ev_call {f : Nat} {es : Es} : ev cs cf (.call f es) env h = (evs cs cf es env h).bind fun ws h1 => cf f ws h1 := by rw [ev]
def biW (b : Bi) (ws : List W) (h1 : Hs) : Res W := match b, ws with
    | .len, [.scr ns] => .ok (.t (.int ns.length)) h1
    | b, ws => Res.opt ((peeks ws h1).bind fun ds => (biD b ds).map .t) h1
@[simp] theorem ev_bi {b : Bi} {es : Es} : ev cs cf (.bi b es) env h = (evs cs cf es env h).bind (biW b) := by rw [ev] <;> rfl
@[simp] theorem biW_scr {ns : List Int} : biW .len [.scr ns] h = .ok (.t (.int ns.length)) h := rfl
@[simp] theorem biW_t1 {b : Bi} {d : D} : biW b [.t d] h = Res.opt ((biD b [d]).map .t) h := by cases b <;> rfl
@[simp] theorem biW_r1 {b : Bi} {k : Nat} : biW b [.ref k] h = Res.opt (((W.ref k).peek h).bind fun d => (biD b [d]).map .t) h := by
  cases b <;> (show Res.opt ((peeks [.ref k] h).bind _) h = _; unfold peeks; cases (W.ref k).peek h <;> rfl)
@[simp] theorem biW_t2 {b : Bi} {d e : D} : biW b [.t d, .t e] h = Res.opt ((biD b [d, e]).map .t) h := by cases b <;> rfl
@[simp] theorem ev_mt {m : Mt} {o : E} {es : Es} : ev cs cf (.mt m o es) env h = (ev cs cf o env h).bind fun x h1 => (Res.opt (mtT m x h1) h1).bind fun _ h1 => (evs cs cf es env h1).bind fun ws h2 => mtW m x ws h2 := by rw [ev]
def compG (cs : List D) (cf : Nat → List W → Hs → Res W) (elt : E) (tg : Tg) (own : List Nat) (c : Eo) (env : Ev) : D → Hs → Res (Option D) := fun x h => (Res.opt (asgT tg x (wipeW env own)) h).bind fun e1 h => match c with
        | .no => (ev cs cf elt e1 h).bind fun w h => (Res.opt (w.frz h) h).bind fun p _ => .ok (some p.1) p.2
        | .so c => (ev cs cf c e1 h).bind fun b h => (Res.opt (truW b h) h).bind fun r h =>
            if r = true then (ev cs cf elt e1 h).bind fun w h => (Res.opt (w.frz h) h).bind fun p _ => .ok (some p.1) p.2 else .ok none h
@[simp] theorem ev_compG {elt : E} {tg : Tg} {own : List Nat} {it : I} {c : Eo} : ev cs cf (.comp elt tg own it c) env h = (evI cs cf it env h).bind fun xs h1 => ((compL (compG cs cf elt tg own c env) xs h1).nox).bind fun ys h2 => .ok (.t (.list ys)) h2 := by rw [ev] <;> rfl
@[simp] theorem ev_mxd {mx : Bool} {a d : E} : ev cs cf (.mxd mx a d) env h = (ev cs cf a env h).bind fun x h1 => (ev cs cf d env h1).bind fun y h2 => Res.opt ((x.peek h2).bind fun l => (intW y).bind fun c => (mxdD mx l c).map .t) h2 := by rw [ev]
@[simp] theorem ev_cpy {a : E} : ev cs cf (.cpy a) env h = (ev cs cf a env h).bind fun x h1 => Res.opt ((x.peek h1).bind fun d => (cpyD d).map .t) h1 := by rw [ev]
@[simp] theorem ev_cat {a b : E} : ev cs cf (.cat a b) env h = (ev cs cf a env h).bind fun x h1 => (ev cs cf b env h1).bind fun y h2 => (Res.opt ((x.peek h2).bind fun d => (y.peek h2).bind fun e => catL d e) h2).bind fun zs h3 => .ok (.ref h3.length) (h3 ++ [.lst zs]) := by rw [ev]
@[simp] theorem ev_said {f : Nat} {es : Es} : ev cs cf (.said f es) env h = ((evs cs cf es env h).nox).bind fun ws h1 => cf f ws h1 := by rw [ev]
@[simp] theorem ev_srs {a : E} : ev cs cf (.srs a) env h = (ev cs cf a env h).bind fun x h1 => (Res.opt (srsW x) h1).bind fun xs h2 => .ok (.t (.list xs)) h2 := by rw [ev]
@[simp] theorem ev_dsp {i : Nat} {c : Int} : ev cs cf (.dsp i c) env h = match env[i]? with | some (some (.t (.int n))) => .ok (.t (.dict [(.int n, .int c)])) h | _ => .bad := by rw [ev] <;> rfl
@[simp] theorem ev_vls {a : E} : ev cs cf (.vls a) env h = (ev cs cf a env h).bind fun x h1 => Res.opt ((x.peek h1).bind fun d => (valsD d).map fun l => .t (.list l)) h1 := by rw [ev]
@[simp] theorem ev_mnv {a : E} : ev cs cf (.mnv a) env h = (ev cs cf a env h).bind fun x h1 => Res.opt ((x.peek h1).bind fun d => (valsD d).bind fun l => (intsD l).bind fun ns => (minL ns).map fun m => .t (.int m)) h1 := by rw [ev]
@[simp] theorem ev_lzp {es : Es} : ev cs cf (.lzp es) env h = (evs cs cf es env h).bind fun ws h1 => (Res.opt (seqsW false ws) h1).bind fun ls h2 => .ok (.t (.list ((zipN ls).map .tuple))) h2 := by rw [ev]
@[simp] theorem evI_ezp {es : Es} : evI cs cf (.ezp es) env h = (evs cs cf es env h).bind fun ws h1 => (Res.opt (seqsW false ws) h1).bind fun ls h2 => .ok (enmD ((zipN ls).map .tuple)) h2 := by rw [evI]
@[simp] theorem evI_itm {e : E} : evI cs cf (.itm e) env h = (ev cs cf e env h).bind fun w h1 => (thaw w h1).bind fun d h2 => Res.opt (itmD d) h2 := by rw [evI]
@[simp] theorem ev_lrg1 {tp : Bool} {a : E} : ev cs cf (.lrg1 tp a) env h = (ev cs cf a env h).bind fun x h1 => (Res.opt (intW x) h1).bind fun i h2 => if rngOk i then .ok (.t (seqT tp (rngD 0 i.toNat))) h2 else .bad := by rw [ev]
@[simp] theorem ev_lrg3 {a b c : E} : ev cs cf (.lrg3 a b c) env h = (ev cs cf a env h).bind fun x h1 => (ev cs cf b env h1).bind fun y h2 => (ev cs cf c env h2).bind fun z h3 => (Res.opt (intW x) h3).bind fun i h4 => (Res.opt (intW y) h4).bind fun j h5 => (Res.opt (intW z) h5).bind fun k h6 => if rng3Ok i j k then .ok (.t (.list (rng3D i k (Builtin.Range.rangeSize i j k).toNat))) h6 else .bad := by rw [ev]
@[simp] theorem evI_zipr {a b : E} : evI cs cf (.zipr a b) env h = (ev cs cf a env h).bind fun x h1 => (Res.opt (treeSeq x) h1).bind fun xs h1 => (ev cs cf b env h1).bind fun y h2 => (Res.opt (treeSeq y) h2).bind fun ys h2 => .ok ((zipN [xs.reverse, ys.reverse]).map .tuple) h2 := by rw [evI]
@[simp] theorem treeSeq_t {d : D} : treeSeq (.t d) = seqD d := rfl
@[simp] theorem ev_dnew : ev cs cf .dnew env h = .ok (.t (.dict [])) h := by rw [ev]
@[simp] theorem evs_nil : evs cs cf .nil env h = .ok [] h := by rw [evs]
@[simp] theorem evs_cons {e : E} {es : Es} : evs cs cf (.cons e es) env h = (ev cs cf e env h).bind fun w h1 => (evs cs cf es env h1).bind fun ws h2 => .ok (w :: ws) h2 := by rw [evs]
@[simp] theorem evo_no : evo cs cf .no env h = .ok none h := by rw [evo]
@[simp] theorem evo_so {e : E} : evo cs cf (.so e) env h = (ev cs cf e env h).bind fun w h1 => (Res.opt (intW w) h1).bind fun i h2 => .ok (some i) h2 := by rw [evo]
@[simp] theorem thaw_t {d : D} : thaw (.t d) h = .ok d h := rfl
@[simp] theorem evI_seq {e : E} : evI cs cf (.seq e) env h = (ev cs cf e env h).bind fun w h1 => (thaw w h1).bind fun d h2 => Res.opt (seqD d) h2 := by rw [evI]
@[simp] theorem evI_rng1 {a : E} : evI cs cf (.rng1 a) env h = (ev cs cf a env h).bind fun x h1 => (Res.opt (intW x) h1).bind fun i h2 => if rngOk i then .ok (rngD 0 i.toNat) h2 else .bad := by rw [evI]
@[simp] theorem evI_rng2 {a b : E} : evI cs cf (.rng2 a b) env h = (ev cs cf a env h).bind fun x h1 => (ev cs cf b env h1).bind fun y h2 => (Res.opt (intW x) h2).bind fun i h3 => (Res.opt (intW y) h3).bind fun j h4 => if rngOk i && rngOk j then .ok (rngD i (j - i).toNat) h4 else .bad := by rw [evI]
@[simp] theorem evI_rng3 {a b c : E} : evI cs cf (.rng3 a b c) env h = (ev cs cf a env h).bind fun x h1 => (ev cs cf b env h1).bind fun y h2 => (ev cs cf c env h2).bind fun z h3 => (Res.opt (intW x) h3).bind fun i h4 => (Res.opt (intW y) h4).bind fun j h5 => (Res.opt (intW z) h5).bind fun k h6 => if rng3Ok i j k then .ok (rng3D i k (Builtin.Range.rangeSize i j k).toNat) h6 else .bad := by rw [evI]
@[simp] theorem evI_enm {e : E} : evI cs cf (.enm e) env h = (ev cs cf e env h).bind fun w h1 => (thaw w h1).bind fun d h2 => (Res.opt (seqD d) h2).bind fun xs h3 => .ok (enmD xs) h3 := by rw [evI]
@[simp] theorem evI_zip {rv : Bool} {es : Es} : evI cs cf (.zip rv es) env h = (evs cs cf es env h).bind fun ws h1 => (Res.opt (seqsW rv ws) h1).bind fun ls h2 => .ok ((zipN ls).map .tuple) h2 := by rw [evI]
@[simp] theorem exec_ex {e : E} : exec cs cf (.ex e) env h = (ev cs cf e env h).bind fun _ h1 => .ok (.nx env) h1 := by rw [exec]
@[simp] theorem exec_asg {t : Tg} {e : E} : exec cs cf (.asg t e) env h = (ev cs cf e env h).bind fun w h1 => (Res.opt (asgW t w env) h1).bind fun e1 h2 => .ok (.nx e1) h2 := by rw [exec]
@[simp] theorem exec_par {i j : Nat} {a b : E} : exec cs cf (.par i j a b) env h = (ev cs cf a env h).bind fun x h1 => (ev cs cf b env h1).bind fun y h2 => .ok (.nx ((env.set i (some x)).set j (some y))) h2 := by rw [exec]
@[simp] theorem exec_par3 {i j l : Nat} {a b c : E} : exec cs cf (.par3 i j l a b c) env h = (ev cs cf a env h).bind fun x h1 => (ev cs cf b env h1).bind fun y h2 => (ev cs cf c env h2).bind fun z h3 => .ok (.nx (((env.set i (some x)).set j (some y)).set l (some z))) h3 := by rw [exec]
@[simp] theorem exec_put {o i e : E} : exec cs cf (.put o i e) env h = (ev cs cf e env h).bind fun x h1 => (ev cs cf o env h1).bind fun ow h2 => (ev cs cf i env h2).bind fun iw h3 => (putW ow iw x h3).bind fun _ h4 => .ok (.nx env) h4 := by rw [exec]
@[simp] theorem exec_put2 {o i a b : E} {j : Nat} : exec cs cf (.put2 o i j a b) env h = (ev cs cf (.tup (.cons a (.cons b .nil))) env h).bind fun w h1 => (Res.opt (two w) h1).bind fun p h1 => (ev cs cf o env h1).bind fun ow h2 => (ev cs cf i env h2).bind fun iw h3 => (putW ow iw (.t p.1) h3).bind fun _ h4 => .ok (.nx (env.set j (some (.t p.2)))) h4 := by rw [exec]
@[simp] theorem two_t {x y : D} : two (.t (.tuple [x, y])) = some (x, y) := rfl
@[simp] theorem exec_ite {c : E} {a b : Ss} : exec cs cf (.ite c a b) env h = (ev cs cf c env h).bind fun x h1 => (Res.opt (truW x h1) h1).bind fun r h2 => if r = true then execs cs cf a env h2 else execs cs cf b env h2 := by rw [exec]
def forG (cs : List D) (cf : Nat → List W → Hs → Res W) (t : Tg) (b : Ss) : D → Ev → Hs → Res Fl := fun x e h => (Res.opt (asgT t x e) h).bind fun e1 h2 => execs cs cf b e1 h2
@[simp] theorem exec_for {t : Tg} {it : I} {b : Ss} : exec cs cf (.for_ t it b) env h = (evI cs cf it env h).bind fun xs h1 => forL (forG cs cf t b) xs env h1 := by rw [exec] <;> rfl
@[simp] theorem exec_ret {e : E} : exec cs cf (.ret e) env h = (ev cs cf e env h).bind fun w h1 => .ok (.rt w) h1 := by rw [exec]
@[simp] theorem exec_retN : exec cs cf .retN env h = .ok (.rt (.t .none)) h := by rw [exec]
@[simp] theorem exec_pas : exec cs cf .pas env h = .ok (.nx env) h := by rw [exec]
@[simp] theorem exec_brk : exec cs cf .brk env h = .ok (.bk env) h := by rw [exec]
@[simp] theorem exec_cnt : exec cs cf .cnt env h = .ok (.ct env) h := by rw [exec]
@[simp] theorem exec_frz {i : Nat} : exec cs cf (.frz i) env h = match env[i]? with | some (some w) => (Res.opt (w.frz h) h).bind fun p _ => .ok (.nx (env.set i (some (.t p.1)))) p.2 | _ => .bad := by rw [exec] <;> rfl
@[simp] theorem execs_nil : execs cs cf .nil env h = .ok (.nx env) h := by rw [execs]
def nextG (cs : List D) (cf : Nat → List W → Hs → Res W) (r : Ss) : Fl → Hs → Res Fl := fun l h1 => match l with
  | .nx e => execs cs cf r e h1
  | l => .ok l h1
@[simp] theorem execs_cons {s : S} {r : Ss} : execs cs cf (.cons s r) env h = (exec cs cf s env h).bind (nextG cs cf r) := by rw [execs] <;> rfl
@[simp] theorem nextG_nx {r : Ss} {e : Ev} : nextG cs cf r (.nx e) h = execs cs cf r e h := rfl
@[simp] theorem nextG_rt {r : Ss} {w : W} : nextG cs cf r (.rt w) h = .ok (.rt w) h := rfl
@[simp] theorem nextG_bk {r : Ss} {e : Ev} : nextG cs cf r (.bk e) h = .ok (.bk e) h := rfl
@[simp] theorem nextG_ct {r : Ss} {e : Ev} : nextG cs cf r (.ct e) h = .ok (.ct e) h := rfl
end
@[simp] theorem peek_t {d : D} {h : Hs} : (W.t d).peek h = some d := rfl
@[simp] theorem frz_t {d : D} {h : Hs} : (W.t d).frz h = some (d, h) := rfl
@[simp] theorem truW_t {d : D} {h : Hs} : truW (.t d) h = truD d := rfl
@[simp] theorem truD_bool {b : Bool} : truD (.bool b) = some b := rfl
@[simp] theorem intW_int {i : Int} : intW (.t (.int i)) = some i := rfl
theorem bind_asc {α β γ : Type} (m : Res α) (f : α → Hs → Res β) (g : β → Hs → Res γ) : (m.bind f).bind g = m.bind fun a h => (f a h).bind g := by cases m <;> rfl
theorem callF_eq {cs : List D} {P : List Fd} {k f : Nat} {ws : List W} {h : Hs} {d : Fd} (e : P[f]? = some d) (hl : ws.length = d.np) : callF cs P (k + 1) f ws h = match execs cs (callF cs P k) d.body (ws.map some ++ List.replicate (d.nn - d.np) none) h with
        | .ok l h1 => fin d.keep h.length l h1
        | .exc c v h1 => .exc c v (h1.take h.length)
        | .bad => .bad := by
  rw [callF, e]
  simp only [hl, if_true] <;> rfl
/-- a call by what its body does -/
theorem callF_tr {cs : List D} {P : List Fd} {k f : Nat} {ws : List W} {h : Hs} {d : Fd} {Q : W → Hs → Prop} (e : P[f]? = some d) (hl : ws.length = d.np)
    (b : Tr (execs cs (callF cs P k) d.body (ws.map some ++ List.replicate (d.nn - d.np) none) h) (fun l h1 => Tr (fin d.keep h.length l h1) Q)) : Tr (callF cs P (k + 1) f ws h) Q := by
  rw [callF_eq e hl]
  cases hm : execs cs (callF cs P k) d.body (ws.map some ++ List.replicate (d.nn - d.np) none) h with
  | ok l h1 => rw [hm] at b; exact Tr.ok.mp b
  | exc c v h1 => rw [hm] at b; exact b.nexc.elim
  | bad => rw [hm] at b; exact b.nbad.elim
theorem ite_ok {α : Type} {c : Prop} [Decidable c] {a b : α} {h : Hs} : (if c then Res.ok a h else Res.ok b h) = Res.ok (if c then a else b) h := by split <;> rfl
@[simp] theorem ite_wb {c : Prop} [Decidable c] {a b : Bool} : (if c then W.t (.bool a) else W.t (.bool b)) = W.t (.bool (if c then a else b)) := by split <;> rfl
@[simp] theorem ite_db {c : Prop} [Decidable c] {a b : Bool} : (if c then PyData.bool a else PyData.bool b) = PyData.bool (if c then a else b) := by split <;> rfl
/-- what a def that hands back a tree gives -/
theorem fin_rt {n : Nat} {d : D} {h : Hs} : fin false n (.rt (.t d)) h = .ok (.t d) (h.take n) := rfl
theorem callF_rt {cs : List D} {P : List Fd} {k f : Nat} {ws : List W} {h : Hs} {d : Fd} {r : D} (e : P[f]? = some d) (hl : ws.length = d.np) (hk : d.keep = false)
    (b : execs cs (callF cs P k) d.body (ws.map some ++ List.replicate (d.nn - d.np) none) h = .ok (.rt (.t r)) h) : callF cs P (k + 1) f ws h = .ok (.t r) h := by
  rw [callF_eq e hl, b]
  simp only [hk]
  rw [fin_rt, List.take_length]
theorem tk {α : Type} {l m : List α} : (l ++ m).take l.length = l := by simp
theorem boolsD_map (bs : List Bool) : boolsD (bs.map .bool) = some bs := by
  induction bs with
  | nil => rfl
  | cons b bs ih => simp [boolsD, ih]
theorem intsD_map (ns : List Int) : intsD (ns.map .int) = some ns := by
  induction ns with
  | nil => rfl
  | cons b bs ih => simp [intsD, ih]
@[simp] theorem seqT_t {xs : List D} : seqT true xs = .tuple xs := rfl
@[simp] theorem seqT_f {xs : List D} : seqT false xs = .list xs := rfl
@[simp] theorem catL_l {xs ys : List D} : catL (.list xs) (.list ys) = if xs.length + ys.length ≤ lim then some (xs ++ ys) else none := rfl
theorem seqs_tt {xs ys : List D} : seqsW false [.t (.tuple xs), .t (.tuple ys)] = some [xs, ys] := rfl
theorem seqs_tl {xs ys : List D} : seqsW false [.t (.tuple xs), .t (.list ys)] = some [xs, ys] := rfl
theorem seqs_lt {xs ys : List D} : seqsW false [.t (.list xs), .t (.tuple ys)] = some [xs, ys] := rfl
theorem seqs_ll {xs ys : List D} : seqsW false [.t (.list xs), .t (.list ys)] = some [xs, ys] := rfl
theorem shaped_int {i : Int} : SeqAt.shaped (.int i) = true := rfl
theorem ne_int {i j : Int} : cmpD .ne (.int i) (.int j) = some (decide (i ≠ j)) := by
  simp only [cmpD, eqD, strsD, shaped_int, and_self, if_true, Option.map_some, PyData.eqv]
  by_cases h : i = j <;> simp [h]
theorem eq_int' {i j : Int} : cmpD .eq (.int i) (.int j) = some (decide (i = j)) := by
  simp only [cmpD, eqT, eqD, strsD, shaped_int, and_self, if_true, PyData.eqv]
  by_cases h : i = j <;> simp [h]
theorem ne_str {x y : Str} : cmpD .ne (.str x) (.str y) = some (!(x == y)) := rfl
theorem eq_str {x y : Str} : cmpD .eq (.str x) (.str y) = some (x == y) := rfl
end MF

set_option Elab.async false
set_option linter.all false
set_option maxRecDepth 100000
set_option maxHeartbeats 8000000
namespace K02
open PySem PySem.Spec PyProof.Rows L2 MZ MF
/-! ### each def against its text -/
set_option maxRecDepth 100000 in
theorem ok_0 : okDR ci d_is_within = true := by decide +kernel
theorem ok_1 : okDR ci d_is_upto = true := by decide +kernel
theorem ok_2 : okDR ci d_are_within = true := by decide +kernel
theorem ok_3 : okDR ci d_is_main = true := by decide +kernel
theorem ok_4 : okDR ci d_is_plant = true := by decide +kernel
theorem ok_5 : okDR ci d_is_fault = true := by decide +kernel
theorem ok_6 : okDR ci d_is_story_of = true := by decide +kernel
theorem ok_7 : okDR ci d_need_plant = true := by decide +kernel
theorem ok_8 : okDR ci d_need_story = true := by decide +kernel
theorem ok_9 : okDR ci d_is_story = true := by decide +kernel
theorem ok_10 : okDR ci d_cap_at = true := by decide +kernel
theorem ok_11 : okDR ci d_caps_by = true := by decide +kernel
theorem ok_12 : okDR ci d_is_row_of = true := by decide +kernel
theorem ok_13 : okDR ci d_is_firing_of = true := by decide +kernel
theorem ok_14 : okDR ci d_is_firing = true := by decide +kernel
theorem ok_15 : okDR ci d_law_cell = true := by decide +kernel
theorem ok_16 : okDR ci d_law_pen = true := by decide +kernel
theorem ok_17 : okDR ci d_law_draw = true := by decide +kernel
theorem ok_18 : okDR ci d_law_plant = true := by decide +kernel
theorem ok_19 : okDR ci d_law_story = true := by decide +kernel
theorem ok_20 : okDR ci d_law_caps = true := by decide +kernel
theorem ok_21 : okDR ci d_law_firing = true := by decide +kernel
theorem ok_22 : okDR ci d_law_odd = true := by decide +kernel
theorem ok_23 : okDR ci d_law_kind = true := by decide +kernel
theorem ok_24 : okDR ci d_law_said = true := by decide +kernel
theorem ok_25 : okDR ci d_law_number = true := by decide +kernel
theorem ok_26 : okDR ci d_law_is_fault = true := by decide +kernel
theorem ok_27 : okDR ci d_law_is_story = true := by decide +kernel
theorem ok_28 : okDR ci d_law_is_firing = true := by decide +kernel
theorem ok_29 : okDR ci d_law_stories = true := by decide +kernel
theorem ok_30 : okDR ci d_law_firings = true := by decide +kernel
theorem ok_31 : okDR ci d_law = true := by decide +kernel
theorem ok_all : ∀ r ∈ ds, okDR ci r = true := by
  intro r h
  simp only [ds, List.mem_cons, List.not_mem_nil, or_false] at h
  rcases h with rfl | rfl | rfl | rfl | rfl | rfl | rfl | rfl | rfl | rfl | rfl | rfl | rfl | rfl | rfl | rfl | rfl | rfl | rfl | rfl | rfl | rfl | rfl | rfl | rfl | rfl | rfl | rfl | rfl | rfl | rfl | rfl
  · exact ok_0
  · exact ok_1
  · exact ok_2
  · exact ok_3
  · exact ok_4
  · exact ok_5
  · exact ok_6
  · exact ok_7
  · exact ok_8
  · exact ok_9
  · exact ok_10
  · exact ok_11
  · exact ok_12
  · exact ok_13
  · exact ok_14
  · exact ok_15
  · exact ok_16
  · exact ok_17
  · exact ok_18
  · exact ok_19
  · exact ok_20
  · exact ok_21
  · exact ok_22
  · exact ok_23
  · exact ok_24
  · exact ok_25
  · exact ok_26
  · exact ok_27
  · exact ok_28
  · exact ok_29
  · exact ok_30
  · exact ok_31
theorem bd_0 : Bd d_is_within := fun _ _ _ _ _ _ us hl => match us, hl with | [_, _, _], _ => rfl
theorem bd_1 : Bd d_is_upto := fun _ _ _ _ _ _ us hl => match us, hl with | [_, _], _ => rfl
theorem bd_2 : Bd d_are_within := fun _ _ _ _ _ _ us hl => match us, hl with | [_, _], _ => rfl
theorem bd_3 : Bd d_is_main := fun _ _ _ _ _ _ us hl => match us, hl with | [_], _ => rfl
theorem bd_4 : Bd d_is_plant := fun _ _ _ _ _ _ us hl => match us, hl with | [_], _ => rfl
theorem bd_5 : Bd d_is_fault := fun _ _ _ _ _ _ us hl => match us, hl with | [_, _, _], _ => rfl
theorem bd_6 : Bd d_is_story_of := fun _ _ _ _ _ _ us hl => match us, hl with | [_, _], _ => rfl
theorem bd_7 : Bd d_need_plant := fun _ _ _ _ _ _ us hl => match us, hl with | [_], _ => rfl
theorem bd_8 : Bd d_need_story := fun _ _ _ _ _ _ us hl => match us, hl with | [_, _], _ => rfl
theorem bd_9 : Bd d_is_story := fun _ _ _ _ _ _ us hl => match us, hl with | [_, _], _ => rfl
theorem bd_10 : Bd d_cap_at := fun _ _ _ _ _ _ us hl => match us, hl with | [_, _, _, _], _ => rfl
theorem bd_11 : Bd d_caps_by := fun _ _ _ _ _ _ us hl => match us, hl with | [_, _], _ => rfl
theorem bd_12 : Bd d_is_row_of := fun _ _ _ _ _ _ us hl => match us, hl with | [_, _], _ => rfl
theorem bd_13 : Bd d_is_firing_of := fun _ _ _ _ _ _ us hl => match us, hl with | [_, _, _], _ => rfl
theorem bd_14 : Bd d_is_firing := fun _ _ _ _ _ _ us hl => match us, hl with | [_, _, _], _ => rfl
theorem bd_15 : Bd d_law_cell := fun _ _ _ _ _ _ us hl => match us, hl with | [_, _], _ => rfl
theorem bd_16 : Bd d_law_pen := fun _ _ _ _ _ _ us hl => match us, hl with | [_], _ => rfl
theorem bd_17 : Bd d_law_draw := fun _ _ _ _ _ _ us hl => match us, hl with | [_, _], _ => rfl
theorem bd_18 : Bd d_law_plant := fun _ _ _ _ _ _ us hl => match us, hl with | [_], _ => rfl
theorem bd_19 : Bd d_law_story := fun _ _ _ _ _ _ us hl => match us, hl with | [_, _], _ => rfl
theorem bd_20 : Bd d_law_caps := fun _ _ _ _ _ _ us hl => match us, hl with | [_, _], _ => rfl
theorem bd_21 : Bd d_law_firing := fun _ _ _ _ _ _ us hl => match us, hl with | [_, _], _ => rfl
theorem bd_22 : Bd d_law_odd := fun _ _ _ _ _ _ us hl => match us, hl with | [_], _ => rfl
theorem bd_23 : Bd d_law_kind := fun _ _ _ _ _ _ us hl => match us, hl with | [_], _ => rfl
theorem bd_24 : Bd d_law_said := fun _ _ _ _ _ _ us hl => match us, hl with | [_], _ => rfl
theorem bd_25 : Bd d_law_number := fun _ _ _ _ _ _ us hl => match us, hl with | [_, _, _], _ => rfl
theorem bd_26 : Bd d_law_is_fault := fun _ _ _ _ _ _ us hl => match us, hl with | [_, _, _], _ => rfl
theorem bd_27 : Bd d_law_is_story := fun _ _ _ _ _ _ us hl => match us, hl with | [_, _], _ => rfl
theorem bd_28 : Bd d_law_is_firing := fun _ _ _ _ _ _ us hl => match us, hl with | [_, _], _ => rfl
theorem bd_29 : Bd d_law_stories := fun _ _ _ _ _ _ us hl => match us, hl with | [_, _, _], _ => rfl
theorem bd_30 : Bd d_law_firings := fun _ _ _ _ _ _ us hl => match us, hl with | [_, _], _ => rfl
theorem bd_31 : Bd d_law := fun _ _ _ _ _ _ us hl => match us, hl with | [_], _ => rfl
theorem bd_all : ∀ r ∈ ds, Bd r := by
  intro r h
  simp only [ds, List.mem_cons, List.not_mem_nil, or_false] at h
  rcases h with rfl | rfl | rfl | rfl | rfl | rfl | rfl | rfl | rfl | rfl | rfl | rfl | rfl | rfl | rfl | rfl | rfl | rfl | rfl | rfl | rfl | rfl | rfl | rfl | rfl | rfl | rfl | rfl | rfl | rfl | rfl | rfl
  · exact bd_0
  · exact bd_1
  · exact bd_2
  · exact bd_3
  · exact bd_4
  · exact bd_5
  · exact bd_6
  · exact bd_7
  · exact bd_8
  · exact bd_9
  · exact bd_10
  · exact bd_11
  · exact bd_12
  · exact bd_13
  · exact bd_14
  · exact bd_15
  · exact bd_16
  · exact bd_17
  · exact bd_18
  · exact bd_19
  · exact bd_20
  · exact bd_21
  · exact bd_22
  · exact bd_23
  · exact bd_24
  · exact bd_25
  · exact bd_26
  · exact bd_27
  · exact bd_28
  · exact bd_29
  · exact bd_30
  · exact bd_31
-- depth 9; law is def 31, statement 61
end K02

set_option Elab.async false
set_option linter.all false
set_option maxRecDepth 100000
set_option maxHeartbeats 4000000
namespace K02
open PySem MF
/-! ### more steps by simp -/
@[simp] theorem asgW_nm {i : Nat} {w : W} {env : Ev} : asgW (.nm i) w env = some (env.set i (some w)) := rfl
@[simp] theorem asgT_nm {i : Nat} {d : D} {env : Ev} : asgT (.nm i) d env = some (env.set i (some (.t d))) := by rw [asgT]
@[simp] theorem asgT_tup {l : List Tg} {ds : List D} {env : Ev} : asgT (.tup l) (.tuple ds) env = asgTs l ds env := by rw [asgT]
@[simp] theorem asgTs_nil {env : Ev} : asgTs [] [] env = some env := by rw [asgTs]
@[simp] theorem asgTs_cons {t : Tg} {ts : List Tg} {d : D} {ds : List D} {env : Ev} : asgTs (t :: ts) (d :: ds) env = (asgT t d env).bind fun e1 => asgTs ts ds e1 := by rw [asgTs]
@[simp] theorem asgW_tup {l : List Tg} {d : D} {env : Ev} : asgW (.tup l) (.t d) env = asgT (.tup l) d env := rfl
@[simp] theorem add_int {i j : Int} : binD .add (.int i) (.int j) = some (.int (i + j)) := rfl
@[simp] theorem sub_int {i j : Int} : binD .sub (.int i) (.int j) = some (.int (i - j)) := rfl
@[simp] theorem seqD_t {xs : List D} : seqD (.tuple xs) = some xs := rfl
@[simp] theorem seqD_l {xs : List D} : seqD (.list xs) = some xs := rfl
@[simp] theorem ownW_l {xs : List D} {h : Hs} : ownW (.t (.list xs)) h = .ok (.ref h.length) (h ++ [.lst xs]) := rfl
@[simp] theorem sum_l {ns : List Int} : biD .sum [.list (ns.map .int)] = some (.int ns.sum) := by
  show (intsD (ns.map .int)).map _ = _
  rw [intsD_map]; rfl
@[simp] theorem tuple_l {xs : List D} : biD .tuple [.list xs] = some (.tuple xs) := rfl
@[simp] theorem tuple_t {xs : List D} : biD .tuple [.tuple xs] = some (.tuple xs) := rfl
@[simp] theorem list_t {xs : List D} : biD .list [.tuple xs] = some (.list xs) := rfl
@[simp] theorem list_l {xs : List D} : biD .list [.list xs] = some (.list xs) := rfl
theorem mod_int {i j : Int} (h : 0 < j) : binD .mod (.int i) (.int j) = some (.int (i % j)) := by simp [binD, h]
theorem fdiv_int {i j : Int} (h : 0 < j) (h2 : j < 1000) : binD .fdiv (.int i) (.int j) = some (.int (i / j)) := by
  have : j < 1073741824 := by omega
  simp [binD, h, this]
/-! ### is_within, are_within -/
def inB (a b : Int) (d : D) : Bool := match d with
  | .int i => decide (a ≤ i) && decide (i ≤ b)
  | _ => false
theorem is_within_ok {k : Nat} {d : D} {a b : Int} {h : Hs} : callF cs (Prs ci.cl ds) (k + 1) 0 [.t d, .t (.int a), .t (.int b)] h = .ok (.t (.bool (inB a b d))) h := by
  refine callF_rt (d := d_is_within.fd) rfl rfl rfl ?_
  cases d <;> simp [d_is_within, b_is_within, isD, isS, tyD, cmpD, inB, ite_ok]
/-- the ends of a row -/
def endsD (es : List (Int × Int)) : List D := es.map fun e => .tuple [.int e.1, .int e.2]
def rowB (es : List (Int × Int)) (d : D) : Bool := match d with
  | .tuple xs => decide (xs.length = es.length) && (List.zipWith (fun x (e : Int × Int) => inB e.1 e.2 x) xs es).all id
  | _ => false
theorem zip2 {xs : List D} {es : List (Int × Int)} : (zipN [xs, endsD es]).map PyData.tuple = List.zipWith (fun x (e : Int × Int) => PyData.tuple [x, .tuple [.int e.1, .int e.2]]) xs es := by
  simp only [zipN, endsD]
  induction xs generalizing es with
  | nil => rfl
  | cons x xs ih =>
    cases es with
    | nil => rfl
    | cons e es => simp only [List.map_cons, List.zipWith_cons_cons, ih]
theorem row_comp {k f : Nat} {env : Ev} {h : Hs} {xs : List D} {es : List (Int × Int)} (g : ∀ {d : D} {a b : Int} {h : Hs}, callF cs (Prs ci.cl ds) k f [.t d, .t (.int a), .t (.int b)] h = .ok (.t (.bool (inB a b d))) h)
    (he : (wipeW env [2, 3, 4]).length = 5) : compL (compG cs (callF cs (Prs ci.cl ds) k) (.call f (.cons (.var 2) (.cons (.var 3) (.cons (.var 4) .nil)))) (.tup [(.nm 2), (.tup [(.nm 3), (.nm 4)])]) [2, 3, 4] .no env) ((zipN [xs, endsD es]).map PyData.tuple) h =
      .ok ((List.zipWith (fun x (e : Int × Int) => inB e.1 e.2 x) xs es).map .bool) h := by
  rw [zip2]
  induction xs generalizing es with
  | nil => rfl
  | cons x xs ih =>
    cases es with
    | nil => rfl
    | cons e es =>
      simp only [List.zipWith_cons_cons, List.map_cons, compL]
      have h1 : compG cs (callF cs (Prs ci.cl ds) k) (.call f (.cons (.var 2) (.cons (.var 3) (.cons (.var 4) .nil)))) (.tup [(.nm 2), (.tup [(.nm 3), (.nm 4)])]) [2, 3, 4] .no env (.tuple [x, .tuple [.int e.1, .int e.2]]) h = .ok (some (.bool (inB e.1 e.2 x))) h := by
        unfold compG
        simp [asgT, asgTs, he, g, List.getElem?_set]
      rw [h1]
      simp only [Res.ok_bind]
      rw [ih]
      rfl
theorem endsD_len {es : List (Int × Int)} : (endsD es).length = es.length := by simp [endsD]
theorem are_within_ok {k : Nat} {d : D} {es : List (Int × Int)} {h : Hs} : callF cs (Prs ci.cl ds) (k + 2) 2 [.t d, .t (.tuple (endsD es))] h = .ok (.t (.bool (rowB es d))) h := by
  refine callF_rt (d := d_are_within.fd) rfl rfl rfl ?_
  cases d <;> simp [d_are_within, b_are_within, isD, isS, tyD, rowB]
  rename_i xs
  simp only [biD, Option.map_some, Res.opt_some, Res.ok_bind, peek_t, Option.bind_some, ne_int, endsD_len]
  by_cases hl : xs.length = es.length
  · simp [hl, seqs_tt]
    rw [nox_ok (row_comp (fun {d a b h} => is_within_ok) rfl)]
    simp only [Res.ok_bind, evs_nil, biW_t1, biD, boolsD_map, Option.map_some, Res.opt_some, nextG_rt]
  · have hl' : ¬ ((xs.length : Int) = es.length) := by omega
    simp [hl, hl']
/-! ### is_main, is_plant -/
theorem inB_int {a b : Int} {d : D} (h : inB a b d = true) : ∃ i, d = .int i ∧ a ≤ i ∧ i ≤ b := by
  cases d <;> simp [inB] at h
  exact ⟨_, rfl, h.1, h.2⟩
theorem rowB2 {a b a2 b2 : Int} {d : D} (h : rowB [(a, b), (a2, b2)] d = true) : ∃ x y, d = .tuple [.int x, .int y] ∧ a ≤ x ∧ x ≤ b ∧ a2 ≤ y ∧ y ≤ b2 := by
  cases d <;> simp [rowB] at h
  rename_i xs
  obtain ⟨hl, h⟩ := h
  match xs, hl with
  | [x, y], _ =>
    simp at h
    obtain ⟨i, rfl, h1, h2⟩ := inB_int h.1
    obtain ⟨j, rfl, h3, h4⟩ := inB_int h.2
    exact ⟨i, j, rfl, h1, h2, h3, h4⟩
theorem rowB3 {a b a2 b2 a3 b3 : Int} {d : D} (h : rowB [(a, b), (a2, b2), (a3, b3)] d = true) : ∃ x y z, d = .tuple [.int x, .int y, .int z] ∧ a ≤ x ∧ x ≤ b ∧ a2 ≤ y ∧ y ≤ b2 ∧ a3 ≤ z ∧ z ≤ b3 := by
  cases d <;> simp [rowB] at h
  rename_i xs
  obtain ⟨hl, h⟩ := h
  match xs, hl with
  | [x, y, z], _ =>
    simp at h
    obtain ⟨i, rfl, h1, h2⟩ := inB_int h.1
    obtain ⟨j, rfl, h3, h4⟩ := inB_int h.2.1
    obtain ⟨l, rfl, h5, h6⟩ := inB_int h.2.2
    exact ⟨i, j, l, rfl, h1, h2, h3, h4, h5, h6⟩
def m3 : List (Int × Int) := [(0, 40), (0, 40), (0, 40)]
def mainB (d : D) : Bool := rowB m3 d && (match d with
  | .tuple [.int a, .int b, .int c] => decide (a ≤ c) && decide (c ≤ b)
  | _ => false)
theorem c0 : cs[0]? = some (.int 40) := rfl
theorem c1 : cs[1]? = some (.int 4) := rfl
theorem c2 : cs[2]? = some (.int 4) := rfl
@[simp] theorem le_int {i j : Int} : cmpD .le (.int i) (.int j) = some (decide (i ≤ j)) := rfl
@[simp] theorem lt_int {i j : Int} : cmpD .lt (.int i) (.int j) = some (decide (i < j)) := rfl
@[simp] theorem gt_int {i j : Int} : cmpD .gt (.int i) (.int j) = some (decide (j < i)) := rfl
@[simp] theorem ge_int {i j : Int} : cmpD .ge (.int i) (.int j) = some (decide (j ≤ i)) := rfl
@[simp] theorem ix_t {xs : List D} {i : Int} : ixD (.tuple xs) (.int i) = L2.atI xs i := rfl
@[simp] theorem atI_c0 {x : D} {r : List D} : L2.atI (x :: r) 0 = some x := by
  unfold L2.atI L2.ixN; simp
@[simp] theorem atI_c1 {x y : D} {r : List D} : L2.atI (x :: y :: r) 1 = some y := by
  unfold L2.atI L2.ixN
  rw [if_pos (by decide), if_pos (by simp only [List.length_cons]; omega)]; rfl
@[simp] theorem atI_c2 {x y z : D} {r : List D} : L2.atI (x :: y :: z :: r) 2 = some z := by
  unfold L2.atI L2.ixN
  rw [if_pos (by decide), if_pos (by simp only [List.length_cons]; omega)]; rfl
@[simp] theorem tupW_nil {h : Hs} : tupW [] h = .ok (.t (.tuple [])) h := rfl
@[simp] theorem tupW_t1 {d : D} {h : Hs} : tupW [.t d] h = .ok (.t (.tuple [d])) h := rfl
@[simp] theorem tupW_tt {d e : D} {ws : List W} {h : Hs} : tupW (.t d :: .t e :: ws) h = (Res.opt (frzs (.t d :: .t e :: ws) h) h).bind fun p _ => .ok (.t (.tuple p.1)) p.2 := by cases ws <;> rfl
@[simp] theorem tupW_tr {d : D} {k : Nat} {h : Hs} : tupW [.t d, .ref k] h = .ok (.pr (.t d) (.ref k)) h := rfl
@[simp] theorem tupW_rt {y : W} {k : Nat} {h : Hs} : tupW [.ref k, y] h = .ok (.pr (.ref k) y) h := rfl
@[simp] theorem frzs_nil {h : Hs} : frzs [] h = some ([], h) := rfl
@[simp] theorem frzs_t {d : D} {ws : List W} {h : Hs} : frzs (.t d :: ws) h = (frzs ws h).map fun q => (d :: q.1, q.2) := rfl
@[simp] theorem ix_l {xs : List D} {i : Int} : ixD (.list xs) (.int i) = L2.atI xs i := rfl
theorem is_main_ok {k : Nat} {d : D} {h : Hs} : callF cs (Prs ci.cl ds) (k + 3) 3 [.t d] h = .ok (.t (.bool (mainB d))) h := by
  refine callF_rt (d := d_is_main.fd) rfl rfl rfl ?_
  have e : callF cs (Prs ci.cl ds) (k + 2) 2 [.t d, .t (.tuple (repD [.tuple [.int 0, .int 40]] 3))] h = .ok (.t (.bool (rowB m3 d))) h := are_within_ok (es := m3)
  simp [d_is_main, b_is_main, tupW, frzs, binD, c0, e]
  cases hr : rowB m3 d with
  | false => simp [mainB, hr]
  | true =>
    obtain ⟨x, y, z, rfl, b1, b2, b3, b4, b5, b6⟩ := rowB3 hr
    simp [mainB, hr, ix_t, L2.atI, L2.ixN, le_int, ite_ok]
def bo2 : List (Int × Int) := [(1, 9), (1, 9)]
def en3 : List (Int × Int) := [(1, 9), (0, 7), (1, 8)]
def allB (g : D → Bool) (xs : List D) : Bool := xs.all g
def boB (d : D) : Bool := match d with
  | .tuple xs => decide (1 ≤ xs.length) && decide (xs.length ≤ 4) && allB (rowB bo2) xs
  | _ => false
def enB (d : D) : Bool := match d with
  | .tuple xs => decide (xs.length ≤ 4) && allB (rowB en3) xs
  | _ => false
def plantB (d : D) : Bool := match d with
  | .tuple [x, y, z] => mainB z && boB x && enB y
  | _ => false
theorem plantB_3 {x y z : D} : plantB (.tuple [x, y, z]) = (mainB z && boB x && enB y) := rfl
theorem plantB_n {xs : List D} (h : ¬ xs.length = 3) : plantB (.tuple xs) = false := by
  match xs with
  | [] => rfl
  | [_] => rfl
  | [_, _] => rfl
  | [_, _, _] => exact (h rfl).elim
  | _ :: _ :: _ :: _ :: _ => rfl
theorem boB_t {xs : List D} : boB (.tuple xs) = (decide (1 ≤ xs.length) && decide (xs.length ≤ 4) && allB (rowB bo2) xs) := rfl
theorem enB_t {xs : List D} : enB (.tuple xs) = (decide (xs.length ≤ 4) && allB (rowB en3) xs) := rfl
theorem sl2 {x y z : D} : slD (.tuple [x, y, z]) none (some 2) = some (.tuple [x, y]) := rfl
theorem all_comp {k : Nat} {env : Ev} {h : Hs} {i : Nat} {e : E} {g : D → Bool} (hi : i < env.length) (he : ∀ x h, ev cs (callF cs (Prs ci.cl ds) k) e ((wipeW env [i]).set i (some (.t x))) h = .ok (.t (.bool (g x))) h) (xs : List D) :
    compL (compG cs (callF cs (Prs ci.cl ds) k) e (.nm i) [i] .no env) xs h = .ok (xs.map fun x => .bool (g x)) h := by
  refine compL_map fun x _ => ?_
  unfold compG
  simp [asgT, he]
theorem all_bools (xs : List D) (g : D → Bool) : biD .all [.list (xs.map fun x => PyData.bool (g x))] = some (.bool (allB g xs)) := by
  have e : (xs.map fun x => PyData.bool (g x)) = (xs.map g).map .bool := by simp
  simp only [biD, e, boolsD_map, Option.map_some, List.all_map]
  rfl
@[simp] theorem len_t {xs : List D} : biD .len [.tuple xs] = some (.int xs.length) := rfl
@[simp] theorem len_l {xs : List D} : biD .len [.list xs] = some (.int xs.length) := rfl
theorem bo2_ok {k : Nat} {x : D} {h : Hs} : callF cs (Prs ci.cl ds) (k + 2) 2 [.t x, .t (.tuple [.tuple [.int 1, .int 9], .tuple [.int 1, .int 9]])] h = .ok (.t (.bool (rowB bo2 x))) h := are_within_ok (es := bo2)
theorem en3_ok {k : Nat} {x : D} {h : Hs} : callF cs (Prs ci.cl ds) (k + 2) 2 [.t x, .t (.tuple [.tuple [.int 1, .int 9], .tuple [.int 0, .int 7], .tuple [.int 1, .int 8]])] h = .ok (.t (.bool (rowB en3 x))) h := are_within_ok (es := en3)
theorem is_plant_ok {k : Nat} {d : D} {h : Hs} : callF cs (Prs ci.cl ds) (k + 4) 4 [.t d] h = .ok (.t (.bool (plantB d))) h := by
  refine callF_rt (d := d_is_plant.fd) rfl rfl rfl ?_
  by_cases ht : isD "tuple" d = true
  case neg =>
    have : plantB d = false := by cases d <;> first | rfl | exact (ht rfl).elim
    simp [d_is_plant, b_is_plant, ht, this]
  obtain ⟨xs, rfl⟩ : ∃ xs, d = .tuple xs := by
    cases d <;> first | exact ⟨_, rfl⟩ | cases ht
  simp [d_is_plant, b_is_plant, ht, len_t, ne_int]
  by_cases hl : xs.length = 3
  case neg =>
    have hl' : ¬ ((xs.length : Int) = 3) := by omega
    simp [hl', plantB_n hl]
  obtain ⟨x, y, z, rfl⟩ : ∃ x y z, xs = [x, y, z] := by
    match xs, hl with
    | [x, y, z], _ => exact ⟨x, y, z, rfl⟩
  simp [ix_t, L2.atI, L2.ixN, is_main_ok, evs_cons, plantB_3]
  cases hm : mainB z with
  | false => simp
  | true =>
    simp [sl2, asgW, asgT, asgTs]
    by_cases hx : isD "tuple" x = true
    case neg =>
      have : boB x = false := by cases x <;> first | rfl | exact (hx rfl).elim
      simp [hx, this]
    obtain ⟨bs, rfl⟩ : ∃ xs, x = .tuple xs := by
      cases x <;> first | exact ⟨_, rfl⟩ | cases hx
    simp [hx, len_t, le_int, c1, boB_t]
    by_cases h1 : 1 ≤ bs.length
    case neg =>
      have h1' : ¬ ((1 : Int) ≤ bs.length) := by omega
      simp [h1, h1']
    have h1' : (1 : Int) ≤ bs.length := by omega
    by_cases h4 : bs.length ≤ 4
    case neg =>
      have h4' : ¬ ((bs.length : Int) ≤ 4) := by omega
      simp [h1, h1', h4, h4']
    have h4' : (bs.length : Int) ≤ 4 := by omega
    simp [h1, h1', h4, h4']
    by_cases hy : isD "tuple" y = true
    case neg =>
      have : enB y = false := by cases y <;> first | rfl | exact (hy rfl).elim
      simp [hy, this]
    obtain ⟨es, rfl⟩ : ∃ xs, y = .tuple xs := by
      cases y <;> first | exact ⟨_, rfl⟩ | cases hy
    simp [hy, len_t, gt_int, c2, enB_t]
    by_cases h5 : es.length ≤ 4
    case neg =>
      have h5' : (4 : Int) < es.length := by omega
      simp [h5, h5']
    have h5' : ¬ ((4 : Int) < es.length) := by omega
    simp [h5, h5', seqD]
    rw [nox_ok (all_comp (g := rowB bo2) (by simp) (fun x h => by simp [wipeW, tupW, frzs, bo2_ok]) bs)]
    simp [all_bools]
    cases hb : allB (rowB bo2) bs with
    | false => simp
    | true =>
      simp [seqD]
      rw [nox_ok (all_comp (g := rowB en3) (by simp) (fun x h => by simp [wipeW, tupW, frzs, en3_ok]) es)]
      simp [all_bools]
/-! ### the pen -/
/-- a pen at p; nothing else of h0 is changed -/
def St (p : Nat) (h0 h : Hs) : Prop := (∃ c x, h[p]? = some (.lst [.int c, .int x])) ∧ h.length = h0.length ∧ ∀ q, q ≠ p → h[q]? = h0[q]?
theorem St.trans {p : Nat} {a b c : Hs} (h1 : St p a b) (h2 : St p b c) : St p a c := ⟨h2.1, h2.2.1.trans h1.2.1, fun q hq => (h2.2.2 q hq).trans (h1.2.2 q hq)⟩
theorem emod_rng {a m : Int} (h : 0 < m) : 0 ≤ a % m ∧ a % m < m := ⟨Int.emod_nonneg _ (by omega), Int.emod_lt_of_pos _ h⟩
theorem draw_tr {k p : Nat} {m : Int} {h : Hs} (hp : ∃ c x, h[p]? = some (.lst [.int c, .int x])) (hm : 0 < m) (hm2 : m < 1073741824) : Tr (callF cs (Prs ci.cl ds) (k + 1) 17 [.ref p, .t (.int m)] h) (fun w h' => (∃ g, w = .t (.int g) ∧ 0 ≤ g ∧ g < m) ∧ St p h h') := by
  obtain ⟨c, x, hc⟩ := hp
  have hl : p < h.length := by
    by_cases hl : p < h.length
    · exact hl
    · rw [List.getElem?_eq_none (by omega)] at hc; cases hc
  have st : ∀ d, St p h ((h.set p (.lst [.int d, .int x])).take h.length) := fun d => by
    rw [List.take_of_length_le (by simp)]
    refine ⟨⟨d, x, by simp [hl]⟩, by simp, fun q hq => ?_⟩
    rw [List.getElem?_set_ne (Ne.symm hq)]
  refine callF_tr (d := d_law_draw.fd) rfl rfl ?_
  have pk : MF.W.peek (.ref p) h = some (.list [.int c, .int x]) := by show (h[p]?).bind Ob.peek = _; rw [hc]; rfl
  have pt : ∀ d, putW (.ref p) (.t (.int 0)) (.t (.int d)) h = .ok () (h.set p (.lst [.int d, .int x])) := fun d => by
    simp [putW, hc, L2.ixN]
  have pk2 : ∀ d, MF.W.peek (.ref p) (h.set p (.lst [.int d, .int x])) = some (.list [.int d, .int x]) := fun d => by
    show ((h.set p (.lst [.int d, .int x]))[p]?).bind Ob.peek = _
    rw [List.getElem?_set_self hl]; rfl
  simp [d_law_draw, b_law_draw, pk, eq_int', Tr.bind, Tr.ok]
  by_cases h1 : x = 1
  · subst h1
    have hd : biD .divmod [.int c, .int m] = some (.tuple [.int (c / m), .int (c % m)]) := by simp [biD, hm, hm2]
    simp [hd, asgW, asgT, asgTs, Tr.ok, pt, fin]
    exact ⟨emod_rng hm, st _⟩
  · have md : ∀ {i j : Int}, 0 < j → binD .mod (.int i) (.int j) = some (.int (i % j)) := fun h => by simp [binD, h]
    have ml : ∀ {i j : Int}, -(2 ^ 64) < j → j < 2 ^ 64 → binD .mul (.int i) (.int j) = some (.int (i * j)) := fun {i j} h1 h2 => by
      have : fitMul i j = true := decide_eq_true (Or.inr ⟨h1, h2⟩)
      simp only [binD, this, if_true]
    have ad : ∀ {i j : Int}, binD .add (.int i) (.int j) = some (.int (i + j)) := rfl
    have fd : ∀ {i : Int}, binD .fdiv (.int i) (.int 32) = some (.int (i / 32)) := rfl
    simp [h1, Tr.ok, pk, md, ml, ad, asgW, asgT]
    generalize e1 : (c % 2147483647 + 40503) * 69621 % 2147483629 = s
    have s1 := emod_rng (a := (c % 2147483647 + 40503) * 69621) (m := 2147483629) (by decide)
    rw [e1] at s1
    have ml2 : binD .mul (.int s) (.int s) = some (.int (s * s)) := ml (by omega) (by omega)
    simp [ml2, Tr.ok, md, ml, ad, asgW, asgT, pt, pk2, fd, hm, fin]
    exact ⟨emod_rng hm, st _⟩
/-! ### frames -/
def Pen (p : Nat) (h : Hs) : Prop := ∃ c x, h[p]? = some (.lst [.int c, .int x])
theorem Pen.lt {p : Nat} {h : Hs} (q : Pen p h) : p < h.length := by
  obtain ⟨c, x, hc⟩ := q
  by_cases hl : p < h.length
  · exact hl
  · rw [List.getElem?_eq_none (by omega)] at hc; cases hc
structure Fr (p : Nat) (h a : Hs) : Prop where
  pen : Pen p a
  lt : p < h.length
  le : h.length ≤ a.length
  keep : ∀ q, q < h.length → q ≠ p → a[q]? = h[q]?
theorem Fr.refl {p : Nat} {h : Hs} (q : Pen p h) : Fr p h h := ⟨q, q.lt, Nat.le_refl _, fun _ _ _ => rfl⟩
theorem Fr.st {p : Nat} {h a b : Hs} (f : Fr p h a) (s : St p a b) : Fr p h b := ⟨s.1, f.lt, by rw [s.2.1]; exact f.le, fun q h1 h2 => (s.2.2 q h2).trans (f.keep q h1 h2)⟩
theorem Fr.app {p : Nat} {h a l : Hs} (f : Fr p h a) : Fr p h (a ++ l) := by
  have hl := f.pen.lt
  refine ⟨?_, f.lt, by have := f.le; simp; omega, fun q h1 h2 => ?_⟩
  · obtain ⟨c, x, hc⟩ := f.pen
    exact ⟨c, x, by rw [List.getElem?_append_left hl]; exact hc⟩
  · rw [List.getElem?_append_left (by have := f.le; omega)]; exact f.keep q h1 h2
theorem Fr.set {p n : Nat} {h a : Hs} {o : Ob} (f : Fr p h a) (hn : h.length ≤ n) : Fr p h (a.set n o) := by
  have hp := f.lt
  refine ⟨?_, f.lt, by have := f.le; simpa using this, fun q h1 h2 => ?_⟩
  · obtain ⟨c, x, hc⟩ := f.pen
    exact ⟨c, x, by rw [List.getElem?_set_ne (by omega)]; exact hc⟩
  · rw [List.getElem?_set_ne (by omega)]; exact f.keep q h1 h2
theorem Fr.take {p : Nat} {h a : Hs} (f : Fr p h a) : St p h (a.take h.length) := by
  have hp := f.lt
  refine ⟨?_, by have := f.le; simp; omega, fun q h2 => ?_⟩
  · obtain ⟨c, x, hc⟩ := f.pen
    exact ⟨c, x, by rw [List.getElem?_take_of_lt hp]; exact hc⟩
  · by_cases h1 : q < h.length
    · rw [List.getElem?_take_of_lt h1]; exact f.keep q h1 h2
    · rw [List.getElem?_eq_none (by simp; omega), List.getElem?_eq_none (by omega)]
theorem St.pen {p : Nat} {a b : Hs} (s : St p a b) : Pen p b := s.1
theorem mtT_app {n : Nat} {a : Hs} {xs : List D} (e : a[n]? = some (.lst xs)) : mtT .append (.ref n) a = some () := by
  simp only [mtT, e]
theorem mtW_app {n : Nat} {a : Hs} {xs : List D} {d : D} (e : a[n]? = some (.lst xs)) (hl : xs.length < lim) : mtW .append (.ref n) [.t d] a = .ok (.t .none) (a.set n (.lst (xs ++ [d]))) := by
  simp only [mtW, frz_t, e, hl, if_true]
theorem peek_lst {n : Nat} {a : Hs} {xs : List D} (e : a[n]? = some (.lst xs)) : MF.W.peek (.ref n) a = some (.list xs) := by
  show (a[n]?).bind Ob.peek = _
  rw [e]; rfl
theorem get_app {a : Hs} {o : Ob} : (a ++ [o])[a.length]? = some o := by simp
/-- a row of the law's own making -/
def RowP (d : D) : Prop := ∃ is : List Int, d = .tuple (is.map .int) ∧ 1 ≤ is.length ∧ is.length ≤ 3 ∧ ∀ i ∈ is, -1000 ≤ i ∧ i ≤ 1000
def PlantP (w : W) : Prop := ∃ bs es m, w = .t (.tuple [.tuple bs, .tuple es, m]) ∧ 1 ≤ bs.length ∧ bs.length ≤ 4 ∧ (∀ b ∈ bs, RowP b) ∧ es.length ≤ 4 ∧ (∀ e ∈ es, RowP e) ∧ RowP m
/-! ### rows under way, of any kind -/
def RowsQ (P : D → Prop) (n j : Nat) (a : Hs) : Prop := ∃ xs, a[n]? = some (.lst xs) ∧ xs.length = j ∧ ∀ x ∈ xs, P x
theorem RowsQ.st {P : D → Prop} {p n j : Nat} {a b : Hs} (r : RowsQ P n j a) (s : St p a b) (hn : n ≠ p) : RowsQ P n j b := by
  obtain ⟨xs, e, hl, hx⟩ := r
  exact ⟨xs, (s.2.2 n hn).trans e, hl, hx⟩
theorem RowsQ.add {P : D → Prop} {n j : Nat} {a : Hs} {xs : List D} {d : D} (e : a[n]? = some (.lst xs)) (hl : xs.length = j) (hx : ∀ x ∈ xs, P x) (hd : P d) : RowsQ P n (j + 1) (a.set n (.lst (xs ++ [d]))) := by
  have hn : n < a.length := by
    by_cases hn : n < a.length
    · exact hn
    · rw [List.getElem?_eq_none (by omega)] at e; cases e
  refine ⟨xs ++ [d], by rw [List.getElem?_set_self hn], by simp [hl], fun x h => ?_⟩
  rcases List.mem_append.mp h with h | h
  · exact hx x h
  · rw [List.mem_singleton.mp h]; exact hd
theorem rngD_len {lo : Int} {n : Nat} : (rngD lo n).length = n := by simp [rngD]
theorem rng_lt {lo : Int} {n j : Nat} {x : D} (h : (rngD lo n)[j]? = some x) : j < n := by
  by_cases hj : j < n
  · exact hj
  · rw [List.getElem?_eq_none (by rw [rngD_len]; omega)] at h; cases h
theorem RowsQ.lt {P : D → Prop} {n j : Nat} {a : Hs} (r : RowsQ P n j a) : n < a.length := by
  obtain ⟨xs, e, -, -⟩ := r
  by_cases hn : n < a.length
  · exact hn
  · rw [List.getElem?_eq_none (by omega)] at e; cases e
theorem RowsQ.app {P : D → Prop} {n j : Nat} {a l : Hs} (r : RowsQ P n j a) : RowsQ P n j (a ++ l) := by
  have hn := r.lt
  obtain ⟨xs, e, hl, hx⟩ := r
  exact ⟨xs, by rw [List.getElem?_append_left hn]; exact e, hl, hx⟩
theorem RowsQ.set {P : D → Prop} {n m j : Nat} {a : Hs} {o : Ob} (r : RowsQ P n j a) (h : m ≠ n) : RowsQ P n j (a.set m o) := by
  obtain ⟨xs, e, hl, hx⟩ := r
  exact ⟨xs, by rw [List.getElem?_set_ne h]; exact e, hl, hx⟩
/-! ### loops that put one thing after another into a list -/
theorem get_mid {h g : Hs} {o : Ob} : (h ++ o :: g)[h.length]? = some o := by simp
theorem set_mid {h g : Hs} {o o' : Ob} : (h ++ o :: g).set h.length o' = h ++ o' :: g := by simp
@[simp] theorem mtT_mid {h g : Hs} {ys : List D} : mtT .append (.ref h.length) (h ++ .lst ys :: g) = some () := mtT_app get_mid
theorem mtW_mid {h g : Hs} {ys : List D} {d : D} (hl : ys.length ≤ 1000) : mtW .append (.ref h.length) [.t d] (h ++ .lst ys :: g) = .ok (.t .none) (h ++ .lst (ys ++ [d]) :: g) := by
  rw [mtW_app get_mid (by unfold lim; omega), set_mid]
@[simp] theorem peek_mid {h g : Hs} {ys : List D} : (MF.W.ref h.length).peek (h ++ .lst ys :: g) = some (.list ys) := peek_lst get_mid
theorem app_loop {f : D → Ev → Hs → Res Fl} {xs : List D} {env : Ev} {h g0 : Hs} (E : Ev → Prop) (v : Nat → D) (hl : xs.length ≤ 1000) (hE : E env)
    (step : ∀ i x e ys g, xs[i]? = some x → E e → ys.length ≤ 1000 → Tr (f x e (h ++ .lst ys :: g)) (fun l a => ∃ e' g', l = .nx e' ∧ E e' ∧ a = h ++ .lst (ys ++ [v i]) :: g')) :
    Tr (forL f xs env (h ++ .lst [] :: g0)) (fun l a => ∃ e' g', l = .nx e' ∧ E e' ∧ a = h ++ .lst ((List.range xs.length).map v) :: g') := by
  refine forL_tr (fun i e a => E e ∧ i ≤ xs.length ∧ ∃ g, a = h ++ .lst ((List.range i).map v) :: g) ⟨hE, Nat.zero_le _, g0, rfl⟩ ?_ ?_
  · rintro i x e _ hx ⟨he, hi, g, rfl⟩
    have hi2 : i < xs.length := by
      by_cases hl : i < xs.length
      · exact hl
      · rw [List.getElem?_eq_none (by omega)] at hx; cases hx
    refine (step i x e _ g hx he (by simp; omega)).mono ?_
    rintro _ _ ⟨e', g', rfl, he', rfl⟩
    exact ⟨he', hi2, g', by rw [List.range_succ, List.map_append]; rfl⟩
  · rintro e _ ⟨he, -, g, rfl⟩
    exact ⟨e, g, rfl, he, rfl⟩
theorem Tr.out {α : Type} {m : Res α} {x : α} {h : Hs} (t : Tr m (fun w h' => w = x ∧ h' = h)) : m = .ok x h := by
  obtain ⟨a, h', e, rfl, rfl⟩ := Tr.eq.mp t
  exact e
theorem rng_at {lo : Int} {n i : Nat} {x : D} (h : (rngD lo n)[i]? = some x) : x = .int (lo + i) ∧ i < n := by
  have hi := rng_lt h
  refine ⟨?_, hi⟩
  unfold rngD at h
  rw [List.getElem?_map, List.getElem?_range hi] at h
  exact (Option.some.inj h).symm
theorem enm_at {xs : List D} {i : Nat} {x : D} (h : (enmD xs)[i]? = some x) : ∃ y, xs[i]? = some y ∧ x = .tuple [.int i, y] ∧ i < xs.length := by
  unfold enmD at h
  have hi : i < xs.length := by
    by_cases hi : i < xs.length
    · exact hi
    · rw [List.getElem?_eq_none (by simp; omega)] at h; cases h
  rw [List.getElem?_zipWith, List.getElem?_range hi, List.getElem?_eq_getElem hi] at h
  exact ⟨_, List.getElem?_eq_getElem hi, (Option.some.inj h).symm, hi⟩
theorem enm_len {xs : List D} : (enmD xs).length = xs.length := by simp [enmD]
theorem rng_map {n : Nat} : rngD 0 n = (List.range n).map fun (i : Nat) => PyData.int i := by
  unfold rngD
  simp
/-! ### plants and stories as they are -/
theorem pick {α β : Type} {f : β → α} {P : β → Prop} : ∀ {xs : List α}, (∀ x ∈ xs, ∃ y, P y ∧ x = f y) → ∃ ys : List β, xs = ys.map f ∧ ∀ y ∈ ys, P y
  | [], _ => ⟨[], rfl, fun _ h => by simp at h⟩
  | x :: xs, h => by
    obtain ⟨y, hy, e⟩ := h x List.mem_cons_self
    obtain ⟨ys, e2, hys⟩ := pick (f := f) (P := P) (xs := xs) fun x hx => h x (List.mem_cons_of_mem _ hx)
    exact ⟨y :: ys, by rw [e, e2]; rfl, fun z hz => (List.mem_cons.mp hz).elim (fun e => e ▸ hy) (hys z)⟩
structure Pl where
  bs : List (Int × Int)
  es : List (Int × Int × Int)
  lo : Int
  hi : Int
  st : Int
def boD (b : Int × Int) : D := .tuple [.int b.1, .int b.2]
def enD (e : Int × Int × Int) : D := .tuple [.int e.1, .int e.2.1, .int e.2.2]
def Pl.mD (p : Pl) : D := .tuple [.int p.lo, .int p.hi, .int p.st]
def Pl.d (p : Pl) : D := .tuple [.tuple (p.bs.map boD), .tuple (p.es.map enD), p.mD]
structure Pl.Ok (p : Pl) : Prop where
  b1 : 1 ≤ p.bs.length
  b4 : p.bs.length ≤ 4
  bo : ∀ b ∈ p.bs, 1 ≤ b.1 ∧ b.1 ≤ 9 ∧ 1 ≤ b.2 ∧ b.2 ≤ 9
  e4 : p.es.length ≤ 4
  en : ∀ e ∈ p.es, 1 ≤ e.1 ∧ e.1 ≤ 9 ∧ 0 ≤ e.2.1 ∧ e.2.1 ≤ 7 ∧ 1 ≤ e.2.2 ∧ e.2.2 ≤ 8
  lo0 : 0 ≤ p.lo
  hi4 : p.hi ≤ 40
  ls : p.lo ≤ p.st
  sh : p.st ≤ p.hi
structure Flt where
  b : Int
  w : PySem.Str
  f : Int
  l : Int
def flD (x : Flt) : D := .tuple [.int x.b, .str x.w, .int x.f, .int x.l]
structure Sto where
  hs : List Int
  fs : List Flt
def Sto.d (s : Sto) : D := .tuple [.tuple (s.hs.map .int), .tuple (s.fs.map flD)]
structure Flt.Ok (n m : Nat) (x : Flt) : Prop where
  w : x.w = "out" ∨ x.w = "scaled"
  b0 : 0 ≤ x.b
  b1 : x.b < n
  f0 : 0 ≤ x.f
  fl : x.f ≤ x.l
  l1 : x.l < m
structure Sto.Ok (n : Nat) (s : Sto) : Prop where
  h1 : 1 ≤ s.hs.length
  h8 : s.hs.length ≤ 8
  ho : ∀ x ∈ s.hs, 0 ≤ x ∧ x ≤ 20
  f4 : s.fs.length ≤ 4
  fo : ∀ x ∈ s.fs, x.Ok n s.hs.length
theorem plantB_ok {p : Pl} (o : p.Ok) : plantB p.d = true := by
  have h1 := o.lo0; have h2 := o.hi4; have h3 := o.ls; have h4 := o.sh
  have m : mainB p.mD = true := by
    simp [Pl.mD, mainB, rowB, m3, inB]; omega
  have b : boB (.tuple (p.bs.map boD)) = true := by
    rw [boB_t]
    have b1 := o.b1; have b4 := o.b4
    have : allB (rowB bo2) (p.bs.map boD) = true := by
      unfold allB
      rw [List.all_eq_true]
      intro x hx
      obtain ⟨b, hb, rfl⟩ := List.mem_map.mp hx
      have := o.bo b hb
      simp [rowB, bo2, boD, inB]; omega
    rw [this]; simp; omega
  have e : enB (.tuple (p.es.map enD)) = true := by
    rw [enB_t]
    have e4 := o.e4
    have : allB (rowB en3) (p.es.map enD) = true := by
      unfold allB
      rw [List.all_eq_true]
      intro x hx
      obtain ⟨b, hb, rfl⟩ := List.mem_map.mp hx
      have := o.en b hb
      simp [rowB, en3, enD, inB]; omega
    rw [this]; simp; omega
  unfold Pl.d; rw [plantB_3, m, b, e]; rfl
theorem is_plant_t {k : Nat} {p : Pl} (o : p.Ok) {h : Hs} : callF cs (Prs ci.cl ds) (k + 4) 4 [.t p.d] h = .ok (.t (.bool true)) h := by
  rw [is_plant_ok, plantB_ok o]
theorem need_plant_t {k : Nat} {p : Pl} (o : p.Ok) {h : Hs} : callF cs (Prs ci.cl ds) (k + 5) 7 [.t p.d] h = .ok (.t .none) h := by
  rw [callF_eq (d := d_need_plant.fd) rfl rfl]
  simp [d_need_plant, b_need_plant, is_plant_t o, fin]
/-! ### calls that are told; bodies that raise -/
theorem told_ok {k g : Nat} {r : DR} {ws : List MF.W} {h : Hs} {d : D} (e : ds[g]? = some r) (hc : ci.cl.isEmpty = false) (m : callF cs (Prs ci.cl ds) k g ws h = .ok (.t d) h) : callF cs (Prs ci.cl ds) (k + 1) (ds.length + g) ws h = .ok (.t (.tuple [.str "told", d])) h := by
  letI : LTab := ⟨[]⟩
  rw [callF_told hc e, m]
  simp [toldC, toldR, W.frz, fin]
theorem told_exc {k g c : Nat} {r : DR} {ws : List MF.W} {h : Hs} {d : D} {w : PySem.Str} (e : ds[g]? = some r) (hc : ci.cl.isEmpty = false) (hm : c ∈ ci.cl) (hw : wordsL[c]? = some w) (m : callF cs (Prs ci.cl ds) k g ws h = .exc c d h) : callF cs (Prs ci.cl ds) (k + 1) (ds.length + g) ws h = .ok (.t (.tuple [.str w])) h := by
  letI : LTab := ⟨[]⟩
  rw [callF_told hc e, m]
  simp [toldC, toldR, hm, hw, W.frz, fin]
theorem callF_exc {k f c : Nat} {ws : List MF.W} {h : Hs} {d : Fd} {v : D} (e : (Prs ci.cl ds)[f]? = some d) (hl : ws.length = d.np) (b : execs cs (callF cs (Prs ci.cl ds) k) d.body (ws.map some ++ List.replicate (d.nn - d.np) none) h = .exc c v h) : callF cs (Prs ci.cl ds) (k + 1) f ws h = .exc c v h := by
  rw [callF_eq e hl, b]
  simp
@[simp] theorem exec_raise {cs : List D} {cf : CF} {c : Nat} {env : Ev} {h : Hs} : MF.exec cs cf (.raise c) env h = .exc c .none h := by rw [MF.exec]
/-! ### is_story_of -/
theorem is_upto_ok {k : Nat} {d : D} {n : Int} {h : Hs} : callF cs (Prs ci.cl ds) (k + 2) 1 [.t d, .t (.int n)] h = .ok (.t (.bool (inB 0 (n - 1) d))) h := by
  refine callF_rt (d := d_is_upto.fd) rfl rfl rfl ?_
  have sb : ∀ {i j : Int}, binD .sub (.int i) (.int j) = some (.int (i - j)) := rfl
  simp [d_is_upto, b_is_upto, sb, is_within_ok]
def strB (d : D) : Bool := match d with
  | .str w => w == "out" || w == "scaled"
  | _ => false
def intO (d : D) : Option Int := match d with
  | .int i => some i
  | _ => none
def leD (a b : D) : Bool := ((intO a).bind fun i => (intO b).map fun j => decide (i ≤ j)).getD false
def flt4 (n m : Int) (a x c e : D) : Bool := strB x && (inB 0 (n - 1) a && (inB 0 (m - 1) c && (inB 0 (m - 1) e && leD c e)))
def fltB (n m : Int) (d : D) : Bool := match d with
  | .tuple [a, x, c, e] => flt4 n m a x c e
  | _ => false
theorem fltB_4 {n m : Int} {a x c e : D} : fltB n m (.tuple [a, x, c, e]) = flt4 n m a x c e := rfl
theorem fltB_n {n m : Int} {xs : List D} (h : ¬ xs.length = 4) : fltB n m (.tuple xs) = false := by
  match xs with
  | [] => rfl
  | [_] => rfl
  | [_, _] => rfl
  | [_, _, _] => rfl
  | [_, _, _, _] => exact (h rfl).elim
  | _ :: _ :: _ :: _ :: _ :: _ => rfl
theorem nin_flt {w : PySem.Str} : cmpD .nin (.str w) (.tuple [.str "out", .str "scaled"]) = some (!strB (.str w)) := by
  show (memD (.str w) (.tuple [.str "out", .str "scaled"])).map (!·) = _
  have e : ∀ a b : PySem.Str, PyData.eqv (.str a) (.str b) = (a == b) := fun a b => rfl
  have e3 : inD (.str w) [.str "out", .str "scaled"] = some (strB (.str w)) := by
    simp only [inD, flatD, List.all_cons, List.all_nil, Bool.and_self, and_self, if_true, List.any_cons, List.any_nil, e, strB, Bool.or_false]
    rw [BEq.comm (a := ("out" : PySem.Str)), BEq.comm (a := ("scaled" : PySem.Str))]
  have e2 : memD (.str w) (.tuple [.str "out", .str "scaled"]) = some (strB (.str w)) := by
    show inT (.str w) [.str "out", .str "scaled"] = _
    unfold inT
    rw [e3]
  rw [e2]; rfl
theorem tup_of {d : D} (h : isD "tuple" d = true) : ∃ xs, d = .tuple xs := by
  cases d <;> first | exact ⟨_, rfl⟩ | cases h
theorem str_of {d : D} (h : isD "str" d = true) : ∃ xs, d = .str xs := by
  cases d <;> first | exact ⟨_, rfl⟩ | cases h
@[simp] theorem atI_c3 {x y z w : D} {r : List D} : L2.atI (x :: y :: z :: w :: r) 3 = some w := by
  unfold L2.atI L2.ixN
  rw [if_pos (by decide), if_pos (by simp only [List.length_cons]; omega)]; rfl
theorem is_fault_ok {k : Nat} {d : D} {n m : Int} {h : Hs} : callF cs (Prs ci.cl ds) (k + 3) 5 [.t (.int n), .t (.int m), .t d] h = .ok (.t (.bool (fltB n m d))) h := by
  refine callF_rt (d := d_is_fault.fd) rfl rfl rfl ?_
  by_cases ht : isD "tuple" d = true
  case neg =>
    have : fltB n m d = false := by cases d <;> first | rfl | exact (ht rfl).elim
    simp [d_is_fault, b_is_fault, ht, this]
  obtain ⟨xs, rfl⟩ := tup_of ht
  simp [d_is_fault, b_is_fault, ht, len_t, ne_int]
  by_cases hl : xs.length = 4
  case neg =>
    have hl' : ¬ ((xs.length : Int) = 4) := by omega
    simp [hl', fltB_n hl]
  obtain ⟨a, x, c, e, rfl⟩ : ∃ a x c e, xs = [a, x, c, e] := by
    match xs, hl with
    | [a, x, c, e], _ => exact ⟨a, x, c, e, rfl⟩
  simp [fltB_4]
  by_cases hs : isD "str" x = true
  case neg =>
    have : strB x = false := by cases x <;> first | rfl | exact (hs rfl).elim
    simp [hs, flt4, this]
  obtain ⟨w, rfl⟩ := str_of hs
  have c3 : cs[3]? = some (.tuple [.str "out", .str "scaled"]) := rfl
  simp [hs, c3, nin_flt, flt4]
  cases hw : strB (.str w) with
  | false => simp
  | true =>
    simp [is_upto_ok]
    cases h1 : inB 0 (n - 1) a with
    | false => simp
    | true =>
      simp
      cases h2 : inB 0 (m - 1) c with
      | false => simp
      | true =>
        simp
        cases h3 : inB 0 (m - 1) e with
        | false => simp
        | true =>
          obtain ⟨i, rfl, -⟩ := inB_int h2
          obtain ⟨j, rfl, -⟩ := inB_int h3
          simp [leD, intO]
def hrsB (d : D) : Bool := match d with
  | .tuple xs => decide (1 ≤ xs.length) && decide (xs.length ≤ 8) && allB (inB 0 20) xs
  | _ => false
def fltsB (n m : Int) (d : D) : Bool := match d with
  | .tuple xs => decide (xs.length ≤ 4) && allB (fltB n m) xs
  | _ => false
def lenD (d : D) : Int := match d with
  | .tuple xs => xs.length
  | _ => 0
def storyB (n : Int) (d : D) : Bool := match d with
  | .tuple [x, y] => hrsB x && fltsB n (lenD x) y
  | _ => false
theorem storyB_2 {n : Int} {x y : D} : storyB n (.tuple [x, y]) = (hrsB x && fltsB n (lenD x) y) := rfl
theorem storyB_n {n : Int} {xs : List D} (h : ¬ xs.length = 2) : storyB n (.tuple xs) = false := by
  match xs with
  | [] => rfl
  | [_] => rfl
  | [_, _] => exact (h rfl).elim
  | _ :: _ :: _ :: _ => rfl
theorem is_story_ok {k : Nat} {bs : List D} {r : List D} {d : D} {h : Hs} : callF cs (Prs ci.cl ds) (k + 4) 6 [.t (.tuple (.tuple bs :: r)), .t d] h = .ok (.t (.bool (storyB bs.length d))) h := by
  refine callF_rt (d := d_is_story_of.fd) rfl rfl rfl ?_
  by_cases ht : isD "tuple" d = true
  case neg =>
    have : storyB bs.length d = false := by cases d <;> first | rfl | exact (ht rfl).elim
    simp [d_is_story_of, b_is_story_of, ht, this]
  obtain ⟨xs, rfl⟩ := tup_of ht
  simp [d_is_story_of, b_is_story_of, ht, len_t, ne_int]
  by_cases hl : xs.length = 2
  case neg =>
    have hl' : ¬ ((xs.length : Int) = 2) := by omega
    simp [hl', storyB_n hl]
  obtain ⟨x, y, rfl⟩ : ∃ x y, xs = [x, y] := by
    match xs, hl with
    | [x, y], _ => exact ⟨x, y, rfl⟩
  simp [storyB_2]
  by_cases hx : isD "tuple" x = true
  case neg =>
    have : hrsB x = false := by cases x <;> first | rfl | exact (hx rfl).elim
    simp [hx, this]
  obtain ⟨hs, rfl⟩ := tup_of hx
  have c5 : cs[5]? = some (.int 8) := rfl
  have c4 : cs[4]? = some (.int 20) := rfl
  have c6 : cs[6]? = some (.int 4) := rfl
  have hB : hrsB (.tuple hs) = (decide (1 ≤ hs.length) && decide (hs.length ≤ 8) && allB (inB 0 20) hs) := rfl
  simp [hx, c5, c4, c6, hB]
  by_cases h1 : 1 ≤ hs.length
  case neg =>
    have h1' : ¬ ((1 : Int) ≤ hs.length) := by omega
    simp [h1, h1']
  have h1' : (1 : Int) ≤ hs.length := by omega
  by_cases h4 : hs.length ≤ 8
  case neg =>
    have h4' : ¬ ((hs.length : Int) ≤ 8) := by omega
    simp [h1, h1', h4, h4']
  have h4' : (hs.length : Int) ≤ 8 := by omega
  simp [h1, h1', h4, h4', seqD]
  rw [nox_ok (all_comp (g := inB 0 20) (by simp) (fun x h => by simp [wipeW, c4, is_within_ok]) hs)]
  simp [all_bools]
  cases hb : allB (inB 0 20) hs with
  | false => simp
  | true =>
    simp
    by_cases hy : isD "tuple" y = true
    case neg =>
      have : fltsB bs.length (lenD (.tuple hs)) y = false := by cases y <;> first | rfl | exact (hy rfl).elim
      simp [hy, this]
    obtain ⟨fs, rfl⟩ := tup_of hy
    have fB : fltsB bs.length (lenD (.tuple hs)) (.tuple fs) = (decide (fs.length ≤ 4) && allB (fltB bs.length hs.length) fs) := rfl
    simp [hy, fB, c6]
    by_cases h5 : fs.length ≤ 4
    case neg =>
      have h5' : (4 : Int) < fs.length := by omega
      simp [h5, h5']
    have h5' : ¬ ((4 : Int) < fs.length) := by omega
    simp [h5, h5', seqD]
    rw [nox_ok (all_comp (g := fltB bs.length hs.length) (by simp) (fun x h => by simp [wipeW, is_fault_ok]) fs)]
    simp [all_bools]
theorem storyB_ok {p : Pl} {s : Sto} (o : s.Ok p.bs.length) : storyB (p.bs.map boD).length s.d = true := by
  unfold Sto.d
  rw [storyB_2]
  have h1 := o.h1; have h8 := o.h8; have f4 := o.f4
  have a1 : allB (inB 0 20) (s.hs.map .int) = true := by
    unfold allB
    rw [List.all_eq_true]
    intro x hx
    obtain ⟨b, hb, rfl⟩ := List.mem_map.mp hx
    have := o.ho b hb
    simp [inB]; omega
  have a2 : allB (fltB p.bs.length s.hs.length) (s.fs.map flD) = true := by
    unfold allB
    rw [List.all_eq_true]
    intro x hx
    obtain ⟨b, hb, rfl⟩ := List.mem_map.mp hx
    obtain ⟨w, b0, b1, f0, fl, l1⟩ := o.fo b hb
    have hw : strB (.str b.w) = true := by
      rcases w with w | w <;> rw [w] <;> decide
    unfold flD
    rw [fltB_4]
    simp [flt4, hw, inB, leD, intO]
    omega
  simp [hrsB, fltsB, lenD, a1, a2]
  omega
theorem is_story_t {k : Nat} {p : Pl} {s : Sto} (o : s.Ok p.bs.length) {h : Hs} : callF cs (Prs ci.cl ds) (k + 4) 6 [.t p.d, .t s.d] h = .ok (.t (.bool true)) h := by
  have e : p.d = .tuple (.tuple (p.bs.map boD) :: [.tuple (p.es.map enD), p.mD]) := rfl
  rw [e, is_story_ok, storyB_ok o]
theorem need_story_t {k : Nat} {p : Pl} {s : Sto} (op : p.Ok) (o : s.Ok p.bs.length) {h : Hs} : callF cs (Prs ci.cl ds) (k + 6) 8 [.t p.d, .t s.d] h = .ok (.t .none) h := by
  rw [callF_eq (d := d_need_story.fd) rfl rfl]
  simp [d_need_story, b_need_story, need_plant_t op, is_story_t o, fin]
/-! ### cap_at, caps_by, draws_by -/
@[simp] theorem Pl.ix0 {p : Pl} : ixD p.d (.int 0) = some (.tuple (p.bs.map boD)) := by simp [Pl.d]
@[simp] theorem Pl.ix1 {p : Pl} : ixD p.d (.int 1) = some (.tuple (p.es.map enD)) := by simp [Pl.d]
@[simp] theorem Pl.ix2 {p : Pl} : ixD p.d (.int 2) = some p.mD := by simp [Pl.d]
@[simp] theorem Sto.ix0 {s : Sto} : ixD s.d (.int 0) = some (.tuple (s.hs.map .int)) := by simp [Sto.d]
@[simp] theorem Sto.ix1 {s : Sto} : ixD s.d (.int 1) = some (.tuple (s.fs.map flD)) := by simp [Sto.d]
theorem compL_fm {α : Type} {f : D → Hs → Res (Option D)} {enc : α → D} {g : α → D} {p : α → Bool} {xs : List α} {h : Hs} (e : ∀ x ∈ xs, f (enc x) h = .ok (if p x then some (g x) else none) h) : compL f (xs.map enc) h = .ok ((xs.filter p).map g) h := by
  induction xs with
  | nil => rfl
  | cons x xs ih =>
    simp only [List.map_cons, compL, e x List.mem_cons_self, Res.ok_bind]
    rw [ih fun y hy => e y (List.mem_cons_of_mem _ hy)]
    cases hp : p x <;> simp [hp]
theorem compL_mm {α : Type} {f : D → Hs → Res (Option D)} {enc : α → D} {g : α → D} {xs : List α} {h : Hs} (e : ∀ x ∈ xs, f (enc x) h = .ok (some (g x)) h) : compL f (xs.map enc) h = .ok (xs.map g) h := by
  induction xs with
  | nil => rfl
  | cons x xs ih =>
    simp only [List.map_cons, compL, e x List.mem_cons_self, Res.ok_bind]
    rw [ih fun y hy => e y (List.mem_cons_of_mem _ hy)]
    rfl
theorem mem_strs {w : PySem.Str} {ws : List PySem.Str} : memD (.str w) (.list (ws.map .str)) = some (decide (w ∈ ws)) := by
  have h : (ws.map PyData.str).all flatD = true := by simp [flatD]
  have e : ∀ a b : PySem.Str, PyData.eqv (.str a) (.str b) = (a == b) := fun a b => rfl
  show inD _ _ = _
  unfold inD
  rw [if_pos ⟨rfl, h⟩]
  congr 1
  induction ws with
  | nil => simp
  | cons a ws ih =>
    have h' : (ws.map PyData.str).all flatD = true := by simp [flatD]
    simp only [List.map_cons, List.any_cons, ih h', e]
    by_cases ha : a = w
    · subst ha; simp
    · have : ¬ w = a := fun x => ha x.symm
      simp [ha, this]
@[simp] theorem isin_e {x y : D} : cmpD .isin x y = memD x y := rfl
def wOut : PySem.Str := "out"
def wSc : PySem.Str := "scaled"
def wordsAt (s : Sto) (h b : Int) : List PySem.Str := (s.fs.filter fun x => decide (x.b = b) && (decide (x.f ≤ h) && decide (h ≤ x.l))).map (·.w)
def capOf (ws : List PySem.Str) (m : Int) : Int := if wOut ∈ ws then 0 else if wSc ∈ ws then m / 2 else m
def capI (p : Pl) (s : Sto) (h b : Nat) : Int := capOf (wordsAt s h b) ((p.bs[b]?.map (·.1)).getD 0)
def caps (p : Pl) (s : Sto) : List (List Int) := (List.range s.hs.length).map fun h => (List.range p.bs.length).map fun b => capI p s h b
def rowD (r : List Int) : D := .tuple (r.map .int)
def matD (m : List (List Int)) : D := .tuple (m.map rowD)
theorem atI_nat {α : Type} {xs : List α} {i : Nat} (h : i < xs.length) : L2.atI xs (i : Int) = xs[i]? := by
  unfold L2.atI L2.ixN
  rw [if_pos (by omega), if_pos (by omega)]
  simp
theorem atI_map {α : Type} {f : α → D} {xs : List α} {i : Nat} {x : α} (h : xs[i]? = some x) : L2.atI (xs.map f) (i : Int) = some (f x) := by
  have hl : i < xs.length := by
    by_cases hl : i < xs.length
    · exact hl
    · rw [List.getElem?_eq_none (by omega)] at h; cases h
  rw [atI_nat (by simpa using hl), List.getElem?_map, h]; rfl
@[simp] theorem mOut {ws : List PySem.Str} : memD (.str "out") (.list (ws.map .str)) = some (decide (wOut ∈ ws)) := mem_strs
@[simp] theorem mSc {ws : List PySem.Str} : memD (.str "scaled") (.list (ws.map .str)) = some (decide (wSc ∈ ws)) := mem_strs
theorem compL_words {f : D → Hs → Res (Option D)} {s : Sto} {hr b : Int} {h : Hs} (e : ∀ x ∈ s.fs, f (flD x) h = .ok (if (decide (x.b = b) && (decide (x.f ≤ hr) && decide (hr ≤ x.l))) then some (.str x.w) else none) h) :
    compL f (s.fs.map flD) h = .ok ((wordsAt s hr b).map .str) h := by
  rw [compL_fm e]
  simp [wordsAt, List.map_map]
theorem cap_at_ok {k : Nat} {p : Pl} {s : Sto} {hr b : Nat} {h : Hs} (hb : b < p.bs.length) : callF cs (Prs ci.cl ds) (k + 1) 10 [.t p.d, .t s.d, .t (.int hr), .t (.int b)] h = .ok (.t (.int (capI p s hr b))) h := by
  refine callF_rt (d := d_cap_at.fd) rfl rfl rfl ?_
  simp [d_cap_at, b_cap_at, Sto.ix1, Pl.ix0, seqD]
  rw [nox_ok (compL_words (s := s) (hr := hr) (b := b) fun x _ => by
    unfold compG flD
    by_cases c1 : x.b = b <;> by_cases c2 : x.f ≤ hr <;> by_cases c3 : (hr : Int) ≤ x.l <;> simp [asgT, asgTs, wipeW, eq_int', c1, c2, c3])]
  have hx : p.bs[b]? = some p.bs[b] := List.getElem?_eq_getElem hb
  have fd : ∀ {i : Int}, binD .fdiv (.int i) (.int 2) = some (.int (i / 2)) := fun {i} => rfl
  simp [asgW, asgT, mOut, mSc]
  by_cases h1 : wOut ∈ wordsAt s hr b
  · simp [h1, capI, capOf]
  · simp [h1, atI_map hx, boD]
    by_cases h2 : wSc ∈ wordsAt s hr b
    · simp [h2, fd, capI, capOf, h1, hx]
    · simp [h2, capI, capOf, h1, hx]
def capRow (p : Pl) (s : Sto) (h : Nat) : List Int := (List.range p.bs.length).map fun b => capI p s h b
/-! ### caps_by, draws_by and their doors -/
theorem caps_by_ok {k : Nat} {p : Pl} {s : Sto} {h : Hs} (op : p.Ok) (os : s.Ok p.bs.length) : callF cs (Prs ci.cl ds) (k + 2) 11 [.t p.d, .t s.d] h = .ok (.t (matD (caps p s))) h := by
  refine Tr.out (callF_tr (d := d_caps_by.fd) rfl rfl ?_)
  have h8 := os.h8
  have b4 := op.b4
  have rg : rngOk (s.hs.length : Int) = true := by unfold rngOk; simp; omega
  have rg2 : rngOk (p.bs.length : Int) = true := by unfold rngOk; simp; omega
  simp [d_caps_by, b_caps_by, Tr.bind, Tr.ok, rg]
  refine (app_loop (fun e => ∃ t3, e = [some (.t p.d), some (.t s.d), some (.ref h.length), t3, none]) (fun j => rowD (capRow p s j)) (by rw [rngD_len]; omega) ⟨_, rfl⟩ ?_).mono ?_
  · rintro i x _ ys g hx ⟨t3, rfl⟩ hy
    obtain ⟨rfl, hi⟩ := rng_at hx
    simp [forG, Tr.bind, Tr.ok, rg2, rng_map]
    rw [nox_ok (compL_mm (enc := fun (i : Nat) => PyData.int i) (g := fun b => PyData.int (capI p s i b)) fun b hb => by
      unfold compG
      have hb2 : b < p.bs.length := List.mem_range.mp hb
      simp [wipeW, cap_at_ok hb2])]
    simp [mtW_mid hy, Tr.ok, rowD, capRow]
  · rintro _ _ ⟨e', g', rfl, ⟨t3, rfl⟩, rfl⟩
    rw [rngD_len]
    simp [Tr.bind, Tr.ok, fin, matD, caps, capRow]
def turnsL (es : List (Int × Int × Int)) (h : Int) : List Int := (es.filter fun e => decide (e.2.1 ≤ h) && decide ((h - e.2.1) % e.2.2 = 0)).map (·.1)
def drawsL (es : List (Int × Int × Int)) (hs : List Int) : List Int := (List.range hs.length).map fun (h : Nat) => (hs[h]?).getD 0 + (turnsL es h).sum
def draws (p : Pl) (s : Sto) : List Int := drawsL p.es s.hs
/-! ### the law's own caps and draws -/
theorem fdiv_sc {m : Int} {b : Bool} : binD .fdiv (.int m) (.int (1 + (if b = true then 1 else 0))) = some (.int (if b = true then m / 2 else m)) := by
  cases b
  · simp [fdiv_int]
  · simp [fdiv_int]
theorem int_bool {b : Bool} : biD .int [.bool b] = some (.int (if b = true then 1 else 0)) := rfl
theorem l_caps_ok {k : Nat} {p : Pl} {s : Sto} {h : Hs} (op : p.Ok) (os : s.Ok p.bs.length) : callF cs (Prs ci.cl ds) (k + 1) 20 [.t p.d, .t s.d] h = .ok (.t (matD (caps p s))) h := by
  refine Tr.out (callF_tr (d := d_law_caps.fd) rfl rfl ?_)
  have h8 := os.h8
  have b4 := op.b4
  have rg : rngOk (s.hs.length : Int) = true := by unfold rngOk; simp; omega
  simp [d_law_caps, b_law_caps, Tr.bind, Tr.ok, rg]
  refine (app_loop (fun e => ∃ t3 t4 t5 t6 t7 t8, e = [some (.t p.d), some (.t s.d), some (.ref h.length), t3, t4, t5, t6, t7, t8, none, none, none, none]) (fun j => rowD (capRow p s j)) (by rw [rngD_len]; omega) ⟨_, _, _, _, _, _, rfl⟩ ?_).mono ?_
  · rintro i x _ ys g hx ⟨t3, t4, t5, t6, t7, t8, rfl⟩ hy
    obtain ⟨rfl, hi⟩ := rng_at hx
    simp only [forG, Tr.bind, asgT_nm, Res.opt_some, Tr.ok]
    have e0 : (h ++ .lst ys :: g)[h.length]? = some (.lst ys) := get_mid
    have l0 : h.length < (h ++ .lst ys :: g).length := by simp
    have set0 : ∀ (a : Hs) o, (h ++ .lst ys :: g ++ a).set h.length o = h ++ o :: (g ++ a) := fun a o => by simp
    generalize h ++ Ob.lst ys :: g = b at e0 l0 set0
    simp [Tr.bind, Tr.ok]
    refine (app_loop (h := b) (fun e => ∃ t5 t6 t7 t8, e = [some (.t p.d), some (.t s.d), some (.ref h.length), some (.t (.int i)), some (.ref b.length), t5, t6, t7, t8, none, none, none, none]) (fun j => .int (capI p s i j)) (by rw [enm_len]; simp; omega) ⟨_, _, _, _, rfl⟩ ?_).mono ?_
    · rintro j x _ zs g2 hx ⟨t5, t6, t7, t8, rfl⟩ hz
      obtain ⟨y, hy2, rfl, hj⟩ := enm_at hx
      rw [List.getElem?_map] at hy2
      obtain ⟨v, hv, rfl⟩ := Option.map_eq_some_iff.mp hy2
      simp [forG, Tr.bind, Tr.ok, boD]
      rw [nox_ok (compL_words (s := s) (hr := i) (b := j) fun x _ => by
        unfold compG flD
        by_cases c1 : x.b = j <;> by_cases c2 : x.f ≤ i <;> by_cases c3 : (i : Int) ≤ x.l <;> simp [wipeW, eq_int', c1, c2, c3])]
      simp [Tr.bind, Tr.ok]
      have hc : capI p s i j = if wOut ∈ wordsAt s i j then 0 else if wSc ∈ wordsAt s i j then v.1 / 2 else v.1 := by
        simp [capI, capOf, hv]
      rw [hc]
      by_cases c1 : wOut ∈ wordsAt s i j
      · simp [c1, mtW_mid hz, Tr.ok]
      · by_cases c2 : wSc ∈ wordsAt s i j
        · simp [c1, c2, int_bool, fdiv_int, mtW_mid hz, Tr.ok]
        · simp [c1, c2, int_bool, fdiv_int, mtW_mid hz, Tr.ok]
    · rintro _ _ ⟨e', g', rfl, ⟨t5, t6, t7, t8, rfl⟩, rfl⟩
      rw [enm_len]
      have e1 : (b ++ .lst ((List.range p.bs.length).map fun j => PyData.int (capI p s i j)) :: g')[h.length]? = some (.lst ys) := by
        rw [List.getElem?_append_left l0]; exact e0
      simp [Tr.bind, Tr.ok]
      simp [mtT_app e1, mtW_app e1 (show ys.length < lim by unfold lim; omega), Tr.ok, set0, rowD, capRow]
  · rintro _ _ ⟨e', g', rfl, ⟨t3, t4, t5, t6, t7, t8, rfl⟩, rfl⟩
    rw [rngD_len]
    simp [Tr.bind, Tr.ok, fin, matD, caps, capRow]

/-! ### plants drawn -/
def isBo (d : D) : Prop := ∃ b : Int × Int, (1 ≤ b.1 ∧ b.1 ≤ 9 ∧ 1 ≤ b.2 ∧ b.2 ≤ 9) ∧ d = boD b
def isEn (d : D) : Prop := ∃ e : Int × Int × Int, (1 ≤ e.1 ∧ e.1 ≤ 9 ∧ 0 ≤ e.2.1 ∧ e.2.1 ≤ 7 ∧ 1 ≤ e.2.2 ∧ e.2.2 ≤ 8) ∧ d = enD e
def PlantV (w : W) : Prop := ∃ p : Pl, p.Ok ∧ w = .t p.d
theorem isBo_mk {a b : Int} (h : 1 ≤ a ∧ a ≤ 9 ∧ 1 ≤ b ∧ b ≤ 9) : isBo (.tuple [.int a, .int b]) := ⟨(a, b), h, rfl⟩
theorem isEn_mk {a b c : Int} (h : 1 ≤ a ∧ a ≤ 9 ∧ 0 ≤ b ∧ b ≤ 7 ∧ 1 ≤ c ∧ c ≤ 8) : isEn (.tuple [.int a, .int b, .int c]) := ⟨(a, b, c), h, rfl⟩
theorem vplant_tr {k p : Nat} {h : Hs} (hp : Pen p h) : Tr (callF cs (Prs ci.cl ds) (k + 2) 18 [.ref p] h) (fun w h' => PlantV w ∧ St p h h') := by
  refine callF_tr (d := d_law_plant.fd) rfl rfl ?_
  simp [d_law_plant, b_law_plant, Tr.bind, Tr.ok, ownW, asgW]
  have f1 : Fr p h (h ++ [.lst []]) := (Fr.refl hp).app
  have hpl := hp.lt
  refine (draw_tr f1.pen (by decide) (by decide)).mono ?_
  rintro _ h2 ⟨⟨g, rfl, g0, g1⟩, s2⟩
  have f2 := f1.st s2
  have r2 : RowsQ isBo h.length 0 h2 := RowsQ.st ⟨[], get_app, rfl, fun x hx => by simp at hx⟩ s2 (by omega)
  have ad : ∀ {i j : Int}, binD .add (.int i) (.int j) = some (.int (i + j)) := rfl
  have sb : ∀ {i j : Int}, binD .sub (.int i) (.int j) = some (.int (i - j)) := rfl
  have rg : -1000000 ≤ 1 + g ∧ 1 + g ≤ 1000000 := by omega
  simp [Tr.bind, Tr.ok, ad, rngOk, rg]
  refine forL_tr (fun j e a => (∃ t m, e = [some (.ref p), some (.ref h.length), t, none, none, none, m]) ∧ Fr p h a ∧ RowsQ isBo h.length j a) ⟨⟨_, _, rfl⟩, f2, r2⟩ ?_ ?_
  · rintro j x _ a hj ⟨⟨t, m, rfl⟩, fa, ra⟩
    have hj4 := rng_lt hj
    simp [forG, asgT, Tr.bind, Tr.ok]
    refine (draw_tr fa.pen (by decide) (by decide)).mono ?_
    rintro _ h3 ⟨⟨d1, rfl, d1a, d1b⟩, s3⟩
    have f3 := fa.st s3
    have r3 := ra.st s3 (by omega)
    simp [ad, Tr.bind, Tr.ok]
    refine (draw_tr f3.pen (by decide) (by decide)).mono ?_
    rintro _ h4 ⟨⟨d2, rfl, d2a, d2b⟩, s4⟩
    have f4 := f3.st s4
    have r4 := r3.st s4 (by omega)
    obtain ⟨dm, em, hm, -⟩ := atI_in (xs := [.int 1, .int 9, .int (1 + d1)]) d2a (by simpa using d2b)
    obtain ⟨i2, rfl, i2a, i2b⟩ : ∃ i : Int, dm = .int i ∧ 1 ≤ i ∧ i ≤ 9 := by
      simp at hm
      rcases hm with rfl | rfl | rfl <;> exact ⟨_, rfl, by omega, by omega⟩
    obtain ⟨xs, e4, l4, x4⟩ := r4
    simp [em, Tr.bind, Tr.ok, asgW, asgT, mtT_app e4]
    refine (draw_tr f4.pen (by decide) (by decide)).mono ?_
    rintro _ h5 ⟨⟨d3, rfl, d3a, d3b⟩, s5⟩
    have f5 := f4.st s5
    obtain ⟨dn, en, hn, -⟩ := atI_in (xs := [.int 3, .int 9]) d3a (by simpa using d3b)
    obtain ⟨i3, rfl, i3a, i3b⟩ : ∃ i : Int, dn = .int i ∧ 0 < i ∧ i ≤ 9 := by
      simp at hn
      rcases hn with rfl | rfl <;> exact ⟨_, rfl, by omega, by omega⟩
    simp [en, Tr.bind, Tr.ok]
    refine (draw_tr f5.pen i3a (by omega)).mono ?_
    rintro _ h6 ⟨⟨d4, rfl, d4a, d4b⟩, s6⟩
    have f6 := f5.st s6
    have e6 : h6[h.length]? = some (.lst xs) := (s6.2.2 _ (by omega)).trans ((s5.2.2 _ (by omega)).trans e4)
    simp [Tr.bind, Tr.ok, ad, mtW_app e6 (show xs.length < lim by unfold lim; omega)]
    exact ⟨f6.set (Nat.le_refl _), .add e6 l4 x4 (isBo_mk (by omega))⟩
  rintro _ h3 ⟨⟨t, m, rfl⟩, f3, r3⟩
  rw [rngD_len] at r3
  have n3 := r3.lt
  generalize hg1 : (1 + g).toNat = l1 at r3
  have hl1 : 1 ≤ l1 ∧ l1 ≤ 4 := by omega
  simp [Tr.bind, Tr.ok, ownW, asgW, asgT]
  have f4 : Fr p h (h3 ++ [.lst []]) := f3.app
  refine (draw_tr f4.pen (by decide) (by decide)).mono ?_
  rintro _ h5 ⟨⟨g2, rfl, g2a, g2b⟩, s5⟩
  have f5 := f4.st s5
  have r5 := r3.app.st s5 (by omega)
  have q5 : RowsQ isEn h3.length 0 h5 := RowsQ.st ⟨[], get_app, rfl, fun x hx => by simp at hx⟩ s5 (by omega)
  have rg2 : -1000000 ≤ g2 ∧ g2 ≤ 1000000 := by omega
  simp [Tr.bind, Tr.ok, rngOk, rg2]
  refine forL_tr (fun j e a => (∃ t, e = [some (.ref p), some (.ref h.length), t, some (.ref h3.length), none, none, m]) ∧ Fr p h a ∧ RowsQ isBo h.length l1 a ∧ RowsQ isEn h3.length j a) ⟨⟨_, rfl⟩, f5, r5, q5⟩ ?_ ?_
  · rintro j x _ a hj ⟨⟨t, rfl⟩, fa, ra, qa⟩
    have hj4 := rng_lt hj
    obtain ⟨xs, ea, la, xa⟩ := qa
    simp [forG, asgT, Tr.bind, Tr.ok, mtT_app ea]
    refine (draw_tr fa.pen (by decide) (by decide)).mono ?_
    rintro _ h6 ⟨⟨d1, rfl, d1a, d1b⟩, s6⟩
    have f6 := fa.st s6
    simp [Tr.bind, Tr.ok, ad]
    refine (draw_tr f6.pen (by decide) (by decide)).mono ?_
    rintro _ h7 ⟨⟨d2, rfl, d2a, d2b⟩, s7⟩
    have f7 := f6.st s7
    simp [Tr.bind, Tr.ok, ad]
    refine (draw_tr f7.pen (by decide) (by decide)).mono ?_
    rintro _ h8 ⟨⟨d3, rfl, d3a, d3b⟩, s8⟩
    have f8 := f7.st s8
    have s := s6.trans (s7.trans s8)
    have e8 : h8[h3.length]? = some (.lst xs) := (s.2.2 _ (by omega)).trans ea
    simp [Tr.bind, Tr.ok, ad, mtW_app e8 (show xs.length < lim by unfold lim; omega)]
    exact ⟨f8.set (by omega), (ra.st s (by omega)).set (by omega), .add e8 la xa (isEn_mk (by omega))⟩
  rintro _ h6 ⟨⟨t, rfl⟩, f6, r6, q6⟩
  rw [rngD_len] at q6
  simp [Tr.bind, Tr.ok]
  refine (draw_tr f6.pen (by decide) (by decide)).mono ?_
  rintro _ h7 ⟨⟨d1, rfl, d1a, d1b⟩, s7⟩
  have f7 := f6.st s7
  simp [Tr.bind, Tr.ok]
  refine (draw_tr f7.pen (by decide) (by decide)).mono ?_
  rintro _ h8 ⟨⟨d2, rfl, d2a, d2b⟩, s8⟩
  have f8 := f7.st s8
  obtain ⟨dm, em, hm, -⟩ := atI_in (xs := [.int 0, .int d1]) d2a (by simpa using d2b)
  obtain ⟨lo, rfl, loa, lob⟩ : ∃ i : Int, dm = .int i ∧ 0 ≤ i ∧ i ≤ 20 := by
    simp at hm
    rcases hm with rfl | rfl <;> exact ⟨_, rfl, by omega, by omega⟩
  simp [em, Tr.bind, Tr.ok, asgW, asgT]
  refine (draw_tr f8.pen (by decide) (by decide)).mono ?_
  rintro _ h9 ⟨⟨d3, rfl, d3a, d3b⟩, s9⟩
  have f9 := f8.st s9
  simp [Tr.bind, Tr.ok]
  refine (draw_tr f9.pen (by decide) (by decide)).mono ?_
  rintro _ h10 ⟨⟨d4, rfl, d4a, d4b⟩, s10⟩
  have f10 := f9.st s10
  obtain ⟨dn, en, hn, -⟩ := atI_in (xs := [.int 0, .int 3, .int 10, .int 40, .int d3]) d4a (by simpa using d4b)
  obtain ⟨up, rfl, upa, upb⟩ : ∃ i : Int, dn = .int i ∧ 0 ≤ i ∧ i ≤ 40 := by
    simp at hn
    rcases hn with rfl | rfl | rfl | rfl | rfl <;> exact ⟨_, rfl, by omega, by omega⟩
  have mn : ∀ {i j : Int}, biD .min2 [.int i, .int j] = some (.int (min i j)) := by
    intro i j; simp [biD]; omega
  simp [en, Tr.bind, Tr.ok, asgW, asgT, ad, mn]
  generalize hhi : min 40 (lo + up) = hi
  have hib : lo ≤ hi ∧ hi ≤ 40 := by omega
  have s10' := s7.trans (s8.trans (s9.trans s10))
  obtain ⟨bs, e1, l1e, x1⟩ := r6.st s10' (by omega)
  obtain ⟨es, e2, l2e, x2⟩ := q6.st s10' (by omega)
  have tp : ∀ {xs : List D}, biD .tuple [.list xs] = some (.tuple xs) := rfl
  simp [peek_lst e1, peek_lst e2, tp, Tr.bind, Tr.ok, sb, ad]
  refine (draw_tr f10.pen (by omega) (by omega)).mono ?_
  rintro _ h11 ⟨⟨d5, rfl, d5a, d5b⟩, s11⟩
  have f11 := f10.st s11
  simp [Tr.bind, Tr.ok, ad, fin]
  obtain ⟨bl, rfl, hb⟩ := pick x1
  obtain ⟨el, rfl, he⟩ := pick x2
  simp only [List.length_map] at l1e l2e
  exact ⟨⟨⟨bl, el, lo, hi, lo + d5⟩, ⟨by show 1 ≤ bl.length; omega, by show bl.length ≤ 4; omega, hb, by show el.length ≤ 4; omega, he, loa, hib.2, by show lo ≤ lo + d5; omega, by show lo + d5 ≤ hi; omega⟩, rfl⟩, f11.take⟩
/-! ### stories drawn -/
theorem compA_tr {f : D → Hs → Res (Option D)} {xs : List D} {h : Hs} (I : Hs → Prop) (P : D → Prop) (h0 : I h) (step : ∀ x h, x ∈ xs → I h → Tr (f x h) (fun o h' => I h' ∧ ∃ y, o = some y ∧ P y)) :
    Tr (compL f xs h) (fun ys h' => I h' ∧ (∀ y ∈ ys, P y) ∧ ys.length = xs.length) := by
  induction xs generalizing h with
  | nil => exact Tr.ok.mpr ⟨h0, fun y hy => by simp at hy, rfl⟩
  | cons x xs ih =>
    show Tr ((f x h).bind fun o h1 => (compL f xs h1).bind fun ys h2 => .ok (match o with | some y => y :: ys | none => ys) h2) _
    rw [Tr.bind]
    refine (step x h List.mem_cons_self h0).mono fun o h1 ⟨i1, p1⟩ => ?_
    rw [Tr.bind]
    refine (ih i1 fun x h hx => step x h (List.mem_cons_of_mem _ hx)).mono fun ys h2 ⟨i2, p2, l2⟩ => ?_
    obtain ⟨y, rfl, p1⟩ := p1
    exact Tr.ok.mpr ⟨i2, fun z hz => by rcases List.mem_cons.mp hz with rfl | hz; exact p1; exact p2 z hz, by simp [l2]⟩
def isFl (n m : Nat) (d : D) : Prop := ∃ x : Flt, x.Ok n m ∧ d = flD x
def StoryV (n : Nat) (w : W) : Prop := ∃ s : Sto, s.Ok n ∧ w = .t s.d
theorem vstory_tr {k p : Nat} {h : Hs} {pl : Pl} (hp : Pen p h) (o : pl.Ok) : Tr (callF cs (Prs ci.cl ds) (k + 2) 19 [.ref p, .t pl.d] h) (fun w h' => StoryV pl.bs.length w ∧ St p h h') := by
  refine callF_tr (d := d_law_story.fd) rfl rfl ?_
  have ad : ∀ {i j : Int}, binD .add (.int i) (.int j) = some (.int (i + j)) := rfl
  have sb : ∀ {i j : Int}, binD .sub (.int i) (.int j) = some (.int (i - j)) := rfl
  have ob1 := o.b1
  have ob4 := o.b4
  simp [d_law_story, b_law_story, Tr.bind, Tr.ok]
  refine (draw_tr hp (by decide) (by decide)).mono ?_
  rintro _ h2 ⟨⟨g, rfl, g0, g1⟩, s2⟩
  have f2 := (Fr.refl hp).st s2
  simp [ad, Tr.bind, Tr.ok]
  refine (draw_tr f2.pen (by decide) (by decide)).mono ?_
  rintro _ h3 ⟨⟨g2, rfl, g2a, g2b⟩, s3⟩
  have f3 := f2.st s3
  obtain ⟨dm, em, hm, -⟩ := atI_in (xs := [.int 1, .int 4, .int 9, .int 21]) g2a (by simpa using g2b)
  obtain ⟨mo, rfl, mo1, mo2⟩ : ∃ i : Int, dm = .int i ∧ 1 ≤ i ∧ i ≤ 21 := by
    simp at hm
    rcases hm with rfl | rfl | rfl | rfl <;> exact ⟨_, rfl, by omega, by omega⟩
  simp [em, Tr.bind, Tr.ok, asgW, asgT, asgTs, ownW]
  have hpl := f3.pen.lt
  have hle := f3.le
  generalize hn : List.length h3 = n at hpl hle
  have f4 : Fr p h (h3 ++ [.lst []]) := f3.app
  refine (draw_tr f4.pen (by decide) (by decide)).mono ?_
  rintro _ h5 ⟨⟨g3, rfl, g3a, g3b⟩, s5⟩
  have f5 := f4.st s5
  generalize hH : 1 + g = H
  have hH8 : 1 ≤ H ∧ H ≤ 8 := by omega
  have q5 : RowsQ (isFl pl.bs.length H.toNat) n 0 h5 := RowsQ.st ⟨[], by rw [← hn]; exact get_app, rfl, fun x hx => by simp at hx⟩ s5 (by omega)
  have rg2 : -1000000 ≤ g3 ∧ g3 ≤ 1000000 := by omega
  simp [Tr.bind, Tr.ok, rngOk, rg2]
  refine forL_tr (fun j e a => (∃ t3 t6 t7, e = [some (.ref p), some (.t pl.d), some (.ref n), t3, some (.t (.int H)), some (.t (.int mo)), t6, t7, none]) ∧ Fr p h a ∧ RowsQ (isFl pl.bs.length H.toNat) n j a) ⟨⟨_, _, _, rfl⟩, f5, q5⟩ ?_ ?_
  · rintro j x _ a hj ⟨⟨t3, t6, t7, rfl⟩, fa, ra⟩
    have hj4 := rng_lt hj
    simp [forG, asgT, Tr.bind, Tr.ok]
    refine (draw_tr fa.pen (by omega) (by omega)).mono ?_
    rintro _ h6 ⟨⟨fi, rfl, fia, fib⟩, s6⟩
    have f6 := fa.st s6
    simp [Tr.bind, Tr.ok, sb, asgW, asgT]
    refine (draw_tr f6.pen (by omega) (by omega)).mono ?_
    rintro _ h7 ⟨⟨la, rfl, laa, lab⟩, s7⟩
    have f7 := f6.st s7
    obtain ⟨xs, e7, l7, x7⟩ := (ra.st s6 (by omega)).st s7 (by omega)
    simp [Tr.bind, Tr.ok, ad, asgW, asgT, mtT_app e7, Pl.ix0]
    refine (draw_tr f7.pen (by omega) (by omega)).mono ?_
    rintro _ h8 ⟨⟨bo, rfl, boa, bob⟩, s8⟩
    have f8 := f7.st s8
    try simp [Tr.bind, Tr.ok]
    refine (draw_tr f8.pen (by decide) (by decide)).mono ?_
    rintro _ h9 ⟨⟨wo, rfl, woa, wob⟩, s9⟩
    have f9 := f8.st s9
    obtain ⟨dw, ew, hw, -⟩ := atI_in (xs := [.str "out", .str "scaled"]) woa (by simpa using wob)
    obtain ⟨w, rfl, hw2⟩ : ∃ w : PySem.Str, dw = .str w ∧ (w = "out" ∨ w = "scaled") := by
      simp at hw
      rcases hw with rfl | rfl
      · exact ⟨_, rfl, Or.inl rfl⟩
      · exact ⟨_, rfl, Or.inr rfl⟩
    have e9 : h9[n]? = some (.lst xs) := (s9.2.2 _ (by omega)).trans ((s8.2.2 _ (by omega)).trans e7)
    simp [ew, Tr.bind, Tr.ok, mtW_app e9 (show xs.length < lim by unfold lim; omega)]
    exact ⟨f9.set hle, .add e9 l7 x7 ⟨⟨bo, w, fi, fi + la⟩, ⟨hw2, boa, bob, fia, by show fi ≤ fi + la; omega, by show fi + la < _; omega⟩, rfl⟩⟩
  rintro _ h6 ⟨⟨t3, t6, t7, rfl⟩, f6, r6⟩
  rw [rngD_len] at r6
  have rg3 : -1000000 ≤ H ∧ H ≤ 1000000 := by omega
  simp [Tr.bind, Tr.ok, rngOk, rg3]
  refine (Tr.nox (compA_tr (fun a => Fr p h a ∧ RowsQ (isFl pl.bs.length H.toNat) n g3.toNat a) (fun d => ∃ x : Int, (0 ≤ x ∧ x ≤ 20) ∧ d = .int x) ⟨f6, r6⟩ ?_)).mono ?_
  · rintro x a hx ⟨fa, ra⟩
    unfold compG
    simp [asgT, wipeW, Tr.bind, Tr.ok]
    refine (draw_tr fa.pen (by omega) (by omega)).mono ?_
    rintro _ h7 ⟨⟨v, rfl, va, vb⟩, s7⟩
    simp [Tr.ok]
    exact ⟨⟨fa.st s7, ra.st s7 (by omega)⟩, by omega, by omega⟩
  rintro ys h7 ⟨⟨f7, r7⟩, py, ly⟩
  rw [rngD_len] at ly
  obtain ⟨xs, e7, l7, x7⟩ := r7
  simp [Tr.bind, Tr.ok, peek_lst e7, fin]
  obtain ⟨hl, rfl, hh⟩ := pick py
  obtain ⟨fl, rfl, hf⟩ := pick x7
  simp only [List.length_map] at ly l7
  have eH : H.toNat = hl.length := ly.symm
  rw [eH] at hf
  exact ⟨⟨⟨hl, fl⟩, ⟨by show 1 ≤ hl.length; omega, by show hl.length ≤ 8; omega, hh, by show fl.length ≤ 4; omega, hf⟩, rfl⟩, f7.take⟩
/-! ### what is shown of plants, stories, rows -/
theorem repr_ok {d : D} {m n : Nat} (h : Sh m n d) (hm : m ≤ 60) (hn : n ≤ 1000000) : biD .repr [d] = some (.str d.shown) := by
  have := h.rep hm hn
  simp only [biD, this, if_true]
theorem ne_same {x : PySem.Str} : cmpD .ne (.str x) (.str x) = some false := by rw [ne_str]; simp
theorem sh_str {m n : Nat} {x : PySem.Str} (hl : (PyData.str x).shown.length ≤ n) : Sh m n (.str x) := ⟨rfl, Nat.zero_le _, hl⟩
def Sl (d : D) : Prop := Sh 0 10 d
theorem sl_int {i : Int} (h : -100000 ≤ i ∧ i ≤ 100000) : Sl (.int i) := (Sh.int (k := 6) (by decide) (by omega) (by decide)).le (by decide) (by decide)
theorem row_sh {r : List Int} (h : ∀ x ∈ r, -100000 ≤ x ∧ x ≤ 100000) (hl : r.length ≤ 40) : Sh 1 500 (rowD r) := by
  refine (Sh.tuple (m := 0) (n := 10) (k := 40) (fun d hd => ?_) (by simpa using hl)).le (by decide) (by decide)
  obtain ⟨x, hx, rfl⟩ := List.mem_map.mp hd
  exact sl_int (h x hx)
theorem mat_sh {m : List (List Int)} (h : ∀ r ∈ m, r.length ≤ 40 ∧ ∀ x ∈ r, -100000 ≤ x ∧ x ≤ 100000) (hl : m.length ≤ 40) : Sh 2 21000 (matD m) := by
  refine (Sh.tuple (m := 1) (n := 500) (k := 40) (fun d hd => ?_) (by simpa using hl)).le (by decide) (by decide)
  obtain ⟨x, hx, rfl⟩ := List.mem_map.mp hd
  exact row_sh (h x hx).2 (h x hx).1
theorem pair_sh {m n : Nat} {a b : D} (ha : Sh m n a) (hb : Sh m n b) : Sh (m + 1) (2 * (n + 2) + 3) (.tuple [a, b]) := Sh.tuple (k := 2) (fun d hd => by
  simp only [List.mem_cons, List.not_mem_nil, or_false] at hd
  rcases hd with rfl | rfl <;> assumption) (Nat.le_refl 2)
theorem lpair_sh {m n : Nat} {a b : D} (ha : Sh m n a) (hb : Sh m n b) : Sh (m + 1) (2 * (n + 2) + 3) (.list [a, b]) := Sh.list (k := 2) (fun d hd => by
  simp only [List.mem_cons, List.not_mem_nil, or_false] at hd
  rcases hd with rfl | rfl <;> assumption) (Nat.le_refl 2)
theorem tri_sh {m n : Nat} {a b c : D} (ha : Sh m n a) (hb : Sh m n b) (hc : Sh m n c) : Sh (m + 1) (3 * (n + 2) + 3) (.tuple [a, b, c]) := Sh.tuple (k := 3) (fun d hd => by
  simp only [List.mem_cons, List.not_mem_nil, or_false] at hd
  rcases hd with rfl | rfl | rfl <;> assumption) (Nat.le_refl 3)
theorem ltri_sh {m n : Nat} {a b c : D} (ha : Sh m n a) (hb : Sh m n b) (hc : Sh m n c) : Sh (m + 1) (3 * (n + 2) + 3) (.list [a, b, c]) := Sh.list (k := 3) (fun d hd => by
  simp only [List.mem_cons, List.not_mem_nil, or_false] at hd
  rcases hd with rfl | rfl | rfl <;> assumption) (Nat.le_refl 3)
theorem four_sh {m n : Nat} {a b c e : D} (ha : Sh m n a) (hb : Sh m n b) (hc : Sh m n c) (he : Sh m n e) : Sh (m + 1) (4 * (n + 2) + 3) (.tuple [a, b, c, e]) := Sh.tuple (k := 4) (fun d hd => by
  simp only [List.mem_cons, List.not_mem_nil, or_false] at hd
  rcases hd with rfl | rfl | rfl | rfl <;> assumption) (Nat.le_refl 4)
theorem pl_sh {p : Pl} (o : p.Ok) : Sh 3 1000 p.d := by
  have l1 := o.lo0; have l2 := o.hi4; have l3 := o.ls; have l4 := o.sh
  have b : Sh 2 250 (.tuple (p.bs.map boD)) := by
    refine (Sh.tuple (m := 1) (n := 30) (k := 4) (fun d hd => ?_) (by simpa using o.b4)).le (by decide) (by decide)
    obtain ⟨x, hx, rfl⟩ := List.mem_map.mp hd
    have := o.bo x hx
    exact (pair_sh (m := 0) (n := 10) (sl_int (by omega)) (sl_int (by omega))).le (by decide) (by decide)
  have e : Sh 2 250 (.tuple (p.es.map enD)) := by
    refine (Sh.tuple (m := 1) (n := 40) (k := 4) (fun d hd => ?_) (by simpa using o.e4)).le (by decide) (by decide)
    obtain ⟨x, hx, rfl⟩ := List.mem_map.mp hd
    have := o.en x hx
    exact (tri_sh (m := 0) (n := 10) (sl_int (by omega)) (sl_int (by omega)) (sl_int (by omega))).le (by decide) (by decide)
  have m : Sh 2 250 p.mD := (tri_sh (m := 0) (n := 10) (sl_int (by omega)) (sl_int (by omega)) (sl_int (by omega))).le (by decide) (by decide)
  exact (tri_sh b e m).le (by decide) (by decide)
theorem sto_sh {n : Nat} {s : Sto} (o : s.Ok n) (hn : n ≤ 4) : Sh 3 1100 s.d := by
  have h8 := o.h8
  have b : Sh 2 500 (.tuple (s.hs.map .int)) := (row_sh (fun x hx => by have := o.ho x hx; omega) (by omega)).le (by decide) (by decide)
  have e : Sh 2 300 (.tuple (s.fs.map flD)) := by
    refine (Sh.tuple (m := 1) (n := 55) (k := 4) (fun d hd => ?_) (by simpa using o.f4)).le (by decide) (by decide)
    obtain ⟨x, hx, rfl⟩ := List.mem_map.mp hd
    obtain ⟨w, b0, b1, f0, fl, l1⟩ := o.fo x hx
    have hw : Sl (.str x.w) := by
      rcases w with w | w <;> rw [w] <;> exact sh_str (by decide +kernel)
    exact (four_sh (m := 0) (n := 10) (sl_int (by omega)) hw (sl_int (by omega)) (sl_int (by omega))).le (by decide) (by decide)
  exact (pair_sh b (e.le (by decide) (by decide))).le (by decide) (by decide)
theorem capI_rng {p : Pl} {s : Sto} (o : p.Ok) (h b : Nat) : 0 ≤ capI p s h b ∧ capI p s h b ≤ 9 := by
  have hm : ∃ m : Int, (p.bs[b]?.map (·.1)).getD 0 = m ∧ 0 ≤ m ∧ m ≤ 9 := by
    cases hb : p.bs[b]? with
    | none => exact ⟨0, rfl, by decide, by decide⟩
    | some x =>
      have := o.bo x (List.mem_of_getElem? hb)
      exact ⟨x.1, rfl, by omega, by omega⟩
  obtain ⟨m, e, h0, h9⟩ := hm
  unfold capI capOf
  rw [e]
  split
  · omega
  · split <;> omega
theorem caps_sh {p : Pl} {s : Sto} (op : p.Ok) (os : s.Ok p.bs.length) : Sh 2 21000 (matD (caps p s)) := by
  have h8 := os.h8
  have b4 := op.b4
  refine mat_sh (fun r hr => ?_) (by simp [caps]; omega)
  obtain ⟨h, hh, rfl⟩ := List.mem_map.mp hr
  refine ⟨by simp; omega, fun x hx => ?_⟩
  obtain ⟨b, hb, rfl⟩ := List.mem_map.mp hx
  have := capI_rng (s := s) op h b
  omega
theorem sum_rng {l : List Int} {m : Int} (h : ∀ x ∈ l, 0 ≤ x ∧ x ≤ m) : 0 ≤ l.sum ∧ l.sum ≤ m * l.length := by
  induction l with
  | nil => simp
  | cons a l ih =>
    have h1 := h a List.mem_cons_self
    have h2 := ih fun x hx => h x (List.mem_cons_of_mem _ hx)
    simp only [List.sum_cons, List.length_cons]
    have : m * ((l.length + 1 : Nat) : Int) = m * l.length + m := by
      rw [Int.natCast_add, Int.mul_add]; simp
    omega
theorem turns_rng {p : Pl} (o : p.Ok) (h : Int) : 0 ≤ (turnsL p.es h).sum ∧ (turnsL p.es h).sum ≤ 36 := by
  have h1 := sum_rng (l := turnsL p.es h) (m := 9) fun x hx => by
    obtain ⟨e, he, rfl⟩ := List.mem_map.mp hx
    have := o.en e (List.mem_filter.mp he).1
    omega
  have h2 : (turnsL p.es h).length ≤ 4 := by
    unfold turnsL
    rw [List.length_map]
    have := o.e4
    have := List.length_filter_le (fun e : Int × Int × Int => decide (e.2.1 ≤ h) && decide ((h - e.2.1) % e.2.2 = 0)) p.es
    omega
  omega
theorem draws_rng {p : Pl} {s : Sto} (op : p.Ok) (os : s.Ok p.bs.length) : ∀ x ∈ draws p s, 0 ≤ x ∧ x ≤ 56 := by
  intro x hx
  obtain ⟨h, hh, rfl⟩ := List.mem_map.mp hx
  have hl := List.mem_range.mp hh
  have h1 := turns_rng op (h : Int)
  rw [List.getElem?_eq_getElem hl]
  have := os.ho _ (List.getElem_mem hl)
  simp only [Option.getD_some]
  omega
theorem draws_sh {p : Pl} {s : Sto} (op : p.Ok) (os : s.Ok p.bs.length) : Sh 1 500 (rowD (draws p s)) :=
  row_sh (fun x hx => by have := draws_rng op os x hx; omega) (by have := os.h8; simp [draws, drawsL]; omega)
/-! ### cells and pens -/
theorem cell_ok {k : Nat} {ns : List Int} {h : Hs} : ∃ c, callF cs (Prs ci.cl ds) (k + 1) 15 [.scr ns, .t (.int 0)] h = .ok (.t (.int c)) h := by
  cases ns with
  | nil => exact ⟨0, callF_rt (d := d_law_cell.fd) rfl rfl rfl (by simp [d_law_cell, b_law_cell])⟩
  | cons n ns =>
    have : L2.atI (n :: ns) 0 = some n := by unfold L2.atI L2.ixN; simp
    exact ⟨n, callF_rt (d := d_law_cell.fd) rfl rfl rfl (by
      have h0 : (0 : Int) < (ns.length : Int) + 1 := by omega
      simp [d_law_cell, b_law_cell, this, h0])⟩
theorem pen_tr {k : Nat} {c : Int} {h : Hs} : Tr (callF cs (Prs ci.cl ds) (k + 1) 16 [.t (.int c)] h) (fun w h' => w = .ref h.length ∧ Pen h.length h') := by
  refine callF_tr (d := d_law_pen.fd) rfl rfl ?_
  have pw : binD .pow (.int 10) (.int 18) = some (.int (10 ^ 18)) := by
    simp only [binD]; rw [if_pos (by decide)]; rfl
  have sb : ∀ {i j : Int}, binD .sub (.int i) (.int j) = some (.int (i - j)) := rfl
  have mx : ∃ z, biD .max2 [.int c, .int (0 - c)] = some (.int z) := by simp [biD]
  obtain ⟨z, mx⟩ := mx
  have ib : ∀ {b : Bool}, ∃ z, biD .int [.bool b] = some (.int z) := fun {b} => by cases b <;> exact ⟨_, rfl⟩
  obtain ⟨y, iy⟩ := ib (b := decide ((10 : Int) ^ 18 ≤ z))
  simp only [Int.reducePow] at iy
  simp only [Int.zero_sub] at mx
  simp [d_law_pen, b_law_pen, Tr.bind, Tr.ok, pw, sb, mx, iy, asgW, asgT, ownW, fin]
  exact ⟨z, y, by simp⟩
theorem cut_len' {α : Type} {xs : List α} {lo hi : Option Int} : (cutD xs lo hi).length ≤ xs.length := by
  unfold cutD; simp; omega
theorem add_ll {xs ys : List D} (h : xs.length + ys.length ≤ lim) : binD .add (.list xs) (.list ys) = some (.list (xs ++ ys)) := by simp only [binD, h, if_true]
theorem add_tt {xs ys : List D} (h : xs.length + ys.length ≤ lim) : binD .add (.tuple xs) (.tuple ys) = some (.tuple (xs ++ ys)) := by simp only [binD, h, if_true]
/-! ### firings -/
def RowOk : List Int → List Int → Prop
  | [], [] => True
  | c :: cs, x :: xs => (0 ≤ x ∧ x ≤ c) ∧ RowOk cs xs
  | _, _ => False
def FirOk : List (List Int) → List (List Int) → Prop
  | [], [] => True
  | c :: cs, x :: xs => RowOk c x ∧ FirOk cs xs
  | _, _ => False
theorem RowOk.len : ∀ {c x : List Int}, RowOk c x → x.length = c.length
  | [], [], _ => rfl
  | _ :: _, _ :: _, h => congrArg (· + 1) (RowOk.len h.2)
  | [], _ :: _, h => h.elim
  | _ :: _, [], h => h.elim
theorem FirOk.len : ∀ {c x : List (List Int)}, FirOk c x → x.length = c.length
  | [], [], _ => rfl
  | _ :: _, _ :: _, h => congrArg (· + 1) (FirOk.len h.2)
  | [], _ :: _, h => h.elim
  | _ :: _, [], h => h.elim
theorem RowOk.at : ∀ {c x : List Int}, RowOk c x → ∀ {i : Nat} {a : Int}, x[i]? = some a → ∃ b, c[i]? = some b ∧ 0 ≤ a ∧ a ≤ b
  | [], [], _, i, a, e => by simp at e
  | c :: cs, x :: xs, h, 0, a, e => by
    simp at e; subst e
    exact ⟨c, rfl, h.1⟩
  | c :: cs, x :: xs, h, i + 1, a, e => by
    simp at e
    obtain ⟨b, hb, r⟩ := RowOk.at h.2 e
    exact ⟨b, by simpa using hb, r⟩
  | [], _ :: _, h, _, _, _ => h.elim
  | _ :: _, [], h, _, _, _ => h.elim
theorem FirOk.at : ∀ {c x : List (List Int)}, FirOk c x → ∀ {i : Nat} {a : List Int}, x[i]? = some a → ∃ b, c[i]? = some b ∧ RowOk b a
  | [], [], _, i, a, e => by simp at e
  | c :: cs, x :: xs, h, 0, a, e => by
    simp at e; subst e
    exact ⟨c, rfl, h.1⟩
  | c :: cs, x :: xs, h, i + 1, a, e => by
    simp at e
    obtain ⟨b, hb, r⟩ := FirOk.at h.2 e
    exact ⟨b, by simpa using hb, r⟩
  | [], _ :: _, h, _, _, _ => h.elim
  | _ :: _, [], h, _, _, _ => h.elim
theorem RowOk.mem : ∀ {c x : List Int}, RowOk c x → ∀ a ∈ x, 0 ≤ a
  | [], [], _, a, e => by simp at e
  | c :: cs, x :: xs, h, a, e => by
    rcases List.mem_cons.mp e with rfl | e
    · exact h.1.1
    · exact RowOk.mem h.2 a e
  | [], _ :: _, h, _, _ => h.elim
  | _ :: _, [], h, _, _ => h.elim
theorem RowOk.self : ∀ {c : List Int}, (∀ x ∈ c, 0 ≤ x) → RowOk c c
  | [], _ => trivial
  | c :: cs, h => ⟨⟨h c List.mem_cons_self, Int.le_refl _⟩, RowOk.self fun x hx => h x (List.mem_cons_of_mem _ hx)⟩
theorem FirOk.self : ∀ {c : List (List Int)}, (∀ r ∈ c, ∀ x ∈ r, 0 ≤ x) → FirOk c c
  | [], _ => trivial
  | c :: cs, h => ⟨RowOk.self (h c List.mem_cons_self), FirOk.self fun x hx => h x (List.mem_cons_of_mem _ hx)⟩
theorem FirOk.mem {c x : List (List Int)} (h : FirOk c x) : ∀ r ∈ x, ∃ b ∈ c, RowOk b r := fun r hr => by
  obtain ⟨i, hi, e⟩ := List.getElem_of_mem hr
  obtain ⟨b, hb, o⟩ := h.at (i := i) (a := r) (by rw [List.getElem?_eq_getElem hi, e])
  exact ⟨b, List.mem_of_getElem? hb, o⟩
/-- rows walked side by side -/
theorem compL_zw {α β : Type} {f : D → Hs → Res (Option D)} {enc : α → β → D} {g : α → β → D} {xs : List α} {ys : List β} {h : Hs} (e : ∀ x y, f (enc x y) h = .ok (some (g x y)) h) :
    compL f (List.zipWith enc xs ys) h = .ok (List.zipWith g xs ys) h := by
  induction xs generalizing ys with
  | nil => rfl
  | cons x xs ih =>
    cases ys with
    | nil => rfl
    | cons y ys =>
      simp only [List.zipWith_cons_cons, compL, e, Res.ok_bind, ih]
theorem zipN2 {xs ys : List D} : (zipN [xs, ys]).map PyData.tuple = List.zipWith (fun x y => PyData.tuple [x, y]) xs ys := by
  simp only [zipN]
  induction xs generalizing ys with
  | nil => rfl
  | cons x xs ih =>
    cases ys with
    | nil => rfl
    | cons y ys => simp only [List.map_cons, List.zipWith_cons_cons, ih]
theorem all_zw {α β : Type} {xs : List α} {ys : List β} {g : α → β → Bool} : biD .all [.list (List.zipWith (fun x y => PyData.bool (g x y)) xs ys)] = some (.bool ((List.zipWith g xs ys).all id)) := by
  have e : List.zipWith (fun x y => PyData.bool (g x y)) xs ys = (List.zipWith g xs ys).map .bool := by rw [List.map_zipWith]
  rw [e]
  simp only [biD, boolsD_map, Option.map_some]
/-! ### is_firing_of -/
def rowOfB (c : List Int) (d : D) : Bool := match d with
  | .tuple xs => decide (xs.length = c.length) && (List.zipWith (fun x b => inB 0 b x) xs c).all id
  | _ => false
theorem is_row_of_ok {k : Nat} {c : List Int} {d : D} {h : Hs} : callF cs (Prs ci.cl ds) (k + 2) 12 [.t (rowD c), .t d] h = .ok (.t (.bool (rowOfB c d))) h := by
  refine callF_rt (d := d_is_row_of.fd) rfl rfl rfl ?_
  by_cases ht : isD "tuple" d = true
  case neg =>
    have : rowOfB c d = false := by cases d <;> first | rfl | exact (ht rfl).elim
    simp [d_is_row_of, b_is_row_of, ht, this]
  obtain ⟨xs, rfl⟩ := tup_of ht
  simp [d_is_row_of, b_is_row_of, ht, ne_int, rowD, rowOfB]
  by_cases hl : xs.length = c.length
  case neg =>
    have hl' : ¬ ((xs.length : Int) = c.length) := by omega
    simp [hl, hl']
  simp [hl, seqs_tt, zipN2, List.zipWith_map_right]
  rw [nox_ok (compL_zw (enc := fun x (b : Int) => PyData.tuple [x, .int b]) (g := fun x b => PyData.bool (inB 0 b x)) fun x y => by
    unfold compG
    simp [wipeW, is_within_ok])]
  simp [all_zw]
def firB (c : List (List Int)) (d : D) : Bool := match d with
  | .tuple xs => decide (xs.length = c.length) && (List.zipWith rowOfB c xs).all id
  | _ => false
theorem is_firing_ok {k : Nat} {p : Pl} {s : Sto} {d : D} {h : Hs} (op : p.Ok) (os : s.Ok p.bs.length) : callF cs (Prs ci.cl ds) (k + 3) 13 [.t p.d, .t s.d, .t d] h = .ok (.t (.bool (firB (caps p s) d))) h := by
  refine callF_rt (d := d_is_firing_of.fd) rfl rfl rfl ?_
  generalize hc : caps p s = c
  have cb : ∀ h, callF cs (Prs ci.cl ds) (k + 2) 11 [.t p.d, .t s.d] h = .ok (.t (matD c)) h := fun h => by rw [← hc]; exact caps_by_ok op os
  by_cases ht : isD "tuple" d = true
  case neg =>
    have : firB c d = false := by cases d <;> first | rfl | exact (ht rfl).elim
    simp [d_is_firing_of, b_is_firing_of, ht, this, cb]
  obtain ⟨xs, rfl⟩ := tup_of ht
  simp [d_is_firing_of, b_is_firing_of, ht, ne_int, matD, firB, cb]
  by_cases hl : xs.length = c.length
  case neg =>
    have hl' : ¬ ((xs.length : Int) = c.length) := by omega
    simp [hl, hl']
  simp [hl, seqs_tt, zipN2, List.zipWith_map_left]
  rw [nox_ok (compL_zw (enc := fun (r : List Int) x => PyData.tuple [rowD r, x]) (g := fun r x => PyData.bool (rowOfB r x)) fun x y => by
    unfold compG
    simp [wipeW, is_row_of_ok])]
  simp [all_zw]
theorem rowOfB_ok : ∀ {c x : List Int}, RowOk c x → (List.zipWith (fun x b => inB 0 b x) (x.map PyData.int) c).all id = true
  | [], [], _ => rfl
  | c :: cs, x :: xs, h => by
    simp only [List.map_cons, List.zipWith_cons_cons, List.all_cons, rowOfB_ok h.2, Bool.and_true]
    simp [inB, h.1.1, h.1.2]
  | [], _ :: _, h => h.elim
  | _ :: _, [], h => h.elim
theorem rowOfB_t {c x : List Int} (h : RowOk c x) : rowOfB c (rowD x) = true := by
  show (decide ((x.map PyData.int).length = c.length) && _) = true
  rw [rowOfB_ok h, List.length_map, h.len]; simp
theorem firB_ok : ∀ {c x : List (List Int)}, FirOk c x → (List.zipWith rowOfB c (x.map rowD)).all id = true
  | [], [], _ => rfl
  | c :: cs, x :: xs, h => by
    simp only [List.map_cons, List.zipWith_cons_cons, List.all_cons, firB_ok h.2, Bool.and_true]
    exact rowOfB_t h.1
  | [], _ :: _, h => h.elim
  | _ :: _, [], h => h.elim
theorem firB_t {c x : List (List Int)} (h : FirOk c x) : firB c (matD x) = true := by
  show (decide ((x.map rowD).length = c.length) && _) = true
  rw [firB_ok h, List.length_map, h.len]; simp
/-! ### odds and ends -/
def nxt (hi left : Int) : Int := if hi < left then hi else left
theorem sum_row {r : List Int} : biD .sum [rowD r] = some (.int r.sum) := by
  show (intsD (r.map .int)).map _ = _
  rw [intsD_map]; rfl
theorem min2_int {i j : Int} : biD .min2 [.int i, .int j] = some (.int (nxt j i)) := rfl
def mainD (lo hi st : Int) : D := .tuple [.int lo, .int hi, .int st]
theorem Pl.mD_e {p : Pl} : p.mD = mainD p.lo p.hi p.st := rfl
theorem caps_len {p : Pl} {s : Sto} : (caps p s).length = s.hs.length := by simp [caps]
theorem draws_len {p : Pl} {s : Sto} : (draws p s).length = s.hs.length := by simp [draws, drawsL]
theorem sum_row2 {r : List Int} : biD .sum [.tuple (r.map .int)] = some (.int r.sum) := sum_row
theorem fir_len {p : Pl} {s : Sto} {f : List (List Int)} (of : FirOk (caps p s) f) : f.length = s.hs.length := by rw [of.len, caps_len]
/-! ### firings drawn -/
def All2 {α β : Type} (R : α → β → Prop) : List α → List β → Prop
  | [], [] => True
  | x :: xs, y :: ys => R x y ∧ All2 R xs ys
  | _, _ => False
theorem compR_tr {α β : Type} {f : D → Hs → Res (Option D)} {enc : α → D} {dec : β → D} {R : α → β → Prop} {xs : List α} {h : Hs} (I : Hs → Prop) (h0 : I h) (step : ∀ x h, x ∈ xs → I h → Tr (f (enc x) h) (fun o h' => I h' ∧ ∃ y, o = some (dec y) ∧ R x y)) :
    Tr (compL f (xs.map enc) h) (fun ys h' => I h' ∧ ∃ zs : List β, ys = zs.map dec ∧ All2 R xs zs) := by
  induction xs generalizing h with
  | nil => exact Tr.ok.mpr ⟨h0, [], rfl, trivial⟩
  | cons x xs ih =>
    show Tr ((f (enc x) h).bind fun o h1 => (compL f (xs.map enc) h1).bind fun ys h2 => .ok (match o with | some y => y :: ys | none => ys) h2) _
    rw [Tr.bind]
    refine (step x h List.mem_cons_self h0).mono fun o h1 ⟨i1, p1⟩ => ?_
    rw [Tr.bind]
    refine (ih i1 fun x h hx => step x h (List.mem_cons_of_mem _ hx)).mono fun ys h2 ⟨i2, zs, e2, a2⟩ => ?_
    obtain ⟨y, rfl, r⟩ := p1
    exact Tr.ok.mpr ⟨i2, y :: zs, by rw [e2]; rfl, r, a2⟩
theorem RowOk.of2 : ∀ {c x : List Int}, All2 (fun a b : Int => 0 ≤ b ∧ b ≤ a) c x → RowOk c x
  | [], [], _ => trivial
  | _ :: _, _ :: _, h => ⟨h.1, RowOk.of2 h.2⟩
  | [], _ :: _, h => h.elim
  | _ :: _, [], h => h.elim
theorem FirOk.snoc : ∀ {c f : List (List Int)} {r x : List Int}, FirOk c f → RowOk r x → FirOk (c ++ [r]) (f ++ [x])
  | [], [], _, _, _, o => ⟨o, trivial⟩
  | _ :: _, _ :: _, _, _, h, o => ⟨h.1, FirOk.snoc h.2 o⟩
  | [], _ :: _, _, _, h, _ => h.elim
  | _ :: _, [], _, _, h, _ => h.elim
def FirV (c : List (List Int)) (w : W) : Prop := ∃ f, FirOk c f ∧ w = .t (matD f)
theorem caps9 {p : Pl} {s : Sto} (o : p.Ok) : ∀ r ∈ caps p s, ∀ x ∈ r, 0 ≤ x ∧ x ≤ 9 := by
  intro r hr x hx
  obtain ⟨h, hh, rfl⟩ := List.mem_map.mp hr
  obtain ⟨b, hb, rfl⟩ := List.mem_map.mp hx
  exact capI_rng o h b
theorem caps_fir {p : Pl} {s : Sto} (o : p.Ok) : FirOk (caps p s) (caps p s) := FirOk.self fun r hr x hx => (caps9 o r hr x hx).1
theorem vfir_tr {k p : Nat} {h : Hs} {c : List (List Int)} (hp : Pen p h) (hl : c.length ≤ 100) (hc : ∀ r ∈ c, ∀ x ∈ r, 0 ≤ x ∧ x ≤ 9) : Tr (callF cs (Prs ci.cl ds) (k + 2) 21 [.ref p, .t (matD c)] h) (fun w h' => FirV c w ∧ St p h h') := by
  refine callF_tr (d := d_law_firing.fd) rfl rfl ?_
  simp [d_law_firing, b_law_firing, Tr.bind, Tr.ok]
  refine (draw_tr hp (by decide) (by decide)).mono ?_
  rintro _ h2 ⟨⟨way, rfl, w0, w4⟩, s2⟩
  have f2 := (Fr.refl hp).st s2
  simp [Tr.bind, Tr.ok, asgW, matD]
  have hpl := f2.pen.lt
  have hle := f2.le
  have f3 : Fr p h (h2 ++ [.lst []]) := f2.app
  have e3 : (h2 ++ [.lst []])[h2.length]? = some (Ob.lst []) := get_app
  generalize List.length h2 = n at hpl hle e3
  refine forL_tr (fun j e a => (∃ t2, e = [some (.ref p), some (.t (matD c)), t2, some (.t (.int way)), some (.ref n), none]) ∧ Fr p h a ∧ j ≤ c.length ∧ ∃ f, FirOk (c.take j) f ∧ a[n]? = some (.lst (f.map rowD))) ⟨⟨_, rfl⟩, f3, Nat.zero_le _, [], trivial, e3⟩ ?_ ?_
  · rintro j x _ a hx ⟨⟨t2, rfl⟩, fa, hj, f, of, ea⟩
    rw [List.getElem?_map] at hx
    obtain ⟨r, hr, rfl⟩ := Option.map_eq_some_iff.mp hx
    have hj2 : j < c.length := by
      by_cases hl : j < c.length
      · exact hl
      · rw [List.getElem?_eq_none (by omega)] at hr; cases hr
    have fl : f.length ≤ c.length := by rw [of.len, List.length_take]; omega
    simp [forG, Tr.bind, Tr.ok, mtT_app ea, rowD]
    refine (Tr.nox (compR_tr (R := fun a b : Int => 0 ≤ b ∧ b ≤ a) (enc := PyData.int) (dec := PyData.int) (fun b => Fr p h b ∧ b[n]? = some (.lst (f.map rowD))) ⟨fa, ea⟩ ?_)).mono ?_
    · rintro x b hx2 ⟨fb, eb⟩
      have hx9 := hc r (List.mem_of_getElem? hr) x hx2
      unfold compG
      simp [wipeW, Tr.bind, Tr.ok]
      refine (draw_tr fb.pen (by omega) (by omega)).mono ?_
      rintro _ h4 ⟨⟨d1, rfl, d1a, d1b⟩, s4⟩
      have f4 := fb.st s4
      simp [Tr.bind, Tr.ok]
      refine (draw_tr f4.pen (by omega) (by omega)).mono ?_
      rintro _ h5 ⟨⟨d2, rfl, d2a, d2b⟩, s5⟩
      have f5 := f4.st s5
      obtain ⟨dm, em, hm, -⟩ := atI_in (xs := [.int x, .int 0, .int d1, .int d2]) w0 (by simpa using w4)
      obtain ⟨v, rfl, v0, v1⟩ : ∃ v : Int, dm = .int v ∧ 0 ≤ v ∧ v ≤ x := by
        simp at hm
        rcases hm with rfl | rfl | rfl | rfl <;> exact ⟨_, rfl, by omega, by omega⟩
      simp [em, Tr.bind, Tr.ok]
      exact ⟨⟨f5, (s5.2.2 _ (by omega)).trans ((s4.2.2 _ (by omega)).trans eb)⟩, v0, v1⟩
    rintro _ b ⟨⟨fb, eb⟩, zs, rfl, a2⟩
    simp [Tr.bind, Tr.ok, mtW_app eb (show (f.map rowD).length < lim by unfold lim; rw [List.length_map]; omega)]
    refine ⟨fb.set hle, hj2, f ++ [zs], ?_, ?_⟩
    · rw [List.take_add_one, hr]; exact of.snoc (RowOk.of2 a2)
    · have hn : n < b.length := by
        by_cases hn : n < b.length
        · exact hn
        · rw [List.getElem?_eq_none (by omega)] at eb; cases eb
      rw [List.getElem?_set_self hn]; simp [rowD]
  · rintro _ a ⟨⟨t2, rfl⟩, fa, hj, f, of, ea⟩
    rw [List.length_map, List.take_length] at of
    simp [Tr.bind, Tr.ok, peek_lst ea, fin]
    exact ⟨⟨f, of, rfl⟩, fa.take⟩
theorem row_sum {c x : List Int} (h : RowOk c x) (h9 : ∀ a ∈ c, 0 ≤ a ∧ a ≤ 9) (hl : c.length ≤ 4) : 0 ≤ x.sum ∧ x.sum ≤ 36 := by
  have := sum_rng (l := x) (m := 9) fun a ha => by
    obtain ⟨i, hi, e⟩ := List.getElem_of_mem ha
    obtain ⟨b, hb, o⟩ := h.at (i := i) (a := a) (by rw [List.getElem?_eq_getElem hi, e])
    have := h9 b (List.mem_of_getElem? hb)
    omega
  have := h.len
  omega
theorem caps_row {p : Pl} {s : Sto} (op : p.Ok) : ∀ r ∈ caps p s, r.length ≤ 4 := by
  intro r hr
  obtain ⟨h, hh, rfl⟩ := List.mem_map.mp hr
  have := op.b4
  simp; omega
theorem fir_sh {p : Pl} {s : Sto} {f : List (List Int)} (op : p.Ok) (os : s.Ok p.bs.length) (of : FirOk (caps p s) f) : Sh 2 21000 (matD f) := by
  refine mat_sh (fun r hr => ?_) (by have := fir_len of; have := os.h8; omega)
  obtain ⟨b, hb, o⟩ := of.mem r hr
  have := caps_row op b hb
  have := o.len
  refine ⟨by omega, fun x hx => ?_⟩
  obtain ⟨i, hi, e⟩ := List.getElem_of_mem hx
  obtain ⟨y, hy, o⟩ := o.at (i := i) (a := x) (by rw [List.getElem?_eq_getElem hi, e])
  have := caps9 op b hb y (List.mem_of_getElem? hy)
  omega
/-! ### rows and firings as trees, whole -/
@[simp] theorem len_mat {f : List (List Int)} : biD .len [matD f] = some (.int f.length) := by simp [matD]
@[simp] theorem len_row {r : List Int} : biD .len [rowD r] = some (.int r.length) := by simp [rowD]
@[simp] theorem seq_mat {f : List (List Int)} : seqD (matD f) = some (f.map rowD) := rfl
@[simp] theorem seq_row {r : List Int} : seqD (rowD r) = some (r.map .int) := rfl
@[simp] theorem sum_rw {r : List Int} : biD .sum [rowD r] = some (.int r.sum) := sum_row
theorem ix_mat {f : List (List Int)} {i : Nat} (h : i < f.length) : ixD (matD f) (.int i) = some (rowD f[i]) := atI_map (List.getElem?_eq_getElem h)
theorem ix_row {r : List Int} {i : Nat} (h : i < r.length) : ixD (rowD r) (.int i) = some (.int r[i]) := atI_map (List.getElem?_eq_getElem h)
@[simp] theorem sl_mat {f : List (List Int)} {lo hi : Option Int} : slD (matD f) lo hi = some (.tuple (cutD (f.map rowD) lo hi)) := rfl
@[simp] theorem sl_row {r : List Int} {lo hi : Option Int} : slD (rowD r) lo hi = some (.tuple (cutD (r.map .int) lo hi)) := rfl
/-! ### trees without dicts, of few layers -/
def Lay (n : Nat) (d : D) : Prop := d.canLay0 = true ∧ d.depth ≤ n
theorem layA : ∀ {xs : List D}, (∀ x ∈ xs, x.canLay0 = true) → PyData.canLayAll0 xs = true
  | [], _ => rfl
  | x :: xs, h => by
    rw [PyData.canLayAll0, h x List.mem_cons_self, layA fun y hy => h y (List.mem_cons_of_mem _ hy)]; rfl
theorem Lay.tup {n : Nat} {xs : List D} (h : ∀ x ∈ xs, Lay n x) : Lay (n + 1) (.tuple xs) := by
  refine ⟨?_, ?_⟩
  · rw [PyData.canLay0]
    exact layA fun x hx => (h x hx).1
  · rw [PyData.depth]
    exact Nat.succ_le_succ (depthAll_le fun x hx => (h x hx).2)
theorem Lay.lst {n : Nat} {xs : List D} (h : ∀ x ∈ xs, Lay n x) : Lay (n + 1) (.list xs) := by
  refine ⟨?_, ?_⟩
  · rw [PyData.canLay0]
    exact layA fun x hx => (h x hx).1
  · rw [PyData.depth]
    exact Nat.succ_le_succ (depthAll_le fun x hx => (h x hx).2)
theorem Lay.mono {n m : Nat} {d : D} (h : Lay n d) (l : n ≤ m) : Lay m d := ⟨h.1, Nat.le_trans h.2 l⟩
theorem Lay.int {n : Nat} {i : Int} : Lay n (.int i) := ⟨rfl, Nat.zero_le _⟩
theorem Lay.str {n : Nat} {i : PySem.Str} (h : (PyData.str i).canLay0 = true) : Lay n (.str i) := ⟨h, Nat.zero_le _⟩
theorem Lay.bool {n : Nat} {i : Bool} : Lay n (.bool i) := ⟨rfl, Nat.zero_le _⟩
theorem Lay.non {n : Nat} : Lay n .none := ⟨rfl, Nat.zero_le _⟩
theorem Lay.row {n : Nat} {r : List Int} : Lay (n + 1) (rowD r) := Lay.tup fun x hx => by
  obtain ⟨i, -, rfl⟩ := List.mem_map.mp hx
  exact .int
theorem Lay.mat {n : Nat} {f : List (List Int)} : Lay (n + 2) (matD f) := Lay.tup fun x hx => by
  obtain ⟨i, -, rfl⟩ := List.mem_map.mp hx
  exact .row
theorem Lay.sh {n : Nat} {d : D} (h : Lay n d) (l : n ≤ 20) : SeqAt.shaped d = true := by
  unfold SeqAt.shaped
  simp [h.1]
  have := h.2
  omega
/-! ### oddities, one by one -/
def odds : List D := [.none, .bool true, .int 7, .str "0", .str "", .list [], .dict [], .tuple [], .tuple [.int 0], .int (-1), .tuple [.int 0, .int 0], .list [.int 0], .bool false, .tuple [.tuple []], .tuple [.tuple [.int 0], .tuple []], .int 41, .int (10 ^ 30)]
theorem odd_tr {k p : Nat} {h : Hs} (hp : Pen p h) : Tr (callF cs (Prs ci.cl ds) (k + 2) 22 [.ref p] h) (fun w h' => (∃ d, w = .t d ∧ d ∈ odds) ∧ St p h h') := by
  refine callF_tr (d := d_law_odd.fd) rfl rfl ?_
  have pw : binD .pow (.int 10) (.int 30) = some (.int (10 ^ 30)) := by
    simp only [binD]; rw [if_pos (by decide)]; rfl
  simp [d_law_odd, b_law_odd, Tr.bind, Tr.ok, pw]
  refine (draw_tr hp (by decide) (by decide)).mono ?_
  rintro _ h2 ⟨⟨g, rfl, g0, g1⟩, s2⟩
  have f2 := (Fr.refl hp).st s2
  obtain ⟨d, ed, hd, -⟩ := atI_in (xs := odds) g0 (by simpa [odds] using g1)
  unfold odds at ed
  simp only [Int.reducePow] at ed
  simp [ed, Tr.bind, Tr.ok, fin]
  exact ⟨hd, f2.take⟩
/-! ### refusals of plants and stories -/
theorem need_plant_x {k : Nat} {d : D} {h : Hs} (hb : plantB d = false) : callF cs (Prs ci.cl ds) (k + 5) 7 [.t d] h = .exc 0 .none h := by
  refine callF_exc (d := d_need_plant.fd) rfl rfl ?_
  simp [d_need_plant, b_need_plant, is_plant_ok, hb]
theorem need_story_x {k : Nat} {d e : D} {h : Hs} (hb : plantB d = false) : callF cs (Prs ci.cl ds) (k + 6) 8 [.t d, .t e] h = .exc 0 .none h := by
  refine callF_exc (d := d_need_story.fd) rfl rfl ?_
  simp [d_need_story, b_need_story, need_plant_x hb]
theorem need_story_y {k : Nat} {p : Pl} {e : D} {h : Hs} (op : p.Ok) (hb : storyB p.bs.length e = false) : callF cs (Prs ci.cl ds) (k + 6) 8 [.t p.d, .t e] h = .exc 1 .none h := by
  refine callF_exc (d := d_need_story.fd) rfl rfl ?_
  have i := is_story_ok (k := k + 1) (bs := p.bs.map boD) (r := [.tuple (p.es.map enD), mainD p.lo p.hi p.st]) (d := e) (h := h)
  rw [List.length_map, hb] at i
  have i2 : callF cs (Prs ci.cl ds) (k + 5) 6 [.t p.d, .t e] h = .ok (.t (.bool false)) h := i
  simp [d_need_story, b_need_story, need_plant_t op, i2]
/-! ### the law's own look at a firing -/
theorem number_ok {k : Nat} {d : D} {a b : Int} {h : Hs} : callF cs (Prs ci.cl ds) (k + 1) 25 [.t d, .t (.int a), .t (.int b)] h = .ok (.t (.bool (inB a b d))) h := by
  refine callF_rt (d := d_law_number.fd) rfl rfl rfl ?_
  cases d <;> simp [d_law_number, b_law_number, isD, isS, tyD, cmpD, inB, ite_ok]
def IvIF (cp : List (List Int)) (xs : List D) (T : Bool) (h : Hs) (j : Nat) (e : Ev) (a : Hs) : Prop := ∃ t2 t3, e = [some (.t (matD cp)), some (.t (.tuple xs)), t2, t3, none, none] ∧ a = h ∧ (List.zipWith rowOfB (cp.drop j) (xs.drop j)).all id = T
theorem l_is_firing_ok {k : Nat} {cp : List (List Int)} {d : D} {h : Hs} : callF cs (Prs ci.cl ds) (k + 2) 28 [.t (matD cp), .t d] h = .ok (.t (.bool (firB cp d))) h := by
  refine Tr.out (callF_tr (d := d_law_is_firing.fd) rfl rfl ?_)
  by_cases ht : isD "tuple" d = true
  case neg =>
    have : firB cp d = false := by cases d <;> first | rfl | exact (ht rfl).elim
    simp [d_law_is_firing, b_law_is_firing, Tr.bind, Tr.ok, ht, this, fin]
  obtain ⟨xs, rfl⟩ := tup_of ht
  simp only [firB]
  by_cases hl : xs.length = cp.length
  case neg =>
    have hl' : ¬ ((xs.length : Int) = cp.length) := by omega
    simp [d_law_is_firing, b_law_is_firing, Tr.bind, Tr.ok, ht, ne_int, hl, hl', fin]
  have sq : seqsW false [.t (.tuple xs), .t (matD cp)] = some [xs, cp.map rowD] := rfl
  obtain ⟨T, hT⟩ : ∃ T, (List.zipWith rowOfB cp xs).all id = T := ⟨_, rfl⟩
  have eT : (decide (xs.length = cp.length) && (List.zipWith rowOfB cp xs).all id) = T := by rw [hT, decide_eq_true hl]; simp
  rw [eT]
  simp [d_law_is_firing, b_law_is_firing, Tr.bind, Tr.ok, ht, ne_int, hl, sq, zipN2]
  refine forL_tr (IvIF cp xs T h) ⟨_, _, rfl, rfl, by rw [List.drop_zero, List.drop_zero]; exact hT⟩ ?_ ?_
  · rintro j x _ a hx ⟨t2, t3, rfl, rfl, hp⟩
    have hj : j < xs.length := by
      by_cases c : j < xs.length
      · exact c
      · rw [List.getElem?_eq_none (by simp; omega)] at hx; cases hx
    have hc : j < cp.length := by omega
    have hx2 : x = .tuple [xs[j], rowD cp[j]] := by
      have hz : j < (List.zipWith (fun x y => PyData.tuple [x, y]) xs (cp.map rowD)).length := by simp; omega
      have hx3 : (List.zipWith (fun x y => PyData.tuple [x, y]) xs (cp.map rowD))[j]? = some x := by simpa using hx
      rw [List.getElem?_eq_getElem hz] at hx3
      have := (Option.some.inj hx3).symm
      rw [this]
      simp
    subst hx2
    rw [List.drop_eq_getElem_cons hj, List.drop_eq_getElem_cons hc, List.zipWith_cons_cons, List.all_cons] at hp
    generalize xs[j] = y at hp
    generalize cp[j] = c at hp
    simp only [id] at hp
    by_cases hy : isD "tuple" y = true
    case neg =>
      have : rowOfB c y = false := by cases y <;> first | rfl | exact (hy rfl).elim
      rw [this] at hp
      simp at hp
      subst hp
      simp [forG, Tr.bind, Tr.ok, hy, fin]
    obtain ⟨ys, rfl⟩ := tup_of hy
    by_cases hl2 : ys.length = c.length
    case neg =>
      have : rowOfB c (.tuple ys) = false := by
        show (decide (ys.length = c.length) && _) = false
        rw [decide_eq_false hl2]; rfl
      rw [this] at hp
      simp at hp
      subst hp
      have hl' : ¬ ((ys.length : Int) = c.length) := by omega
      simp [forG, Tr.bind, Tr.ok, hy, ne_int, hl', fin]
    have er : rowOfB c (.tuple ys) = (List.zipWith (fun x b => inB 0 b x) ys c).all id := by
      show (decide (ys.length = c.length) && _) = _
      rw [decide_eq_true hl2]; simp
    rw [er] at hp
    have sq2 : seqsW false [.t (.tuple ys), .t (rowD c)] = some [ys, c.map .int] := rfl
    simp [forG, Tr.bind, Tr.ok, hy, ne_int, hl2, sq2, zipN2, List.zipWith_map_right]
    rw [nox_ok (compL_zw (enc := fun x (b : Int) => PyData.tuple [x, .int b]) (g := fun x b => PyData.bool (inB 0 b x)) fun x y => by
      unfold compG
      simp [wipeW, number_ok])]
    simp [all_zw, Tr.bind, Tr.ok]
    cases hc2 : (List.zipWith (fun x b => inB 0 b x) ys c).all id with
    | false =>
      rw [hc2] at hp
      simp only [Bool.false_and] at hp
      subst hp
      have fm : false ∈ List.zipWith (fun x (y : Int) => inB 0 y x) ys c := by
        rw [List.all_eq_false] at hc2
        obtain ⟨x, hx, h2⟩ := hc2
        simp only [id, Bool.not_eq_true] at h2
        exact h2 ▸ hx
      simp [fm, Tr.ok, fin]
    | true =>
      rw [hc2] at hp
      simp only [Bool.true_and] at hp
      have fm : ¬ false ∈ List.zipWith (fun x (y : Int) => inB 0 y x) ys c := fun hm => by
        rw [List.all_eq_true] at hc2
        have := hc2 _ hm
        simp at this
      simp only [fm, if_false]
      first
        | exact ⟨_, _, rfl, rfl, hp⟩
        | exact ⟨_, _, rfl, _, _, rfl, rfl, hp⟩
        | (simp [Tr.ok]; exact ⟨_, _, rfl, rfl, hp⟩)
  · rintro _ a ⟨t2, t3, rfl, rfl, hp⟩
    have el : (List.zipWith (fun x y => PyData.tuple [x, y]) xs (cp.map rowD)).length = xs.length := by simp; omega
    have e2 : xs.drop xs.length = [] := List.drop_length
    have e3 : cp.drop xs.length = [] := List.drop_of_length_le (by omega)
    simp only [List.length_zipWith, List.length_map] at hp
    have e4 : min xs.length cp.length = xs.length := by omega
    rw [e4, e2, e3] at hp
    simp at hp
    subst hp
    simp [Tr.bind, Tr.ok, fin]
/-! the law's floor -/
/-! ### the law's own look at a story -/
theorem l_is_fault_ok {k : Nat} {bs r : List D} {d : D} {m : Int} {h : Hs} : callF cs (Prs ci.cl ds) (k + 2) 26 [.t (.tuple (.tuple bs :: r)), .t (.int m), .t d] h = .ok (.t (.bool (fltB bs.length m d))) h := by
  refine callF_rt (d := d_law_is_fault.fd) rfl rfl rfl ?_
  by_cases ht : isD "tuple" d = true
  case neg =>
    have : fltB bs.length m d = false := by cases d <;> first | rfl | exact (ht rfl).elim
    simp [d_law_is_fault, b_law_is_fault, ht, this]
  obtain ⟨xs, rfl⟩ := tup_of ht
  have sb : ∀ {i j : Int}, binD .sub (.int i) (.int j) = some (.int (i - j)) := rfl
  simp [d_law_is_fault, b_law_is_fault, ht, len_t, ne_int]
  by_cases hl : xs.length = 4
  case neg =>
    have hl' : ¬ ((xs.length : Int) = 4) := by omega
    simp [hl', fltB_n hl]
  obtain ⟨a, x, c, e, rfl⟩ : ∃ a x c e, xs = [a, x, c, e] := by
    match xs, hl with
    | [a, x, c, e], _ => exact ⟨a, x, c, e, rfl⟩
  simp [fltB_4, len_t, sb, number_ok]
  cases h1 : inB 0 (bs.length - 1) a with
  | false => simp [flt4, h1]
  | true =>
    simp
    by_cases hs : isD "str" x = true
    case neg =>
      have : strB x = false := by cases x <;> first | rfl | exact (hs rfl).elim
      simp [hs, flt4, this]
    obtain ⟨w, rfl⟩ := str_of hs
    simp [hs, nin_flt, flt4, h1]
    cases hw : strB (.str w) with
    | false => simp
    | true =>
      simp [number_ok]
      cases h3 : inB 0 (m - 1) e with
      | false => simp
      | true =>
        obtain ⟨j, rfl, hj⟩ := inB_int h3
        simp [number_ok]
        cases c <;> simp [inB, leD, intO]
        rename_i i
        simp only [← Bool.decide_and]
        refine decide_eq_decide.mpr ?_
        omega
theorem eq_lnil {xs : List D} (h : SeqAt.shaped (.list xs) = true) : cmpD .eq (.list xs) (.list []) = some xs.isEmpty := by
  show eqT _ _ = _
  have e : eqD (.list xs) (.list []) = some xs.isEmpty := by
    unfold eqD
    have s : strsD (.list xs) (.list []) = none := rfl
    rw [s]
    simp only
    rw [if_pos ⟨h, rfl⟩]
    cases xs <;> rfl
  unfold eqT
  rw [e]
theorem none_left {g : D → Bool} : ∀ {fs : List D}, ((fs.filter fun x => !g x).map fun _ => PyData.int 1).isEmpty = allB g fs
  | [] => rfl
  | f :: fs => by
    have ih := none_left (g := g) (fs := fs)
    unfold allB at ih ⊢
    rw [List.all_cons]
    cases h : g f with
    | false => rw [List.filter_cons_of_pos (by simp [h])]; rfl
    | true => rw [List.filter_cons_of_neg (by simp [h])]; simpa using ih
theorem l_is_story_ok {k : Nat} {bs r : List D} {d : D} {h : Hs} : callF cs (Prs ci.cl ds) (k + 3) 27 [.t (.tuple (.tuple bs :: r)), .t d] h = .ok (.t (.bool (storyB bs.length d))) h := by
  refine callF_rt (d := d_law_is_story.fd) rfl rfl rfl ?_
  by_cases ht : isD "tuple" d = true
  case neg =>
    have : storyB bs.length d = false := by cases d <;> first | rfl | exact (ht rfl).elim
    simp [d_law_is_story, b_law_is_story, ht, this]
  obtain ⟨xs, rfl⟩ := tup_of ht
  simp [d_law_is_story, b_law_is_story, ht, len_t, ne_int]
  by_cases hl : xs.length = 2
  case neg =>
    have hl' : ¬ ((xs.length : Int) = 2) := by omega
    simp [hl', storyB_n hl]
  obtain ⟨x, y, rfl⟩ : ∃ x y, xs = [x, y] := by
    match xs, hl with
    | [x, y], _ => exact ⟨x, y, rfl⟩
  simp [storyB_2]
  by_cases hx : isD "tuple" x = true
  case neg =>
    have : hrsB x = false := by cases x <;> first | rfl | exact (hx rfl).elim
    simp [hx, this]
  obtain ⟨hs, rfl⟩ := tup_of hx
  have hB : hrsB (.tuple hs) = (decide (1 ≤ hs.length) && decide (hs.length ≤ 8) && allB (inB 0 20) hs) := rfl
  simp [hx, hB, eq_int']
  by_cases h1 : 1 ≤ hs.length
  case neg =>
    have h1' : hs = [] := List.length_eq_zero_iff.mp (by omega)
    simp [h1']
  have h1' : ¬ hs = [] := fun e => by simp [e] at h1
  by_cases h4 : hs.length ≤ 8
  case neg =>
    have h4' : (8 : Int) < hs.length := by omega
    simp [h1, h1', h4, h4']
  have h4' : ¬ ((8 : Int) < hs.length) := by omega
  simp [h1, h1', h4, h4', seqD]
  rw [nox_ok (all_comp (g := inB 0 20) (by simp) (fun x h => by simp [wipeW, number_ok]) hs)]
  simp [all_bools]
  cases hb : allB (inB 0 20) hs with
  | false => simp
  | true =>
    simp
    by_cases hy : isD "tuple" y = true
    case neg =>
      have : fltsB bs.length (lenD (.tuple hs)) y = false := by cases y <;> first | rfl | exact (hy rfl).elim
      simp [hy, this]
    obtain ⟨fs, rfl⟩ := tup_of hy
    have fB : fltsB bs.length (lenD (.tuple hs)) (.tuple fs) = (decide (fs.length ≤ 4) && allB (fltB bs.length hs.length) fs) := rfl
    simp [hy, fB]
    by_cases h5 : fs.length ≤ 4
    case neg =>
      have h5' : (4 : Int) < fs.length := by omega
      simp [h5, h5']
    have h5' : ¬ ((4 : Int) < fs.length) := by omega
    simp [h5, h5', seqD]
    have ce := compL_fm (xs := fs) (enc := id) (p := fun x => !fltB bs.length hs.length x) (g := fun _ => PyData.int 1) (h := h) (f := compG cs (callF cs (Prs ci.cl ds) (k + 2)) (.lit (.int 1)) (.nm 2) [2] (.so (.not (.call 26 (.cons (.var 0) (.cons (.bi .len (.cons (.ix (.var 1) (.lit (.int 0))) .nil)) (.cons (.var 2) .nil)))))) [some (.t (.tuple (.tuple bs :: r))), some (.t (.tuple [.tuple hs, .tuple fs])), none]) (fun x _ => by
      unfold compG
      simp [wipeW, l_is_fault_ok, len_t]
      cases fltB bs.length hs.length x <;> simp)
    rw [List.map_id] at ce
    rw [nox_ok ce]
    have sh : SeqAt.shaped (.list ((fs.filter fun x => !fltB bs.length hs.length x).map fun _ => PyData.int 1)) = true := Lay.sh (n := 1) (Lay.lst fun x hx => by
      obtain ⟨i, -, e⟩ := List.mem_map.mp hx
      rw [← e]
      exact .int) (by decide)
    have ne := none_left (g := fltB bs.length hs.length) (fs := fs)
    simp [eq_lnil sh, ne]
/-! ### the doors -/
theorem p_is_story_ok {k : Nat} {p : Pl} {d : D} {h : Hs} (op : p.Ok) : callF cs (Prs ci.cl ds) (k + 6) 9 [.t p.d, .t d] h = .ok (.t (.bool (storyB p.bs.length d))) h := by
  have np := fun h => need_plant_t op (k := k) (h := h)
  have e : ∀ h, callF cs (Prs ci.cl ds) (k + 5) 6 [.t p.d, .t d] h = .ok (.t (.bool (storyB p.bs.length d))) h := fun h => by
    have e : p.d = .tuple (.tuple (p.bs.map boD) :: [.tuple (p.es.map enD), p.mD]) := rfl
    rw [e, is_story_ok (k := k + 1), List.length_map]
  refine callF_rt (d := d_is_story.fd) rfl rfl rfl ?_
  simp [d_is_story, b_is_story, np, e]
theorem l_is_story_t {k : Nat} {p : Pl} {d : D} {h : Hs} : callF cs (Prs ci.cl ds) (k + 3) 27 [.t p.d, .t d] h = .ok (.t (.bool (storyB p.bs.length d))) h := by
  have e : p.d = .tuple (.tuple (p.bs.map boD) :: [.tuple (p.es.map enD), p.mD]) := rfl
  rw [e, l_is_story_ok, List.length_map]
theorem p_is_firing_ok {k : Nat} {p : Pl} {s : Sto} {d : D} {h : Hs} (op : p.Ok) (os : s.Ok p.bs.length) : callF cs (Prs ci.cl ds) (k + 7) 14 [.t p.d, .t s.d, .t d] h = .ok (.t (.bool (firB (caps p s) d))) h := by
  have ns := fun h => need_story_t op os (k := k) (h := h)
  have e := fun h => is_firing_ok op os (k := k + 3) (d := d) (h := h)
  refine callF_rt (d := d_is_firing.fd) rfl rfl rfl ?_
  simp [d_is_firing, b_is_firing, ns, e]
theorem is_story_x {k : Nat} {d e : D} {h : Hs} (hd : plantB d = false) : callF cs (Prs ci.cl ds) (k + 6) 9 [.t d, .t e] h = .exc 0 .none h := by
  have ns := fun h => need_plant_x hd (k := k) (h := h)
  refine callF_exc (d := d_is_story.fd) rfl rfl ?_
  simp [d_is_story, b_is_story, ns]
theorem is_firing_x {k : Nat} {d e f : D} {h : Hs} (hd : plantB d = false) : callF cs (Prs ci.cl ds) (k + 7) 14 [.t d, .t e, .t f] h = .exc 0 .none h := by
  have ns := fun h => need_story_x (d := d) (e := e) hd (k := k) (h := h)
  refine callF_exc (d := d_is_firing.fd) rfl rfl ?_
  simp [d_is_firing, b_is_firing, ns]
theorem is_firing_y {k : Nat} {p : Pl} {e f : D} {h : Hs} (op : p.Ok) (hd : storyB p.bs.length e = false) : callF cs (Prs ci.cl ds) (k + 7) 14 [.t p.d, .t e, .t f] h = .exc 1 .none h := by
  have ns := fun h => need_story_y (e := e) op hd (k := k) (h := h)
  refine callF_exc (d := d_is_firing.fd) rfl rfl ?_
  simp [d_is_firing, b_is_firing, ns]
theorem said_sp {k : Nat} {d e : D} {h : Hs} (hd : plantB d = false) : callF cs (Prs ci.cl ds) (k + 7) 41 [.t d, .t e] h = .ok (.t (.tuple [.str "plant"])) h :=
  told_exc (g := 9) (r := d_is_story) (c := 0) rfl rfl (by decide) rfl (is_story_x hd)
theorem said_fp {k : Nat} {d e f : D} {h : Hs} (hd : plantB d = false) : callF cs (Prs ci.cl ds) (k + 8) 46 [.t d, .t e, .t f] h = .ok (.t (.tuple [.str "plant"])) h :=
  told_exc (g := 14) (r := d_is_firing) (c := 0) rfl rfl (by decide) rfl (is_firing_x hd)
theorem said_fs {k : Nat} {p : Pl} {e f : D} {h : Hs} (op : p.Ok) (hd : storyB p.bs.length e = false) : callF cs (Prs ci.cl ds) (k + 8) 46 [.t p.d, .t e, .t f] h = .ok (.t (.tuple [.str "story"])) h :=
  told_exc (g := 14) (r := d_is_firing) (c := 1) rfl rfl (by decide) rfl (is_firing_y op hd)
/-! ### the things that the law asks about -/
def It (d : D) : Prop := Sh 2 600 d
def Pt (d : D) : Prop := Sh 3 12100 d
def Sm (d : D) : Prop := Sh 40 100000 d
theorem pt_t {xs : List D} (h : ∀ x ∈ xs, It x) (hl : xs.length ≤ 20) : Pt (.tuple xs) := (Sh.tuple (m := 2) (n := 600) (k := 20) h hl).le (by decide) (by decide)
theorem pt_l {xs : List D} (h : ∀ x ∈ xs, It x) (hl : xs.length ≤ 20) : Pt (.list xs) := (Sh.list (m := 2) (n := 600) (k := 20) h hl).le (by decide) (by decide)
theorem sm_pt {d : D} (h : Pt d) : Sm d := h.le (by decide) (by decide)
theorem sm_1 {x : D} (hx : Pt x) : Sm (.tuple [x]) := (Sh.tuple (m := 3) (n := 12100) (k := 1) (ds := [x]) (fun d hd => by rw [List.mem_singleton.mp hd]; exact hx) (by simp)).le (by decide) (by decide)
theorem sm_2 {x y : D} (hx : Pt x) (hy : Pt y) : Sm (.tuple [x, y]) := (pair_sh hx hy).le (by decide) (by decide)
theorem sm_l2 {x y : D} (hx : Pt x) (hy : Pt y) : Sm (.list [x, y]) := (lpair_sh hx hy).le (by decide) (by decide)
theorem sm_3 {x y z : D} (hx : Pt x) (hy : Pt y) (hz : Pt z) : Sm (.tuple [x, y, z]) := (tri_sh hx hy hz).le (by decide) (by decide)
theorem it_sl {d : D} (h : Sl d) : It d := h.le (by decide) (by decide)
theorem it_i {i : Int} (h : -100000 ≤ i ∧ i ≤ 100000) : It (.int i) := it_sl (sl_int h)
def shI (d : D) : Bool := d.showable && decide (d.depth ≤ 2) && decide (d.shown.length ≤ 600)
theorem it_c {d : D} (h : shI d = true) : It d := by
  unfold shI at h
  simp only [Bool.and_eq_true, decide_eq_true_eq] at h
  exact ⟨h.1.1, h.1.2, h.2⟩
theorem it_w {x : PySem.Str} (h : x = "out" ∨ x = "scaled") : Sh 1 60 (PyData.str x) := by
  rcases h with rfl | rfl <;> exact ⟨rfl, Nat.zero_le _, by decide +kernel⟩
theorem it_t {xs : List D} (h : ∀ x ∈ xs, Sh 1 60 x) (hl : xs.length ≤ 9) : It (.tuple xs) := (Sh.tuple (m := 1) (n := 60) (k := 9) h hl).le (by decide) (by decide)
theorem it_l {xs : List D} (h : ∀ x ∈ xs, Sh 1 60 x) (hl : xs.length ≤ 9) : It (.list xs) := (Sh.list (m := 1) (n := 60) (k := 9) h hl).le (by decide) (by decide)
theorem i60 {i : Int} (h : -100000 ≤ i ∧ i ≤ 100000) : Sh 1 60 (.int i) := (sl_int h).le (by decide) (by decide)
theorem q4 {P : D → Prop} {a b c e : D} (ha : P a) (hb : P b) (hc : P c) (he : P e) : ∀ d ∈ [a, b, c, e], P d := fun d hd => by
  simp only [List.mem_cons, List.not_mem_nil, or_false] at hd
  rcases hd with rfl | rfl | rfl | rfl <;> assumption
theorem q_app {P : D → Prop} {xs ys : List D} (h : ∀ d ∈ xs, P d) (g : ∀ d ∈ ys, P d) : ∀ d ∈ xs ++ ys, P d := fun d hd => (List.mem_append.mp hd).elim (h d) (g d)
theorem q_cons {P : D → Prop} {x : D} {xs : List D} (h : P x) (g : ∀ d ∈ xs, P d) : ∀ d ∈ x :: xs, P d := fun d hd => (List.mem_cons.mp hd).elim (fun e => e ▸ h) (g d)
theorem q_one {P : D → Prop} {x : D} (h : P x) : ∀ d ∈ [x], P d := fun d hd => by rw [List.mem_singleton.mp hd]; exact h
theorem cutm {xs : List D} {lo hi : Option Int} {x : D} (h : x ∈ cutD xs lo hi) : x ∈ xs := List.mem_of_mem_drop (List.mem_of_mem_take h)
theorem cutl {xs : List D} {lo hi : Option Int} : (cutD xs lo hi).length ≤ xs.length := by
  unfold cutD; simp; omega
theorem q_cut {P : D → Prop} {xs : List D} {a b : Option Int} (h : ∀ d ∈ xs, P d) : ∀ d ∈ cutD xs a b, P d := fun d hd => h d (cutm hd)
theorem q_rep {P : D → Prop} {xs : List D} {k : Int} (h : ∀ d ∈ xs, P d) : ∀ d ∈ repD xs k, P d := fun d hd => h d (by
  unfold repD at hd
  obtain ⟨l, hl, hx⟩ := List.mem_flatten.mp hd
  rw [(List.mem_replicate.mp hl).2] at hx
  exact hx)
theorem rep_len {xs : List D} {k : Int} : (repD xs k).length = k.toNat * xs.length := by simp [repD]
theorem firings_tr {k p : Nat} {f : List (List Int)} {n : Nat} {h : Hs} (hp : Pen p h) (h1 : 1 ≤ f.length) (h8 : f.length ≤ 8) (hr : ∀ r ∈ f, r.length = n) (n1 : 1 ≤ n) (n4 : n ≤ 4) (hb : ∀ r ∈ f, ∀ x ∈ r, 0 ≤ x ∧ x ≤ 9) :
    Tr (callF cs (Prs ci.cl ds) (k + 2) 30 [.ref p, .t (matD f)] h) (fun w h' => (∃ L, w = .t (.list L) ∧ L.length ≤ 20 ∧ ∀ d ∈ L, Sm d) ∧ St p h h') := by
  refine callF_tr (d := d_law_firings.fd) rfl rfl ?_
  have e0 : ixD (matD f) (.int 0) = some (rowD f[0]) := ix_mat (i := 0) (by omega)
  have l0 : f[0].length = n := hr _ (List.getElem_mem _)
  simp [d_law_firings, b_law_firings, Tr.bind, Tr.ok, e0]
  refine (draw_tr hp (by omega) (by omega)).mono ?_
  rintro _ h2 ⟨⟨g, rfl, g0, g1⟩, s2⟩
  have f2 := (Fr.refl hp).st s2
  simp [Tr.bind, Tr.ok, l0]
  refine (draw_tr f2.pen (by omega) (by omega)).mono ?_
  rintro _ h3 ⟨⟨t, rfl, t0, t1⟩, s3⟩
  have f3 := f2.st s3
  obtain ⟨i, rfl⟩ := Int.eq_ofNat_of_zero_le g0
  obtain ⟨j, rfl⟩ := Int.eq_ofNat_of_zero_le t0
  have hi : i < f.length := by omega
  have ei := ix_mat hi
  have li : f[i].length = n := hr _ (List.getElem_mem _)
  have hj : j < f[i].length := by omega
  have ej := ix_row hj
  have bi := hb _ (List.getElem_mem hi)
  generalize f[i] = r at ei li hj ej bi
  have bj := bi _ (List.getElem_mem hj)
  generalize r[j] = x at ej bj
  simp [Tr.bind, Tr.ok, asgTs, asgT, ei, ej]
  refine (draw_tr f3.pen (by decide) (by decide)).mono ?_
  rintro _ h4 ⟨⟨u, rfl, u0, u1⟩, s4⟩
  have f4 := f3.st s4
  obtain ⟨d, ed, hd, -⟩ := atI_in (xs := [.int (x + 1), .int (x + 1), .int (x - 1), .int 10, .int (-1), .bool true, .none, .str "0"]) u0 (by simpa using u1)
  simp [ed, Tr.bind, Tr.ok]
  have rs : ∀ y ∈ r.map PyData.int, Sh 1 60 y := fun y hy => by
    obtain ⟨z, hz, rfl⟩ := List.mem_map.mp hy
    exact i60 (by have := bi z hz; omega)
  have ds : Sh 1 60 d := by
    simp only [List.mem_cons, List.not_mem_nil, or_false] at hd
    rcases hd with rfl | rfl | rfl | rfl | rfl | rfl | rfl | rfl
    · exact i60 (by omega)
    · exact i60 (by omega)
    · exact i60 (by omega)
    · exact i60 (by decide)
    · exact i60 (by decide)
    · exact Sh.bl.le (by decide) (by decide)
    · exact Sh.non.le (by decide) (by decide)
    · exact ⟨rfl, Nat.zero_le _, by decide +kernel⟩
  have lr : (r.map PyData.int).length = n := by rw [List.length_map]; exact li
  have lf : (f.map rowD).length ≤ 8 := by rw [List.length_map]; exact h8
  have c1 := cutl (xs := r.map PyData.int) (lo := none) (hi := some (j : Int))
  have c2 := cutl (xs := r.map PyData.int) (lo := some ((j : Int) + 1)) (hi := none)
  have c3 := cutl (xs := r.map PyData.int) (lo := some 1) (hi := none)
  have c4 := cutl (xs := f.map rowD) (lo := none) (hi := some (i : Int))
  have c5 := cutl (xs := f.map rowD) (lo := some ((i : Int) + 1)) (hi := none)
  have c6 := cutl (xs := f.map rowD) (lo := some 1) (hi := none)
  have q1 : ∀ y ∈ cutD (r.map PyData.int) none (some (j : Int)), Sh 1 60 y := q_cut rs
  have q2 : ∀ y ∈ cutD (r.map PyData.int) (some ((j : Int) + 1)) none, Sh 1 60 y := q_cut rs
  have q3 : ∀ y ∈ cutD (r.map PyData.int) (some 1) none, Sh 1 60 y := q_cut rs
  have rf : ∀ y ∈ f.map rowD, It y := fun y hy => by
    obtain ⟨z, hz, rfl⟩ := List.mem_map.mp hy
    refine it_t (fun u hu => ?_) (by rw [List.length_map, hr z hz]; omega)
    obtain ⟨v, hv, rfl⟩ := List.mem_map.mp hu
    exact i60 (by have := hb z hz v hv; omega)
  have q4 : ∀ y ∈ cutD (f.map rowD) none (some (i : Int)), It y := q_cut rf
  have q5 : ∀ y ∈ cutD (f.map rowD) (some ((i : Int) + 1)) none, It y := q_cut rf
  have q6 : ∀ y ∈ cutD (f.map rowD) (some 1) none, It y := q_cut rf
  have ir : It (rowD r) := it_t rs (by omega)
  have er : rowD r = .tuple (r.map PyData.int) := rfl
  have em : matD f = .tuple (f.map rowD) := rfl
  generalize f.map rowD = F at *
  generalize r.map PyData.int = R at *
  rw [er, em]
  generalize cutD R none (some (j : Int)) = R1 at *
  generalize cutD R (some ((j : Int) + 1)) none = R2 at *
  generalize cutD R (some 1) none = R3 at *
  have tt : ∀ {xs ys : List D}, xs.length ≤ 1000 → ys.length ≤ 1000 → binD .add (.tuple xs) (.tuple ys) = some (.tuple (xs ++ ys)) := fun h1 h2 => add_tt (by unfold lim; omega)
  have A1 : binD .add (.tuple R1) (.tuple [d]) = some (.tuple (R1 ++ [d])) := tt (by omega) (by simp)
  have A2 : binD .add (.tuple (R1 ++ [d])) (.tuple R2) = some (.tuple (R1 ++ [d] ++ R2)) := tt (by simp; omega) (by omega)
  have A3 : binD .add (.tuple R) (.tuple [.int 0]) = some (.tuple (R ++ [.int 0])) := tt (by omega) (by simp)
  have A4 : biD .list [.tuple R] = some (.list R) := rfl
  have A5 : revD (.tuple R) = some (.tuple R.reverse) := rfl
  have fz : ∀ {a b c e f g : D} {h : Hs}, frzs [.t a, .t b, .t c, .t e, .t f, .t g] h = some ([a, b, c, e, f, g], h) := rfl
  simp only [A1, A2, A3, A4, A5, fz, Option.map_some, Res.opt_some, Tr.ok, Option.bind_some, peek_t]
  have sl : ∀ {xs : List D} {a b : Option Int}, slD (.tuple xs) a b = some (.tuple (cutD xs a b)) := rfl
  rw [nox_ok (compL_map (g := fun x => PyData.tuple (cutD F none (some (i : Int)) ++ x :: cutD F (some ((i : Int) + 1)) none)) fun x _ => by
    have B1 : binD .add (.tuple (cutD F none (some (i : Int)))) (.tuple [x]) = some (.tuple (cutD F none (some (i : Int)) ++ [x])) := tt (by omega) (by simp)
    have B2 : binD .add (.tuple (cutD F none (some (i : Int)) ++ [x])) (.tuple (cutD F (some ((i : Int) + 1)) none)) = some (.tuple (cutD F none (some (i : Int)) ++ x :: cutD F (some ((i : Int) + 1)) none)) := by
      have := tt (xs := cutD F none (some (i : Int)) ++ [x]) (ys := cutD F (some ((i : Int) + 1)) none) (by simp; omega) (by omega)
      simpa using this
    unfold compG
    simp [wipeW, B1, B2, sl])]
  generalize cutD F none (some (i : Int)) = F1 at *
  generalize cutD F (some ((i : Int) + 1)) none = F2 at *
  generalize cutD F (some 1) none = F3 at *
  have A6 : binD .add (.tuple F) (.tuple [.tuple R]) = some (.tuple (F ++ [.tuple R])) := tt (by omega) (by simp)
  have A7 : biD .list [.tuple F] = some (.list F) := rfl
  have A8 : revD (.tuple F) = some (.tuple F.reverse) := rfl
  have fz4 : ∀ {a b c e : D} {h : Hs}, frzs [.t a, .t b, .t c, .t e] h = some ([a, b, c, e], h) := rfl
  have ll : ∀ {xs ys : List D}, xs.length ≤ 1000 → ys.length ≤ 1000 → binD .add (.list xs) (.list ys) = some (.list (xs ++ ys)) := fun h1 h2 => add_ll (by unfold lim; omega)
  simp [Tr.bind, Tr.ok, A6, A7, A8, fz4, sl, ll, fin]
  have mk : ∀ {x : D}, It x → Sm (.tuple (F1 ++ x :: F2)) := fun hx => sm_pt (pt_t (q_app q4 (q_cons hx q5)) (by simp; omega))
  exact ⟨⟨mk (it_t (q_app q1 (q_cons ds q2)) (by simp; omega)), mk (it_t q3 (by omega)), mk (it_t (q_app rs (q_one (i60 (by decide)))) (by simp; omega)), mk (it_l rs (by omega)), mk (ds.le (by decide) (by decide)), mk (it_t (fun y hy => rs y (List.mem_reverse.mp hy)) (by simp; omega)), sm_pt (pt_t q6 (by omega)), sm_pt (pt_t (q_app rf (q_one (it_t rs (by omega)))) (by simp; omega)), sm_pt (pt_l rf (by omega)), sm_pt (pt_t (fun y hy => rf y (List.mem_reverse.mp hy)) (by simp; omega))⟩, f4.take⟩
theorem stories_tr {k p : Nat} {pl : Pl} {s : Sto} {h : Hs} (hp : Pen p h) (op : pl.Ok) (os : s.Ok pl.bs.length) :
    Tr (callF cs (Prs ci.cl ds) (k + 2) 29 [.ref p, .t pl.d, .t s.d] h) (fun w h' => (∃ L, w = .t (.list L) ∧ L.length ≤ 40 ∧ ∀ d ∈ L, Sm d) ∧ St p h h') := by
  refine callF_tr (d := d_law_stories.fd) rfl rfl ?_
  have h1 := os.h1
  have h8 := os.h8
  have b1 := op.b1
  have b4 := op.b4
  have f4 := os.f4
  have es : s.d = .tuple [.tuple (s.hs.map .int), .tuple (s.fs.map flD)] := rfl
  have hs60 : ∀ y ∈ s.hs.map PyData.int, Sh 1 60 y := fun y hy => by
    obtain ⟨z, hz, rfl⟩ := List.mem_map.mp hy
    exact i60 (by have := os.ho z hz; omega)
  have lH : (s.hs.map PyData.int).length = s.hs.length := List.length_map ..
  have lF : (s.fs.map flD).length ≤ 4 := by rw [List.length_map]; exact f4
  have qF : ∀ y ∈ s.fs.map flD, It y := fun y hy => by
    obtain ⟨z, hz, rfl⟩ := List.mem_map.mp hy
    obtain ⟨w, x0, x1, x2, x3, x4⟩ := os.fo z hz
    exact it_t (q4 (i60 (by omega)) (it_w w) (i60 (by omega)) (i60 (by omega))) (by simp)
  generalize s.hs.map PyData.int = H at es hs60 lH
  generalize s.fs.map flD = F at es lF qF
  rw [es]
  simp [d_law_stories, b_law_stories, Tr.bind, Tr.ok, asgTs, asgT]
  refine (draw_tr hp (by omega) (by omega)).mono ?_
  rintro _ h2 ⟨⟨g, rfl, g0, g1⟩, s2⟩
  have f2 := (Fr.refl hp).st s2
  simp [Tr.bind, Tr.ok, asgTs, asgT]
  refine (draw_tr f2.pen (by decide) (by decide)).mono ?_
  rintro _ h4 ⟨⟨u, rfl, u0, u1⟩, s4⟩
  have f4 := f2.st s4
  obtain ⟨d, ed, hd, -⟩ := atI_in (xs := [.int 21, .int (-1), .bool true, .none, .str "0", .int 20, .int 0, .tuple [.int 0]]) u0 (by simpa using u1)
  simp [ed, Tr.bind, Tr.ok]
  have d60 : Sh 1 60 d := by
    simp only [List.mem_cons, List.not_mem_nil, or_false] at hd
    rcases hd with rfl | rfl | rfl | rfl | rfl | rfl | rfl | rfl
    · exact i60 (by decide)
    · exact i60 (by decide)
    · exact Sh.bl.le (by decide) (by decide)
    · exact Sh.non.le (by decide) (by decide)
    · exact ⟨rfl, Nat.zero_le _, by decide +kernel⟩
    · exact i60 (by decide)
    · exact i60 (by decide)
    · exact ⟨by decide +kernel, by decide +kernel, by decide +kernel⟩
  clear ed
  have sl : ∀ {xs : List D} {a b : Option Int}, slD (.tuple xs) a b = some (.tuple (cutD xs a b)) := rfl
  have tt : ∀ {xs ys : List D}, xs.length ≤ 1000 → ys.length ≤ 1000 → binD .add (.tuple xs) (.tuple ys) = some (.tuple (xs ++ ys)) := fun h1 h2 => add_tt (by unfold lim; omega)
  have M8 : binD .mul (.tuple [.int 0]) (.int 8) = some (.tuple (repD [.int 0] 8)) := rfl
  have M9 : binD .mul (.tuple [.int 0]) (.int 9) = some (.tuple (repD [.int 0] 9)) := rfl
  have c1 := cutl (xs := H) (lo := none) (hi := some g)
  have c2 := cutl (xs := H) (lo := some (g + 1)) (hi := none)
  have q1 : ∀ y ∈ cutD H none (some g), Sh 1 60 y := q_cut hs60
  have q2 : ∀ y ∈ cutD H (some (g + 1)) none, Sh 1 60 y := q_cut hs60
  simp only [sl, Option.map_some, Res.opt_some, Tr.ok, Option.bind_some, peek_t]
  generalize cutD H none (some g) = H1 at *
  generalize cutD H (some (g + 1)) none = H2 at *
  have A1 : binD .add (.tuple H1) (.tuple [d]) = some (.tuple (H1 ++ [d])) := tt (by omega) (by simp)
  have A2 : binD .add (.tuple (H1 ++ [d])) (.tuple H2) = some (.tuple (H1 ++ [d] ++ H2)) := tt (by simp; omega) (by omega)
  have fz3 : ∀ {a b c : D} {h : Hs}, frzs [.t a, .t b, .t c] h = some ([a, b, c], h) := rfl
  simp [A1, A2, Tr.bind, Tr.ok, M8, M9, fz3]
  have l9 : 9 ≤ lim := by decide
  have pH : Pt (.tuple H) := pt_t (fun y hy => (hs60 y hy).le (by decide) (by decide)) (by omega)
  have pF : Pt (.tuple F) := pt_t qF (by omega)
  have pE : Pt (.tuple []) := pt_t (fun y hy => by cases hy) (by simp)
  have z60 : ∀ y ∈ [PyData.int 0], It y := q_one (it_i (by decide))
  have p9 : ∀ {k : Int}, k.toNat ≤ 9 → Pt (.tuple (repD [.int 0] k)) := fun hk => pt_t (q_rep z60) (by rw [rep_len]; simp; omega)
  obtain ⟨L9, e9⟩ : ∃ L9, L9 = [PyData.tuple [PyData.tuple (H1 ++ d :: H2), PyData.tuple F], PyData.tuple [PyData.tuple H, PyData.list F],
            PyData.tuple [PyData.list H, PyData.tuple F], PyData.list [PyData.tuple H, PyData.tuple F],
            PyData.tuple [PyData.tuple [], PyData.tuple []],
            PyData.tuple [PyData.tuple (repD [PyData.int 0] 8), PyData.tuple []],
            PyData.tuple [PyData.tuple (repD [PyData.int 0] 9), PyData.tuple []],
            PyData.tuple [PyData.tuple H, PyData.tuple [PyData.none]], PyData.tuple [PyData.tuple H]] := ⟨_, rfl⟩
  have q9 : ∀ y ∈ L9, Sm y := fun y hy => by
    rw [e9] at hy
    simp only [List.mem_cons, List.not_mem_nil, or_false] at hy
    rcases hy with rfl | rfl | rfl | rfl | rfl | rfl | rfl | rfl | rfl
    · exact sm_2 (pt_t (fun y hy => (q_app q1 (q_cons d60 q2) y hy).le (by decide) (by decide)) (by simp; omega)) pF
    · exact sm_2 pH (pt_l qF (by omega))
    · exact sm_2 (pt_l (fun y hy => (hs60 y hy).le (by decide) (by decide)) (by omega)) pF
    · exact sm_l2 pH pF
    · exact sm_2 pE pE
    · exact sm_2 (p9 (by decide)) pE
    · exact sm_2 (p9 (by decide)) pE
    · exact sm_2 pH (pt_t (q_one (Sh.non.le (by decide) (by decide))) (by simp))
    · exact sm_1 pH
  have n9 : L9.length = 9 := by rw [e9]; rfl
  simp only [if_pos l9, ← e9, Res.opt_some, Tr.ok]
  generalize eA : h4 ++ [Ob.lst _] = hA
  have fA : Fr p h hA := by rw [← eA]; exact f4.app
  have lA : h.length ≤ hA.length := fA.le
  rw [mtW_app get_app (by rw [n9]; decide)]
  simp only [Tr.ok]
  have fB : Fr p h ((hA ++ [Ob.lst L9]).set hA.length (.lst (L9 ++ [.tuple [.tuple H, .tuple F, .tuple []]]))) := fA.app.set lA
  have eB : ((hA ++ [Ob.lst L9]).set hA.length (.lst (L9 ++ [.tuple [.tuple H, .tuple F, .tuple []]])))[hA.length]? = some (.lst (L9 ++ [.tuple [.tuple H, .tuple F, .tuple []]])) := by simp
  generalize (hA ++ [Ob.lst L9]).set hA.length (.lst (L9 ++ [.tuple [.tuple H, .tuple F, .tuple []]])) = hB at fB eB ⊢
  have q10 : ∀ y ∈ L9 ++ [PyData.tuple [.tuple H, .tuple F, .tuple []]], Sm y := q_app q9 (q_one (sm_3 pH pF pE))
  have n10 : (L9 ++ [PyData.tuple [.tuple H, .tuple F, .tuple []]]).length = 10 := by simp [n9]
  generalize L9 ++ [PyData.tuple [.tuple H, .tuple F, .tuple []]] = L at eB q10 n10 ⊢
  have hlt := hp.lt
  generalize hA.length = m at *
  refine (draw_tr fB.pen (by omega) (by omega)).mono ?_
  rintro _ hC ⟨⟨b, rfl, b0, b2⟩, sC⟩
  have fC := fB.st sC
  have eC := (sC.2.2 m (by omega)).trans eB
  have pk := peek_lst eC
  simp [Tr.bind, Tr.ok, tt, sl]
  have ll : ∀ {xs ys : List D}, xs.length ≤ 1000 → ys.length ≤ 1000 → binD .add (.list xs) (.list ys) = some (.list (xs ++ ys)) := fun h1 h2 => add_ll (by unfold lim; omega)
  have mm : ∀ {x : D} {k : Int}, k = 4 ∨ k = 5 → binD .mul (.tuple [x]) (.int k) = some (.tuple (repD [x] k)) := fun hk => by
    rcases hk with rfl | rfl <;> rfl
  have m4 := fun x => mm (x := x) (k := 4) (.inl rfl)
  have m5 := fun x => mm (x := x) (k := 5) (.inr rfl)
  have iF : It (.tuple [.int b, .str "out", .int g, .int ((H.length : Int) - 1)]) := it_t (q4 (i60 (by omega)) (it_w (.inl rfl)) (i60 (by omega)) (i60 (by omega))) (by simp)
  have iw : ∀ {w : PySem.Str}, (PyData.str w).showable = true ∧ (PyData.str w).depth ≤ 1 ∧ (PyData.str w).shown.length ≤ 60 → Sh 1 60 (.str w) := fun h => h
  have ib : ∀ {b : Bool}, Sh 1 60 (.bool b) := fun {b} => Sh.bl.le (by decide) (by decide)
  have wo := it_w (x := "out") (.inl rfl)
  have ws := it_w (x := "scaled") (.inr rfl)
  have w2 : Sh 1 60 (PyData.str "outs") := ⟨rfl, Nat.zero_le _, by decide +kernel⟩
  have i0 : Sh 1 60 (.int 0) := i60 (by decide)
  simp only [ll (show List.length [_, _, _, _, _] ≤ 1000 by simp) (show List.length [_, _, _, _, _] ≤ 1000 by simp), Option.map_some, Res.opt_some, Tr.ok, Option.bind_some, peek_t]
  simp only [List.cons_append, List.nil_append]
  simp only [ll (show List.length [_, _, _, _, _, _, _, _, _, _] ≤ 1000 by simp) (show List.length [_, _] ≤ 1000 by simp), Option.map_some, Res.opt_some, Tr.ok, Option.bind_some, peek_t]
  simp only [List.cons_append, List.nil_append]
  generalize hN : ([_, _, _, _, _, _, _, _, _, _, _, _] : List D) = N
  have nN : N.length = 12 := by rw [← hN]; rfl
  have qN : ∀ y ∈ N, It y := fun y hy => by
    rw [← hN] at hy
    simp only [List.mem_cons, List.not_mem_nil, or_false] at hy
    rcases hy with rfl | rfl | rfl | rfl | rfl | rfl | rfl | rfl | rfl | rfl | rfl | rfl
    · exact iF
    · exact it_t (q4 (i60 (by omega)) wo i0 i0) (by simp)
    · exact it_t (q4 i0 w2 i0 i0) (by simp)
    · exact it_t (q4 i0 wo i0 (i60 (by omega))) (by simp)
    · exact it_t (q4 i0 wo (i60 (by decide)) i0) (by simp)
    · exact it_t (q4 ib wo i0 i0) (by simp)
    · exact it_t (q4 i0 ws i0 ib) (by simp)
    · exact it_t (q_cut (q4 (i60 (by omega)) wo (i60 (by omega)) (i60 (by omega)))) (Nat.le_trans cutl (by simp))
    · exact it_t (q_cons (i60 (by omega)) (q4 wo (i60 (by omega)) (i60 (by omega)) i0)) (by simp)
    · exact it_l (q4 (i60 (by omega)) wo (i60 (by omega)) (i60 (by omega))) (by simp)
    · exact it_t (q4 (i60 (by decide)) wo i0 i0) (by simp)
    · exact it_t (q4 i0 i0 i0 i0) (by simp)
  clear hN
  have th : thaw (W.t (PyData.list N)) hC = .ok (.list N) hC := rfl
  have sN : seqD (.list N) = some N := rfl
  have c3 := cutl (xs := F) (lo := none) (hi := some 3)
  have qF3 : ∀ y ∈ cutD F none (some 3), It y := q_cut qF
  simp only [th, Tr.ok, sN, Res.opt_some]
  rw [nox_ok (compL_map (g := fun x => PyData.tuple [.tuple H, .tuple (cutD F none (some 3) ++ [x])]) fun x _ => by
    have B1 : binD .add (.tuple (cutD F none (some 3))) (.tuple [x]) = some (.tuple (cutD F none (some 3) ++ [x])) := tt (by omega) (by simp)
    unfold compG
    simp [wipeW, B1, sl])]
  have qM : ∀ y ∈ N.map (fun x => PyData.tuple [.tuple H, .tuple (cutD F none (some 3) ++ [x])]), Sm y := fun y hy => by
    obtain ⟨x, hx, rfl⟩ := List.mem_map.mp hy
    exact sm_2 pH (pt_t (q_app qF3 (q_one (qN x hx))) (by simp; omega))
  have nM : (N.map (fun x => PyData.tuple [.tuple H, .tuple (cutD F none (some 3) ++ [x])])).length = 12 := by rw [List.length_map, nN]
  generalize N.map (fun x => PyData.tuple [.tuple H, .tuple (cutD F none (some 3) ++ [x])]) = M at qM nM ⊢
  have a1 := ll (xs := L) (ys := M) (by omega) (by omega)
  have a2 := fun u v => ll (xs := L ++ M) (ys := [u, v]) (by simp; omega) (by simp)
  have fz2 : ∀ {a b : D} {h : Hs}, frzs [.t a, .t b] h = some ([a, b], h) := rfl
  have tw : ∀ {a b : D} {h : Hs}, tupW [.t a, .t b] h = .ok (.t (.tuple [a, b])) h := rfl
  simp only [Tr.ok, pk, Option.bind_some, a1, a2, m4, m5, fz2, tw, Option.map_some, Res.opt_some, peek_t, fin_rt, Tr.ok]
  refine ⟨⟨_, rfl, by simp; omega, q_app (q_app q10 qM) (q_cons (sm_2 pH (pt_t (q_rep (q_one iF)) (by rw [rep_len]; simp))) (q_one (sm_2 pH (pt_t (q_rep (q_one iF)) (by rw [rep_len]; simp)))))⟩, fC.take⟩
/-! ### the law -/
theorem repr_sm {d : D} (h : Sm d) : biD .repr [d] = some (.str d.shown) := repr_ok h (by decide) (by decide)
theorem repr_bb {b : Bool} : biD .repr [.bool b] = some (.str (PyData.bool b).shown) := repr_ok (Sh.bl (b := b)) (by decide) (by decide)
theorem sm_odds : ∀ d ∈ odds, Sm d := fun d hd => by
  have : ∀ d ∈ odds, shI d = true := by decide +kernel
  exact (it_c (this d hd)).le (by decide) (by decide)
def E13 (ns : List Int) (e : Ev) : Prop := ∃ x1 x2 x3 x4 x5 x6 x7 x8 x9 x10 x11 x12, e = [some (.scr ns), x1, x2, x3, x4, x5, x6, x7, x8, x9, x10, x11, x12]
theorem law_tr {ns : List Int} (hl : ns.length ≤ 63) : Tr (callF cs (Prs ci.cl ds) 10 31 [.scr ns] []) (fun w _ => w = .t (.bool true)) := by
  refine callF_tr (d := d_law.fd) rfl rfl ?_
  obtain ⟨c, hc⟩ := cell_ok (k := 8) (ns := ns) (h := [])
  have hcut := cut_len' (xs := ns) (lo := some 1) (hi := some 3)
  simp [d_law, b_law, Tr.bind, Tr.ok, hc, add_ll (xs := [.int c]) (ys := (cutD ns (some 1) (some 3)).map .int) (by unfold lim; simp; omega), seqD]
  refine forL_tr (fun j e a => E13 ns e) ⟨_, _, _, _, _, _, _, _, _, _, _, _, rfl⟩ ?_ ?_
  · rintro j x _ a hj ⟨x1, x2, x3, x4, x5, x6, x7, x8, x9, x10, x11, x12, rfl⟩
    obtain ⟨i, rfl⟩ : ∃ i, x = .int i := by
      have := List.mem_of_getElem? hj
      simp at this
      rcases this with rfl | ⟨i, -, rfl⟩ <;> exact ⟨_, rfl⟩
    simp [forG, asgT, Tr.bind, Tr.ok]
    refine pen_tr.mono ?_
    rintro _ h2 ⟨rfl, p2⟩
    generalize List.length a = p at p2
    refine (vplant_tr p2).mono ?_
    rintro _ h3 ⟨⟨pl, op, rfl⟩, s3⟩
    refine (vstory_tr s3.pen op).mono ?_
    rintro _ h4 ⟨⟨s, os, rfl⟩, s4⟩
    have lc : ∀ h, callF cs (Prs ci.cl ds) 9 20 [.t pl.d, .t s.d] h = .ok (.t (matD (caps pl s))) h := fun h => l_caps_ok (k := 8) op os
    simp [asgW, Tr.bind, Tr.ok, lc]
    refine (stories_tr (k := 7) s4.pen op os).mono ?_
    rintro _ h5 ⟨⟨L, rfl, nL, qL⟩, s5⟩
    have h1 := os.h1
    have h8 := os.h8
    have b1 := op.b1
    have b4 := op.b4
    have ll : ∀ {xs ys : List D}, xs.length ≤ 1000 → ys.length ≤ 1000 → binD .add (.list xs) (.list ys) = some (.list (xs ++ ys)) := fun h1 h2 => add_ll (by unfold lim; omega)
    have fz1 : ∀ {a : D} {h : Hs}, frzs [.t a] h = some ([a], h) := fun {a} {h} => rfl
    have th : ∀ {N : List D} {h : Hs}, thaw (W.t (PyData.list N)) h = .ok (.list N) h := rfl
    have sN : ∀ {N : List D}, seqD (.list N) = some N := rfl
    have ssm : Sm s.d := (sto_sh os (by omega)).le (by decide) (by decide)
    have a1 := ll (xs := [s.d]) (ys := L) (by simp) (by omega)
    simp only [a1, Option.bind_some, peek_t, Option.map_some, Res.opt_some, Tr.ok]
    refine (odd_tr (k := 7) s5.pen).mono ?_
    rintro _ h6 ⟨⟨o, rfl, ho⟩, s6⟩
    have a2 := ll (xs := [s.d] ++ L) (ys := [o]) (by simp; omega) (by simp)
    have q2 : ∀ y ∈ [s.d] ++ L ++ [o], Sm y := q_app (q_app (q_one ssm) qL) (q_one (sm_odds _ ho))
    have p6 := s6.pen
    simp only [a2, fz1, Option.bind_some, peek_t, Option.map_some, Res.opt_some, Tr.ok, th, sN]
    generalize [s.d] ++ L ++ [o] = L2 at q2 ⊢
    refine forL_tr (fun j e a => (∃ t6 t7 t8 t9 t10 t11 t12, e = [some (.scr ns), some (.t (.int i)), some (.ref p), some (.t pl.d), some (.t s.d), some (.t (matD (caps pl s))), t6, t7, t8, t9, t10, t11, t12]) ∧ Pen p a) ⟨⟨_, _, _, _, _, _, _, rfl⟩, p6⟩ ?_ ?_
    · rintro j x _ a hj ⟨⟨t6, t7, t8, t9, t10, t11, t12, rfl⟩, pa⟩
      have hx := q2 _ (List.mem_of_getElem? hj)
      have e1 := fun h => p_is_story_ok (k := 3) (d := x) (h := h) op
      have e2 := fun h => l_is_story_t (k := 6) (p := pl) (d := x) (h := h)
      simp [forG, asgT, asgW, Tr.bind, Tr.ok, repr_sm hx, e1, e2, repr_bb, ne_same]
      exact pa
    rintro _ a ⟨⟨t6, t7, t8, t9, t10, t11, t12, rfl⟩, pa⟩
    have cl : (caps pl s).length = s.hs.length := by simp [caps]
    have c9 := caps9 (s := s) op
    simp [asgW, Tr.bind, Tr.ok]
    refine (vfir_tr (k := 7) pa (by omega) c9).mono ?_
    rintro _ h7 ⟨⟨F, of, rfl⟩, s7⟩
    have rg : ∀ {f : List (List Int)}, FirOk (caps pl s) f → (∀ r ∈ f, r.length = pl.bs.length) ∧ ∀ r ∈ f, ∀ x ∈ r, 0 ≤ x ∧ x ≤ 9 := fun {f} of => by
      have : ∀ r ∈ f, r.length = pl.bs.length ∧ ∀ x ∈ r, 0 ≤ x ∧ x ≤ 9 := fun r hr => by
        obtain ⟨b, hb, ro⟩ := of.mem r hr
        obtain ⟨hh, -, rfl⟩ := List.mem_map.mp hb
        refine ⟨by rw [ro.len]; simp, fun x hx => ?_⟩
        obtain ⟨i, hi, e⟩ := List.getElem_of_mem hx
        obtain ⟨c, ec, c0, c1⟩ := ro.at (show r[i]? = some x by rw [List.getElem?_eq_getElem hi, e])
        obtain ⟨b, -, rfl⟩ := List.mem_map.mp (List.mem_of_getElem? ec)
        have := capI_rng (s := s) op hh b
        omega
      exact ⟨fun r hr => (this r hr).1, fun r hr => (this r hr).2⟩
    obtain ⟨r1, r2⟩ := rg of
    obtain ⟨r3, r4⟩ := rg (caps_fir op)
    have lF := fir_len of
    simp [asgW, Tr.bind, Tr.ok]
    refine (firings_tr (k := 7) s7.pen (by omega) (by omega) r1 b1 b4 r2).mono ?_
    rintro _ h8' ⟨⟨M1, rfl, nM1, qM1⟩, s8⟩
    have fsm : Sm (matD F) := (fir_sh op os of).le (by decide) (by decide)
    have csm : Sm (matD (caps pl s)) := (caps_sh op os).le (by decide) (by decide)
    have a3 := ll (xs := [matD F, matD (caps pl s)]) (ys := M1) (by simp) (by omega)
    simp only [a3, Option.bind_some, peek_t, Option.map_some, Res.opt_some, Tr.ok]
    refine (firings_tr (k := 7) s8.pen (by omega) (by omega) r3 b1 b4 r4).mono ?_
    rintro _ h9 ⟨⟨M2, rfl, nM2, qM2⟩, s9⟩
    have a4 := ll (xs := [matD F, matD (caps pl s)] ++ M1) (ys := M2) (by simp; omega) (by omega)
    simp only [a4, Option.bind_some, peek_t, Option.map_some, Res.opt_some, Tr.ok]
    refine (odd_tr (k := 7) s9.pen).mono ?_
    rintro _ hA ⟨⟨o2, rfl, ho2⟩, sA⟩
    have a5 := ll (xs := [matD F, matD (caps pl s)] ++ M1 ++ M2) (ys := [o2]) (by simp; omega) (by simp)
    have q5 : ∀ y ∈ [matD F, matD (caps pl s)] ++ M1 ++ M2 ++ [o2], Sm y := q_app (q_app (q_app (q_cons fsm (q_one csm)) qM1) qM2) (q_one (sm_odds _ ho2))
    have pA := sA.pen
    simp only [a5, fz1, Option.bind_some, peek_t, Option.map_some, Res.opt_some, Tr.ok, th, sN]
    generalize [matD F, matD (caps pl s)] ++ M1 ++ M2 ++ [o2] = L3 at q5 ⊢
    refine forL_tr (fun j e a => (∃ t6 t7 t8 t9 t10 t11 t12, e = [some (.scr ns), some (.t (.int i)), some (.ref p), some (.t pl.d), some (.t s.d), some (.t (matD (caps pl s))), t6, t7, t8, t9, t10, t11, t12]) ∧ Pen p a) ⟨⟨_, _, _, _, _, _, _, rfl⟩, pA⟩ ?_ ?_
    · rintro j x _ a hj ⟨⟨t6, t7, t8, t9, t10, t11, t12, rfl⟩, pa⟩
      have hx := q5 _ (List.mem_of_getElem? hj)
      have e1 := fun h => p_is_firing_ok (k := 2) (d := x) (h := h) op os
      have e2 := fun h => l_is_firing_ok (k := 7) (cp := caps pl s) (d := x) (h := h)
      simp [forG, asgT, asgW, Tr.bind, Tr.ok, repr_sm hx, e1, e2, repr_bb, ne_same]
      exact pa
    rintro _ a ⟨⟨t6, t7, t8, t9, t10, t11, t12, rfl⟩, pa⟩
    have ep : pl.d = .tuple [.tuple (pl.bs.map boD), .tuple (pl.es.map enD), pl.mD] := rfl
    have es : s.d = .tuple [.tuple (s.hs.map .int), .tuple (s.fs.map flD)] := rfl
    have b1 : slD pl.d none (some 2) = some (.tuple [.tuple (pl.bs.map boD), .tuple (pl.es.map enD)]) := rfl
    have b2 : biD .list [pl.d] = some (.list [.tuple (pl.bs.map boD), .tuple (pl.es.map enD), pl.mD]) := rfl
    have b3 : binD .add pl.d (.tuple [.int 0]) = some (.tuple [.tuple (pl.bs.map boD), .tuple (pl.es.map enD), pl.mD, .int 0]) := add_tt (by unfold lim; simp)
    have b4 : biD .list [s.d] = some (.list [.tuple (s.hs.map .int), .tuple (s.fs.map flD)]) := rfl
    have b5 : slD s.d none (some 1) = some (.tuple [.tuple (s.hs.map .int)]) := rfl
    simp [asgW, Tr.bind, Tr.ok, b1, b2, b3]
    generalize hB : ([_, _, _, _, _] : List D) = B
    have qB : ∀ y ∈ B, plantB y = false := fun y hy => by
      rw [← hB] at hy
      simp only [List.mem_cons, List.not_mem_nil, or_false] at hy
      rcases hy with rfl | rfl | rfl | rfl | rfl <;> rfl
    clear hB
    refine forL_tr (fun j e a => (∃ t6 t7 t8 t9 t10 t11 t12, e = [some (.scr ns), some (.t (.int i)), some (.ref p), some (.t pl.d), some (.t s.d), some (.t (matD (caps pl s))), t6, t7, t8, t9, t10, t11, t12]) ∧ Pen p a) ⟨⟨_, _, _, _, _, _, _, rfl⟩, pa⟩ ?_ ?_
    · rintro j x _ a hj ⟨⟨t6, t7, t8, t9, t10, t11, t12, rfl⟩, pa⟩
      have hx := qB _ (List.mem_of_getElem? hj)
      have e1 := fun h => said_sp (k := 2) (d := x) (e := .none) (h := h) hx
      have e2 := fun h => said_fp (k := 1) (d := x) (e := .none) (f := .none) (h := h) hx
      have f1 : Fr p a (a ++ [Ob.lst [.tuple [.str "plant"]]]) := (Fr.refl pa).app
      simp [forG, asgT, asgW, Tr.bind, Tr.ok, e1, e2]
      have mu : binD .mul (.list [PyData.tuple [.str "plant"]]) (.int 2) = some (.list [PyData.tuple [.str "plant"], .tuple [.str "plant"]]) := rfl
      have cm : cmpD .ne (.list [PyData.tuple [.str "plant"], .tuple [.str "plant"]]) (.list [PyData.tuple [.str "plant"], .tuple [.str "plant"]]) = some false := by decide +kernel
      rw [mtW_app get_app (by decide)]
      have g1 : Pen p ((a ++ [Ob.lst [PyData.tuple [.str "plant"]]]).set a.length (.lst ([PyData.tuple [.str "plant"]] ++ [.tuple [.str "plant"]]))) := (f1.set (Nat.le_refl _)).pen
      have g2 : ((a ++ [Ob.lst [PyData.tuple [.str "plant"]]]).set a.length (.lst ([PyData.tuple [.str "plant"]] ++ [.tuple [.str "plant"]])))[a.length]? = some (.lst ([PyData.tuple [.str "plant"]] ++ [.tuple [.str "plant"]])) := by simp
      generalize (a ++ [Ob.lst [PyData.tuple [.str "plant"]]]).set a.length (.lst ([PyData.tuple [.str "plant"]] ++ [.tuple [.str "plant"]])) = b at g1 g2 ⊢
      have pk := peek_lst g2
      simp only [List.cons_append, List.nil_append] at pk
      simp [Tr.bind, Tr.ok, mu, pk, cm]
      exact g1
    rintro _ a ⟨⟨t6, t7, t8, t9, t10, t11, t12, rfl⟩, pa⟩
    simp [asgW, Tr.bind, Tr.ok, b4, b5]
    generalize hB : ([_, _, _, _] : List D) = B
    have qB : ∀ y ∈ B, storyB pl.bs.length y = false := fun y hy => by
      rw [← hB] at hy
      simp only [List.mem_cons, List.not_mem_nil, or_false] at hy
      rcases hy with rfl | rfl | rfl | rfl <;> rfl
    clear hB
    refine forL_tr (fun j e a => ∃ t6 t7 t8 t9 t10 t11 t12, e = [some (.scr ns), some (.t (.int i)), some (.ref p), some (.t pl.d), some (.t s.d), some (.t (matD (caps pl s))), t6, t7, t8, t9, t10, t11, t12]) ⟨_, _, _, _, _, _, _, rfl⟩ ?_ ?_
    · rintro j x _ a hj ⟨t6, t7, t8, t9, t10, t11, t12, rfl⟩
      have hx := qB _ (List.mem_of_getElem? hj)
      have e1 := fun h => said_fs (k := 1) (e := x) (f := .none) (h := h) op hx
      have cm : cmpD .ne (PyData.tuple [.str "story"]) (.tuple [.str "story"]) = some false := by decide +kernel
      simp [forG, asgT, asgW, Tr.bind, Tr.ok, e1, cm]
    · rintro _ a ⟨t6, t7, t8, t9, t10, t11, t12, rfl⟩
      simp [Tr.ok]
      exact ⟨_, _, _, _, _, _, _, _, _, _, _, _, rfl⟩
  · rintro e a ⟨x1, x2, x3, x4, x5, x6, x7, x8, x9, x10, x11, x12, rfl⟩
    simp [Tr.ok, fin]
theorem math : ∀ ns : List Int, ns.length ≤ 63 → ∃ h, callF cs (Prs ci.cl ds) 10 31 [.scr ns] [] = .ok (.t (.bool true)) h := fun ns hl => by
  obtain ⟨w, h, e, rfl⟩ := Tr.eq.mp (law_tr hl)
  exact ⟨h, e⟩
end K02

set_option Elab.async false
set_option linter.all false
set_option maxRecDepth 100000
set_option maxHeartbeats 0
open PySem PySem.W PySem.Calls PyProof.Rows
theorem PySem.Challenge.cw_mainfires_k02_stories_and_firings_known_holds : PySem.Challenge.rw_mainfires_k02_stories_and_firings_known.Holds := by
  w_on; o_law
  refine HandSHeadRun.head_any (r := K02.R) (q := K02.qv) (H := K02.hk) (ob := K02.ob) (M := 8000) (loose := K02.names) (d := HandSHeadRun.topDef K02.R.prog 61) (kwd := []) MF.obS_eq
    (by kernel_rfl) (fun s => by kernel_rfl) K02.run (by kernel_rfl) (by kernel_rfl) (by kernel_rfl) (by rfl) (by first | assumption | decide +kernel) (by decide +kernel) ⟨rfl, rfl, rfl, rfl, rfl, by decide +kernel⟩ ?hw ?hc
  case hw => w_witness2
  case hc =>
    exact MF.walk_mfs (n := 63) (k := 10) (i := 31) (x := "_law_script") (ci := K02.ci) (cs := K02.cs) (ds := K02.ds) (rl := K02.d_law) (rs := K02.d_law_said) (rw := K02.d_law_kind) rfl (by decide) (by kernel_rfl) ⟨rfl, by decide, by decide⟩ rfl K02.ok_all K02.bd_all rfl (by kernel_rfl) rfl (List.mem_of_getElem? (i := 24) rfl) (List.mem_of_getElem? (i := 23) rfl) (by kernel_rfl) K02.math

