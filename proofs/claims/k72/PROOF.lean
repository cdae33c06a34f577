import PyProof.Rows.All
import Wide.All
import OpenK.AllK
import Wide.FinOn
import HandS.ForMost
import HandS.TupAny
import HandS.TupLen
import HandS.IsInst
import KE.KDictKeyed
import KE.DataEq
import KE.DataCmp
import KE.SortData
import KE.SortKeyHeap
import HandS.SetFor
import HandS.SetKeys
import HandS.Codes
import HandS.Iter
import HandS.Comp
import HandS.Defaults
import HandS.Ends
import HandS.HeadHook2
import HandS.Head2
import HandS.HeadEnd
import KE.KStateDown
import PySem.Challenge.RW_tapestride_k72_counts_of_runs
set_option Elab.async false
set_option linter.all false
set_option autoImplicit false
set_option maxRecDepth 100000
namespace Dv
open PySem L2

/-- the data that pass between the parts of the program -/
abbrev D := PyData
abbrev D.int (i : Int) : D := PyData.int i

/-- how a slot holds its datum: for ever; as the one who may change it; as a parameter that may be changed; lent -/
inductive Fl where
  | imm | own | par | len | ext
  deriving DecidableEq

abbrev Sl := Option (Fl × D)
abbrev En := List Sl

def sl (env : En) (i : Nat) : Sl := (env[i]?).getD none
def getV (env : En) (i : Nat) : Option D := match sl env i with | some (.imm, d) => some d | _ => none
def getP (env : En) (i : Nat) : Option D := match sl env i with
  | some (.ext, _) => none
  | some (_, d) => some d
  | _ => none
/-- a list from outside -/
def getX (env : En) (i : Nat) : Option (List D) := match sl env i with
  | some (.ext, .list ds) => some ds
  | _ => none
/-- a store to a name: what is lent, and a parameter that is changed, stand -/
def setV (env : En) (i : Nat) (f : Fl) (d : D) : Option En := match env[i]? with
  | some (some (.len, _)) => none
  | some (some (.par, _)) => none
  | some (some (.ext, _)) => none
  | some _ => some (env.set i (some (f, d)))
  | none => none
/-- the content of what slot i owns -/
def getO (env : En) (i : Nat) : Option D := match sl env i with
  | some (.own, d) => some d
  | some (.par, d) => some d
  | _ => none
def setC (env : En) (i : Nat) (d : D) : Option En := match sl env i with
  | some (.own, _) => some (env.set i (some (.own, d)))
  | some (.par, _) => some (env.set i (some (.par, d)))
  | _ => none

/-! ### operations on data -/
def szOk (n : Nat) : Bool := decide (n ≤ 16777216)
mutual
/-- no dict within, not deeper than n -/
def dOk : D → Nat → Bool
  | .none, _ => true
  | .bool _, _ => true
  | .int _, _ => true
  | .str _, _ => true
  | .list xs, n => decide (0 < n) && dOkAll xs (n - 1)
  | .tuple xs, n => decide (0 < n) && dOkAll xs (n - 1)
  | .dict _, _ => false
def dOkAll : List D → Nat → Bool
  | [], _ => true
  | x :: xs, n => dOk x n && dOkAll xs n
end
abbrev pln (d : D) : Bool := dOk d 40
/-- the kinds of keys: numbers and texts; tuples -/
def kind : D → Option Bool
  | .int _ => some false
  | .str _ => some false
  | .tuple xs => if dOk (.tuple xs) 7 && noList (.tuple xs) then some true else none
  | _ => none
where
  noList : D → Bool
  | .list _ => false
  | .tuple xs => noLists xs
  | _ => true
  noLists : List D → Bool
  | [] => true
  | x :: xs => noList x && noLists xs
mutual
/-- a key's own kind -/
def nk : D → NestedKey
  | .none => .none
  | .bool b => .num (if b = true then 1 else 0)
  | .int i => .num i
  | .str x => .text x
  | .tuple ds => .tup (nks ds)
  | .list _ => .none
  | .dict _ => .none
def nks : List D → List NestedKey
  | [] => []
  | d :: ds => nk d :: nks ds
end
def kOk (kvs : List (D × D)) (k : D) : Bool := (kind k).isSome && (match kvs with | [] => true | p :: _ => decide (kind p.1 = kind k))
/- told by natAbs: a symbolic number is not taken apart by the kernel -/
def mulOk (i j : Int) : Bool := decide (i.natAbs < 18446744073709551616) || decide (j.natAbs < 18446744073709551616)
theorem mulOk_of {i j : Int} (h : mulOk i j = true) : (-(2 ^ 64) < i ∧ i < 2 ^ 64) ∨ (-(2 ^ 64) < j ∧ j < 2 ^ 64) := by
  unfold mulOk at h
  rw [Bool.or_eq_true, decide_eq_true_eq, decide_eq_true_eq] at h
  rcases h with h | h
  · exact .inl (by omega)
  · exact .inr (by omega)
def smallI (i : Int) : Bool := decide (i.natAbs < 4611686018427387904)
theorem smallI_of {i : Int} (h : smallI i = true) : -(2 ^ 62) ≤ i ∧ i < 2 ^ 62 := by
  unfold smallI at h
  rw [decide_eq_true_eq] at h
  omega

inductive Op2 where
  | add | sub | mul | fdiv | mod | pow
  deriving DecidableEq
def addD : D → D → Option D
  | .int i, .int j => some (.int (i + j))
  | .str x, .str y => if szOk (x.length + y.length) then some (.str (x ++ y)) else none
  | .list x, .list y => if szOk (x.length + y.length) then some (.list (x ++ y)) else none
  | .tuple x, .tuple y => if szOk (x.length + y.length) then some (.tuple (x ++ y)) else none
  | _, _ => none
def repD (x : List D) : D → Option D
  | .int k => if szOk (x.length * k.toNat) && smallI k then some (.list (List.replicate k.toNat x).flatten) else none
  | _ => none
def subD : D → D → Option D
  | .int i, .int j => some (.int (i - j))
  | _, _ => none
def mulD : D → D → Option D
  | .int i, .int j => if mulOk i j then some (.int (i * j)) else none
  | _, _ => none
def fdivD : D → D → Option D
  | .int i, .int j => if decide (0 < j) && decide (j.natAbs < 1073741824) then some (.int (i / j)) else none
  | _, _ => none
def modD : D → D → Option D
  | .int i, .int j => if decide (0 < j) then some (.int (i % j)) else none
  | _, _ => none
def powD : D → D → Option D
  | .int i, .int j => if decide (0 ≤ j) && decide (j ≤ 100) && decide (i.natAbs < 2 ^ 64) then some (.int (i ^ j.toNat)) else none
  | _, _ => none
def op2 : Op2 → D → D → Option D
  | .add => addD
  | .sub => subD
  | .mul => mulD
  | .fdiv => fdivD
  | .mod => modD
  | .pow => powD
def negD : D → Option D
  | .int i => some (.int (-i))
  | _ => none

def dHas (kvs : List (D × D)) (k : D) : Bool := kvs.any fun p => PyData.eqv p.1 k
def dGet (kvs : List (D × D)) (k : D) : Option D := (kvs.find? fun p => PyData.eqv p.1 k).map (·.2)
def dPut (kvs : List (D × D)) (k v : D) : List (D × D) := if dHas kvs k = true then kvs.map (fun p => if PyData.eqv p.1 k = true then (p.1, v) else p) else kvs ++ [(k, v)]
def inStr (x y : Str) : Bool := !(Builtin.Str.occurrences y x 0 y.length 1).isEmpty
/-- x in c -/
def inD : D → D → Option Bool
  | x, .list ys => if pln x && dOkAll ys 40 then some (ys.any fun y => PyData.eqv y x) else none
  | x, .tuple ys => if pln x && dOkAll ys 40 then some (ys.any fun y => PyData.eqv y x) else none
  | .str x, .str y => some (inStr x y)
  | x, .dict kvs => if kOk kvs x then some (dHas kvs x) else none
  | _, _ => none
def ordOk (x y : D) : Bool := W.alike x y && pln x && pln y && (match x with | .none => false | _ => true)
def isNone : D → Bool
  | .none => true
  | _ => false
inductive Cm where
  | eq | ne | lt | le | gt | ge | isin | notin | isN | notN
  deriving DecidableEq
def cmp2 : Cm → D → D → Option Bool
  | .eq, x, y => if pln x && pln y then some (PyData.eqv x y) else none
  | .ne, x, y => if pln x && pln y then some (!PyData.eqv x y) else none
  | .lt, x, y => if ordOk x y then some (W.dataLt x y) else none
  | .gt, x, y => if ordOk x y then some (W.dataLt y x) else none
  | .le, x, y => if ordOk x y then some (!W.dataLt y x) else none
  | .ge, x, y => if ordOk x y then some (!W.dataLt x y) else none
  | .isin, x, y => inD x y
  | .notin, x, y => (inD x y).map (!·)
  | .isN, x, .none => some (isNone x)
  | .notN, x, .none => some (!isNone x)
  | _, _, _ => none

def idxD : D → D → Option D
  | .list xs, .int i => (ixN xs.length i).bind fun k => xs[k]?
  | .tuple xs, .int i => (ixN xs.length i).bind fun k => xs[k]?
  | .str x, .int i => if szOk x.length then (ixN x.cps.toList.length i).bind fun k => (x.cps.toList[k]?).map fun c => .str ⟨#[c]⟩ else none
  | .dict kvs, k => if kOk kvs k then dGet kvs k else none
  | _, _ => none
def cutL {α : Type} (xs : List α) (lo hi : Option Int) : List α := (xs.drop (HT.sIx xs.length 0 lo)).take (HT.sIx xs.length xs.length hi - HT.sIx xs.length 0 lo)
def cutD : D → Option Int → Option Int → Option D
  | .list xs, lo, hi => some (.list (cutL xs lo hi))
  | .tuple xs, lo, hi => some (.tuple (cutL xs lo hi))
  | .str x, lo, hi => if szOk x.length then some (.str ⟨(cutL x.cps.toList lo hi).toArray⟩) else none
  | _, _, _ => none
/-- o[i] = v -/
def putD : D → D → D → Option D
  | .list xs, .int i, v => (ixN xs.length i).map fun k => .list (xs.set k v)
  | .dict kvs, k, v => if kOk kvs k && szOk (kvs.length + 1) then some (.dict (dPut kvs k v)) else none
  | _, _, _ => none

inductive Ty where
  | tup | list | int | bool | str
  deriving DecidableEq
def isTy : Ty → D → Bool
  | .tup, .tuple _ => true
  | .list, .list _ => true
  | .int, .int _ => true
  | .int, .bool _ => true
  | .bool, .bool _ => true
  | .str, .str _ => true
  | _, _ => false

def signs (x : Str) : List D := x.cps.toList.map fun c => .str ⟨#[c]⟩
/-- what a for walks -/
def itemsD : D → Option (List D)
  | .list xs => some xs
  | .tuple xs => some xs
  | .str x => some (signs x)
  | .dict kvs => some (kvs.map (·.1))
  | _ => none
def intsOf : List D → Option (List Int)
  | [] => some []
  | .int i :: r => (intsOf r).map (i :: ·)
  | _ => none
def strsOf : List D → Option (List Str)
  | [] => some []
  | .str x :: r => (strsOf r).map (x :: ·)
  | _ => none
def boolsOf : List D → Option (List Bool)
  | [] => some []
  | .bool b :: r => (boolsOf r).map (b :: ·)
  | _ => none
def pairsOf : List D → Option (List (D × D))
  | [] => some []
  | .tuple [k, v] :: r => (pairsOf r).map ((k, v) :: ·)
  | _ => none
def pairUp : List D → Option (List (D × D))
  | [] => some []
  | k :: v :: r => (pairUp r).map ((k, v) :: ·)
  | _ => none
/-- dict(pairs) -/
def dFill : List (D × D) → List (D × D) → Option (List (D × D))
  | acc, [] => some acc
  | acc, (k, v) :: r => if kOk acc k then dFill (dPut acc k v) r else none
def maxI : Int → List Int → Int
  | m, [] => m
  | m, x :: r => maxI (if x > m then x else m) r
def minI : Int → List Int → Int
  | m, [] => m
  | m, x :: r => minI (if x < m then x else m) r
/-- what sorted takes -/
def srtOk (xs : List D) : Bool := (xs.all fun x => xs.all fun y => W.alike x y) && dOkAll xs 40 &&
  ((xs.all fun x => match x with | .tuple (_ :: _) => true | _ => false) || (xs.all fun x => match x with | .tuple _ => false | .none => false | _ => true))
def srtD (xs : List D) : List D := xs.mergeSort (W.dataLe false id)

/-- sorted(set(xs)) of whole numbers, of texts -/
def scal : D → Bool
  | .int _ => true
  | .str _ => true
  | _ => false
def uqD (xs : List D) : List D := xs.foldl (fun acc x => if (acc.any fun y => PyData.eqv y x) = true then acc else x :: acc) []
def setOk (xs : List D) : Bool := xs.all scal && srtOk xs && decide (xs.length < 4000)
def ssetD : D → Option D
  | .list xs => if setOk xs then some (.list (srtD (uqD xs))) else none
  | .tuple xs => if setOk xs then some (.list (srtD (uqD xs))) else none
  | _ => none

inductive Blt where
  | len | int | abs | tuple | list | sum | min | max | min2 | max2 | all | sorted | dict
  deriving DecidableEq
def lenD : List D → Option D
  | [.list xs] => some (.int xs.length)
  | [.tuple xs] => some (.int xs.length)
  | [.str x] => if szOk x.length then some (.int x.length) else none
  | [.dict kvs] => some (.int kvs.length)
  | _ => none
def intD : List D → Option D
  | [.int i] => some (.int i)
  | [.bool b] => some (.int (if b then 1 else 0))
  | _ => none
def absD : List D → Option D
  | [.int i] => some (.int (if i < 0 then -i else i))
  | _ => none
def tupleD : List D → Option D
  | [.list xs] => some (.tuple xs)
  | [.tuple xs] => some (.tuple xs)
  | _ => none
def listD : List D → Option D
  | [.list xs] => some (.list xs)
  | [.tuple xs] => some (.list xs)
  | _ => none
def sumD : List D → Option D
  | [.list xs] => (intsOf xs).map fun ns => .int ns.sum
  | _ => none
def maxD : List D → Option D
  | [.list xs] => (intsOf xs).bind fun ns => match ns with
    | m :: ns => some (.int (maxI m ns))
    | [] => none
  | _ => none
def minD : List D → Option D
  | [.list xs] => (intsOf xs).bind fun ns => match ns with
    | m :: ns => some (.int (minI m ns))
    | [] => none
  | _ => none
def max2D : List D → Option D
  | [.int i, .int j] => some (.int (if j > i then j else i))
  | _ => none
def min2D : List D → Option D
  | [.int i, .int j] => some (.int (if j < i then j else i))
  | _ => none
def allD : List D → Option D
  | [.list xs] => (boolsOf xs).map fun bs => .bool (bs.all id)
  | _ => none
def sortedD : List D → Option D
  | [.list xs] => if srtOk xs then some (.list (srtD xs)) else none
  | _ => none
def dictD : List D → Option D
  | [.list xs] => (pairsOf xs).bind fun ps => if (ps.all fun q => decide (kind q.1 = some false)) = true then (dFill [] ps).map .dict else none
  | _ => none
def blt : Blt → List D → Option D
  | .len => lenD
  | .int => intD
  | .abs => absD
  | .tuple => tupleD
  | .list => listD
  | .sum => sumD
  | .max => maxD
  | .min => minD
  | .max2 => max2D
  | .min2 => min2D
  | .all => allD
  | .sorted => sortedD
  | .dict => dictD
/-- methods that read -/
inductive Met where
  | index | get | join | endswith
  deriving DecidableEq
def indexD : D → List D → Option D
  | .list xs, [y] => if pln y && dOkAll xs 40 then (xs.findIdx? fun x => PyData.eqv x y).map fun k => .int (k : Nat) else none
  | .tuple xs, [y] => if pln y && dOkAll xs 40 then (xs.findIdx? fun x => PyData.eqv x y).map fun k => .int (k : Nat) else none
  | _, _ => none
def getD' : D → List D → Option D
  | .dict kvs, [k] => if kOk kvs k then some ((dGet kvs k).getD .none) else none
  | .dict kvs, [k, v] => if kOk kvs k then some ((dGet kvs k).getD v) else none
  | _, _ => none
def joinD : D → List D → Option D
  | .str s, [.list xs] => (strsOf xs).bind fun ys => if szOk ((ys.map (·.length)).sum + ys.length * s.length) then some (.str (Str.join s ys)) else none
  | .str s, [.tuple xs] => (strsOf xs).bind fun ys => if szOk ((ys.map (·.length)).sum + ys.length * s.length) then some (.str (Str.join s ys)) else none
  | _, _ => none
def endswithD : D → List D → Option D
  | .str a, [.str b] => some (.bool (Txt.endswith a b))
  | _, _ => none
def met : Met → D → List D → Option D
  | .index => indexD
  | .get => getD'
  | .join => joinD
  | .endswith => endswithD
def metTy : Met → D → Bool
  | .index, .list _ => true
  | .get, .dict _ => true
  | .join, .str _ => true
  | .endswith, .str _ => true
  | _, _ => false
/-- methods that change their receiver: the value, the content -/
inductive Mu where
  | append | extend | pop | setdefault
  deriving DecidableEq
def appendD : D → List D → Option (D × D)
  | .list xs, [y] => if szOk (xs.length + 1) then some (.none, .list (xs ++ [y])) else none
  | _, _ => none
def extendD : D → List D → Option (D × D)
  | .list xs, [.list ys] => if szOk (xs.length + ys.length) then some (.none, .list (xs ++ ys)) else none
  | _, _ => none
def popD : D → List D → Option (D × D)
  | .list xs, [] => (xs[xs.length - 1]?).map fun y => (y, .list xs.dropLast)
  | _, _ => none
def setdefaultD : D → List D → Option (D × D)
  | .dict kvs, [k, v] => if kOk kvs k && szOk (kvs.length + 1) then some ((dGet kvs k).getD v, .dict (if dHas kvs k then kvs else kvs ++ [(k, v)])) else none
  | _, _ => none
def mutD : Mu → D → List D → Option (D × D)
  | .append => appendD
  | .extend => extendD
  | .pop => popD
  | .setdefault => setdefaultD

def muTy : Mu → D → Bool
  | .setdefault, .dict _ => true
  | .append, .list _ => true
  | .extend, .list _ => true
  | .pop, .list _ => true
  | _, _ => false
/-- op= at a name, at a place -/
def augD : Op2 → D → D → Option D
  | .add, .int i, .int j => some (.int (i + j))
  | .add, .str x, .str y => if szOk (x.length + y.length) then some (.str (x ++ y)) else none
  | .sub, .int i, .int j => some (.int (i - j))
  | .mul, .int i, .int j => if mulOk i j then some (.int (i * j)) else none
  | .fdiv, .int i, .int j => fdivD (.int i) (.int j)
  | .mod, .int i, .int j => modD (.int i) (.int j)
  | _, _, _ => none
/-! ### expressions -/
inductive Tg where
  | n (i : Nat)
  | t (l : List Tg)
inductive IE where
  | non | bool (b : Bool) | int (i : Int) | str (s : Str)
  | v (i : Nat) | pl (i : Nat) | fz (i : Nat)
  | ow (i : Nat) | le (i : Nat) | ex (i : Nat) | lenX (i : Nat) | idxX (i : Nat) (b : IE)
  | tup (es : List IE) | lst (es : List IE) | dct (es : List IE)
  | op (o : Op2) (a b : IE) | neg (a : IE) | not (a : IE) | and (a b : IE) | or (a b : IE)
  | cmp (o : Cm) (a b : IE) | chain (o o' : Cm) (a b c : IE) | ite (c a b : IE)
  | idx (a b : IE) | cut (a : IE) (lo hi : Option IE)
  | isi (a : IE) (t : Ty)
  | blt (b : Blt) (es : List IE) | met (m : Met) (a : IE) (es : List IE) | mu (m : Mu) (i : Nat) (es : List IE)
  | rng (es : List IE) | rep (es : List IE) (a : IE)
  | call (f : Nat) (es : List IE)
  | lc (elt : IE) (tg : Tg) (it : IE) (ifs : List IE) (own : List Nat)
  | sset (a : IE)

mutual
def bindT : Tg → D → En → Option En
  | .n i, d, e => setV e i .imm d
  | .t ts, .tuple ds, e => bindTs ts ds e
  | .t _, _, _ => none
def bindTs : List Tg → List D → En → Option En
  | [], [], e => some e
  | t :: ts, d :: ds, e => (bindT t d e).bind fun e1 => bindTs ts ds e1
  | [], _ :: _, _ => none
  | _ :: _, [], _ => none
end

def wipeF (own : List Nat) (e : En) : En := own.foldr (fun i e => e.set i none) e
def wipeOk (own : List Nat) (e : En) : Bool := own.all fun i => match sl e i with
  | none => true
  | some (.imm, _) => true
  | _ => false
def unwipe (own : List Nat) (env e : En) : En := own.foldr (fun i e => e.set i (sl env i)) e
def lcL (f : D → En → Option (Option D × En)) (own : List Nat) : List D → En → Option (List D × En)
  | [], e => some ([], e)
  | d :: ds, e => (f d e).bind fun p => (lcL f own ds (wipeF own p.2)).map fun q => (p.1.toList ++ q.1, q.2)
/-- what is read late: a place -/
def rd : IE → En → D → Option D
  | .pl i, e, _ => getP e i
  | .ow _, _, _ => none
  | .le _, _, _ => none
  | .ex _, _, _ => none
  | _, _, x => some x
/-- what is told by its slot -/
def late : IE → Bool
  | .pl _ => true
  | .ow _ => true
  | .le _ => true
  | .ex _ => true
  | _ => false
def rdAll : List IE → En → List D → Option (List D)
  | a :: as, e, x :: xs => (rd a e x).bind fun y => (rdAll as e xs).map (y :: ·)
  | [], _, [] => some []
  | _, _, _ => none
/-- a walk's source: a place is lent -/
def lendI : IE → En → D → Option (List D × En)
  | .pl i, e, _ => match sl e i with
    | some (.imm, d) => (itemsD d).map (·, e)
    | some (.len, .list xs) => some (xs, e)
    | some (.own, .list xs) => some (xs, e.set i (some (.len, .list xs)))
    | some (.par, .list xs) => some (xs, e.set i (some (.len, .list xs)))
    | _ => none
  | _, e, x => (itemsD x).map (·, e)
def unlend : IE → En → En → En
  | .pl i, env, e => match sl env i with
    | some (.own, d) => e.set i (some (.own, d))
    | some (.par, d) => e.set i (some (.par, d))
    | _ => e
  | _, _, e => e
def rangeD : List D → Option (List D)
  | [.int n] => if smallI n && szOk n.toNat then some ((List.range n.toNat).map fun (k : Nat) => D.int (k : Int)) else none
  | [.int a, .int b] => if smallI a && smallI b && szOk (b - a).toNat then some ((List.range (b - a).toNat).map fun (k : Nat) => D.int (a + (k : Int))) else none
  | [.int a, .int b, .int c] => if decide (c ≠ 0) && decide (c.natAbs < 1073741824) && Builtin.Range.small a b c && decide (0 ≤ Builtin.Range.rangeSize a b c) && szOk (Builtin.Range.rangeSize a b c).toNat then some ((List.range (Builtin.Range.rangeSize a b c).toNat).map fun (k : Nat) => D.int (a + (k : Int) * c)) else none
  | _ => none

abbrev Fn := List (Fl × D) → Option ((Bool × D) × List D)
def argsC : List IE → List D → En → Option (List (Fl × D))
  | [], [], _ => some []
  | a :: as, x :: xs, e => (argsC as xs e).bind fun r => match a with
    | .ow i => (getO e i).map fun d => (Fl.own, d) :: r
    | .le i => match sl e i with
      | some (.imm, d) => some ((.imm, d) :: r)
      | some (.ext, _) => none
      | some (_, d) => some ((.len, d) :: r)
      | none => none
    | .ex i => (getX e i).map fun ds => (.ext, .list ds) :: r
    | .pl _ => none
    | _ => some ((Fl.imm, x) :: r)
  | _, _, _ => none
def backC : List IE → List D → En → Option En
  | [], [], e => some e
  | .ow i :: as, d :: ds, e => (setC e i d).bind fun e1 => backC as ds e1
  | .ow _ :: _, [], _ => none
  | _ :: as, ds, e => backC as ds e
  | [], _ :: _, _ => none
def ows : List IE → List Nat
  | [] => []
  | .ow i :: r => i :: ows r
  | _ :: r => ows r
def les : List IE → List Nat
  | [] => []
  | .le i :: r => i :: les r
  | _ :: r => les r
def apartOk (es : List IE) : Bool := decide (ows es).Nodup && (les es).all fun i => decide (i ∉ ows es)

mutual
def evE (Φ : Nat → Fn) : IE → En → Option (D × En)
  | .non, e => some (.none, e)
  | .bool b, e => some (.bool b, e)
  | .int i, e => some (.int i, e)
  | .str x, e => some (.str x, e)
  | .v i, e => (getV e i).map (·, e)
  | .pl i, e => (getP e i).map (·, e)
  | .fz i, e => match sl e i with
    | some (.own, d) => some (d, e.set i (some (.imm, d)))
    | some (.imm, d) => some (d, e)
    | _ => none
  | .ow i, e => (getO e i).map fun _ => (.none, e)
  | .le i, e => (getP e i).map fun _ => (.none, e)
  | .ex i, e => (getX e i).map fun _ => (.none, e)
  | .lenX i, e => (getX e i).map fun ds => (.int ds.length, e)
  | .idxX i b, e => (getX e i).bind fun _ => (evE Φ b e).bind fun p => (getX p.2 i).bind fun ds => match p.1 with
    | .int k => ((ixN ds.length k).bind fun j => ds[j]?).map (·, p.2)
    | _ => none
  | .tup es, e => (evEs Φ es e).map fun p => (.tuple p.1, p.2)
  | .lst es, e => (evEs Φ es e).map fun p => (.list p.1, p.2)
  | .dct es, e => (evEs Φ es e).bind fun p => (pairUp p.1).bind fun ps => if (ps.all fun q => decide (kind q.1 = some false)) = true then (dFill [] ps).map fun kvs => (.dict kvs, p.2) else none
  | .op o a b, e => (evE Φ a e).bind fun p => (evE Φ b p.2).bind fun q => (rd a q.2 p.1).bind fun x => (rd b q.2 q.1).bind fun y => (op2 o x y).map (·, q.2)
  | .neg a, e => (evE Φ a e).bind fun p => (negD p.1).map (·, p.2)
  | .not a, e => (evE Φ a e).bind fun p => match p.1 with
    | .bool b => some (.bool !b, p.2)
    | _ => none
  | .and a b, e => (evE Φ a e).bind fun p => match p.1 with
    | .bool true => evE Φ b p.2
    | .bool false => some (.bool false, p.2)
    | _ => none
  | .or a b, e => (evE Φ a e).bind fun p => match p.1 with
    | .bool false => evE Φ b p.2
    | .bool true => some (.bool true, p.2)
    | _ => none
  | .cmp o a b, e => (evE Φ a e).bind fun p => (evE Φ b p.2).bind fun q => (rd a q.2 p.1).bind fun x => (rd b q.2 q.1).bind fun y => (cmp2 o x y).map fun c => (.bool c, q.2)
  | .chain o o' a b c, e => (evE Φ a e).bind fun p => (evE Φ b p.2).bind fun q => (rd a q.2 p.1).bind fun x => (rd b q.2 q.1).bind fun y => (cmp2 o x y).bind fun t =>
      if t = true then (evE Φ c q.2).bind fun r => (rd b r.2 q.1).bind fun y => (rd c r.2 r.1).bind fun z => (cmp2 o' y z).map fun c => (.bool c, r.2) else some (.bool false, q.2)
  | .ite c a b, e => (evE Φ c e).bind fun p => match p.1 with
    | .bool true => evE Φ a p.2
    | .bool false => evE Φ b p.2
    | _ => none
  | .idx a b, e => (evE Φ a e).bind fun p => (evE Φ b p.2).bind fun q => (rd a q.2 p.1).bind fun x => (rd b q.2 q.1).bind fun y => (idxD x y).map (·, q.2)
  | .cut a lo hi, e => (evE Φ a e).bind fun p => (evO Φ lo p.2).bind fun q => (evO Φ hi q.2).bind fun r => (rd a r.2 p.1).bind fun x => (cutD x q.1 r.1).map (·, r.2)
  | .isi a t, e => (evE Φ a e).bind fun p => match p.1 with
    | .dict _ => none
    | d => some (.bool (isTy t d), p.2)
  | .blt b es, e => (evEs Φ es e).bind fun p => (rdAll es p.2 p.1).bind fun xs => (blt b xs).map (·, p.2)
  | .met m a es, e => (evE Φ a e).bind fun p => (rd a p.2 p.1).bind fun x0 => if metTy m x0 = true then (evEs Φ es p.2).bind fun q => (rd a q.2 p.1).bind fun x => (met m x q.1).map (·, q.2) else none
  | .mu m i es, e => (getO e i).bind fun x0 => if muTy m x0 = true then (evEs Φ es e).bind fun p => (getO p.2 i).bind fun x => (mutD m x p.1).bind fun r => (setC p.2 i r.2).map fun e1 => (r.1, e1) else none
  | .rep es a, e => (evEs Φ es e).bind fun p => (evE Φ a p.2).bind fun q => (repD p.1 q.1).map (·, q.2)
  | .rng es, e => (evEs Φ es e).bind fun p => (rangeD p.1).map fun l => (.list l, p.2)
  | .call f es, e => (evEs Φ es e).bind fun p => (argsC es p.1 p.2).bind fun as => (Φ f as).bind fun r => (backC es r.2 p.2).map fun e1 => (r.1.2, e1)
  | .lc elt tg it ifs own, e => (evE Φ it e).bind fun p => (lendI it p.2 p.1).bind fun q => if (wipeOk own q.2 && szOk q.1.length) = true then
      (lcL (fun d e => (bindT tg d e).bind fun e1 => (evIfs Φ ifs e1).bind fun b => if b.1 = true then (evE Φ elt b.2).map fun y => (some y.1, y.2) else some (none, b.2)) own q.1 (wipeF own q.2)).map fun r =>
        (.list r.1, unlend it p.2 (unwipe own q.2 r.2)) else none
  | .sset a, e => (evE Φ a e).bind fun p => (rd a p.2 p.1).bind fun x => (ssetD x).map (·, p.2)
def evEs (Φ : Nat → Fn) : List IE → En → Option (List D × En)
  | [], e => some ([], e)
  | a :: as, e => (evE Φ a e).bind fun p => (evEs Φ as p.2).map fun q => (p.1 :: q.1, q.2)
def evO (Φ : Nat → Fn) : Option IE → En → Option (Option Int × En)
  | none, e => some (none, e)
  | some a, e => (evE Φ a e).bind fun p => match p.1 with
    | .int i => some (some i, p.2)
    | _ => none
def evIfs (Φ : Nat → Fn) : List IE → En → Option (Bool × En)
  | [], e => some (true, e)
  | a :: as, e => (evE Φ a e).bind fun p => match p.1 with
    | .bool true => evIfs Φ as p.2
    | .bool false => some (false, p.2)
    | _ => none
end
/-- a new object of one's own -/
def evF (Φ : Nat → Fn) : IE → En → Option (D × En)
  | .call f es, e => (evEs Φ es e).bind fun p => (argsC es p.1 p.2).bind fun as => (Φ f as).bind fun r => if r.1.1 = true then (backC es r.2 p.2).map fun e1 => (r.1.2, e1) else none
  | a, e => evE Φ a e

/-! ### statements -/
inductive IS where
  | asg (i : Nat) (a : IE) | asgF (i : Nat) (a : IE) | asgT (tg : Tg) (a : IE) | par (i j : Nat) (a b : IE)
  | put (i : Nat) (k a : IE) | aug (i : Nat) (o : Op2) (a : IE) | augP (i : Nat) (k : IE) (o : Op2) (a : IE)
  | expr (a : IE)
  | ifs (c : IE) (a b : List IS) | forS (tg : Tg) (it : IE) (b : List IS) | whl (c : IE) (b : List IS)
  | ret (a : IE) | retO (i : Nat) | retF (a : IE) | retN | brk | cnt | pass | frz (i : Nat)
inductive Out where
  | nx (e : En) | bk (e : En) | ct (e : En) | rt (r : Bool × D) (e : En)
def testE (r : Option (D × En)) : Option (Bool × En) := r.bind fun p => match p.1 with
  | .bool b => some (b, p.2)
  | _ => none
def forL (f : D → En → Option Out) : List D → En → Option Out
  | [], e => some (.nx e)
  | d :: ds, e => (f d e).bind fun o => match o with
    | .nx e1 => forL f ds e1
    | .ct e1 => forL f ds e1
    | .bk e1 => some (.nx e1)
    | .rt r e1 => some (.rt r e1)
def loopN (c : En → Option (Bool × En)) (b : En → Option Out) : Nat → En → Option Out
  | 0, _ => none
  | n + 1, e => (c e).bind fun p => if p.1 = true then (b p.2).bind fun o => match o with
      | .nx e1 => loopN c b n e1
      | .ct e1 => loopN c b n e1
      | .bk e1 => some (.nx e1)
      | .rt r e1 => some (.rt r e1)
    else some (.nx p.2)
open Classical in
noncomputable def loop (c : En → Option (Bool × En)) (b : En → Option Out) (e : En) : Option Out :=
  if h : ∃ n o, loopN c b n e = some o then some h.choose_spec.choose else none
def outI (it : IE) (env : En) : Out → Out
  | .nx e => .nx (unlend it env e)
  | .rt r e => .rt r (unlend it env e)
  | o => o
mutual
noncomputable def evS (Φ : Nat → Fn) : IS → En → Option Out
  | .asg i a, e => (evE Φ a e).bind fun p => (setV p.2 i .imm p.1).map .nx
  | .asgF i a, e => (evF Φ a e).bind fun p => (setV p.2 i .own p.1).map .nx
  | .asgT tg a, e => (evE Φ a e).bind fun p => (bindT tg p.1 p.2).map .nx
  | .par i j a b, e => (evE Φ a e).bind fun p => (evE Φ b p.2).bind fun q => (setV q.2 i .imm p.1).bind fun e1 => (setV e1 j .imm q.1).map .nx
  | .put i k a, e => (evE Φ a e).bind fun p => (getO p.2 i).bind fun _ => (evE Φ k p.2).bind fun q => (getO q.2 i).bind fun x => (putD x q.1 p.1).bind fun y => (setC q.2 i y).map .nx
  | .aug i o a, e => (getV e i).bind fun x => (evE Φ a e).bind fun p => (augD o x p.1).bind fun y => (setV p.2 i .imm y).map .nx
  | .augP i k o a, e => (getO e i).bind fun _ => (evE Φ k e).bind fun p => (getO p.2 i).bind fun x => (idxD x p.1).bind fun y => (evE Φ a p.2).bind fun q => (augD o y q.1).bind fun z => (getO q.2 i).bind fun x => (putD x p.1 z).bind fun u => (setC q.2 i u).map .nx
  | .expr a, e => (evE Φ a e).map fun p => .nx p.2
  | .ifs c a b, e => (testE (evE Φ c e)).bind fun p => if p.1 = true then evSs Φ a p.2 else evSs Φ b p.2
  | .forS tg it b, e => (evE Φ it e).bind fun p => (lendI it p.2 p.1).bind fun q => (forL (fun d e => (bindT tg d e).bind fun e1 => evSs Φ b e1) q.1 q.2).map (outI it p.2)
  | .whl c b, e => loop (fun e => testE (evE Φ c e)) (fun e => evSs Φ b e) e
  | .ret a, e => (evE Φ a e).map fun p => .rt (false, p.1) p.2
  | .retO i, e => match sl e i with
    | some (.own, d) => some (.rt (true, d) e)
    | _ => none
  | .retF a, e => (evF Φ a e).map fun p => .rt (true, p.1) p.2
  | .retN, e => some (.rt (false, .none) e)
  | .brk, e => some (.bk e)
  | .cnt, e => some (.ct e)
  | .pass, e => some (.nx e)
  | .frz i, e => match sl e i with
    | some (.own, d) => some (.nx (e.set i (some (.imm, d))))
    | some (.imm, _) => some (.nx e)
    | _ => none
noncomputable def evSs (Φ : Nat → Fn) : List IS → En → Option Out
  | [], e => some (.nx e)
  | s :: ss, e => (evS Φ s e).bind fun o => match o with
    | .nx e1 => evSs Φ ss e1
    | o => some o
end
def outsC : Nat → List (Fl × D) → En → Option (List D)
  | _, [], _ => some []
  | i, (.own, _) :: r, e => match sl e i with
    | some (.par, d) => (outsC (i + 1) r e).map (d :: ·)
    | _ => none
  | i, _ :: r, e => outsC (i + 1) r e
def flIn : Fl → Fl
  | .own => .par
  | f => f
def startE (nn : Nat) (as : List (Fl × D)) : En := as.map (fun p => some (flIn p.1, p.2)) ++ List.replicate (nn - as.length) none
/-- a def: np parameters of nn names -/
noncomputable def evFn (Φ : Nat → Fn) (np nn : Nat) (body : List IS) : Fn := fun as => if as.length = np then (match evSs Φ body (startE nn as) with
    | some (.nx e) => (outsC 0 as e).map fun o => ((false, .none), o)
    | some (.rt r e) => (outsC 0 as e).map fun o => (r, o)
    | _ => none) else none
end Dv
namespace Dv
open PySem PySem.Spec L2

/-- what a run goes over: the program, the world, what is written -/
structure G where
  P : Program
  w : World
  K : PySem.W.Frag
def _root_.L2.Cx.g (X : Cx) : G := ⟨X.prog, X.w, X.K⟩
/-! ### data over the abstract heap -/
def ImmO : HO → Prop
  | .tup _ => True
  | .frz _ _ => True
  | _ => False
/-- a list of the module's own -/
def SqW (K : G) (a : Addr) (xs : List V) : Prop :=
  ∃ (o : Obj) (its : Array Value) (n : Nat), K.K.lookup a = some o ∧ o.cls = .type "list" ∧ o.dict = none ∧ o.data = .seq its n ∧ its.size ≤ sizeLine ∧ Vals xs its.toList
/-- a list that stays as it is -/
def SqF (H : Hp) (a : Addr) (xs : List V) : Prop := ∃ o, H a = some (.frz o (.lst xs))
def keyD : Key → D
  | .inl i => .int i
  | .inr x => .str x
/-- the object of a dict whose keys are tuples: its entries -/
def NdO (K : G) (a : Addr) (xs : List (NestedKey × Addr × V)) : HO := .ext fun h => (a == sysModules) = false ∧ xs.length ≤ sizeLine ∧ ∃ (o : Obj) (es : Array DictEntry) (ep : Nat) (ys : List (NestedKey × Addr × Value)),
  h.get? a = some o ∧ o.ExactDict ∧ o.data = .dict es ep ∧ Paired (fun x y => x.1 = y.1 ∧ x.2.1 = y.2.1 ∧ RelV x.2.2 y.2.2) xs ys ∧ es.toList = ys.map (entryOfKey (nestedKind K.P K.w)) ∧ (ys.map (·.1)).Nodup
def keyN (d : D) : Bool := decide (kind d = some true)
section
variable (K : G) (H : Hp)
mutual
/-- the datum stands at the value, for ever -/
def T : D → V → Prop
  | .none, v => v = .non
  | .bool b, v => v = .bl b
  | .int i, v => v = .int i
  | .str x, v => v = .str x
  | .list ds, v => ∃ a vs, v = .ref a ∧ SqF H a vs ∧ TA ds vs
  | .tuple ds, v => ∃ a vs, v = .ref a ∧ SqT K.K H a vs ∧ TA ds vs
  | .dict kvs, v => ∃ a o, v = .ref a ∧ ((∃ kv, H a = some (.frz o (.dK kv)) ∧ TK kvs kv) ∨ ∃ xs, H a = some (.frz o (NdO K a xs)) ∧ TN kvs xs)
def TA : List D → List V → Prop
  | [], vs => vs = []
  | d :: ds, vs => ∃ v r, vs = v :: r ∧ T d v ∧ TA ds r
def TK : List (D × D) → List (Key × V) → Prop
  | [], l => l = []
  | (k, d) :: r, l => ∃ k' v r', l = (k', v) :: r' ∧ k = keyD k' ∧ T d v ∧ TK r r'
def TN : List (D × D) → List (NestedKey × Addr × V) → Prop
  | [], l => l = []
  | (k, d) :: r, l => ∃ b v r', l = (nk k, b, v) :: r' ∧ keyN k = true ∧ T k (.ref b) ∧ T d v ∧ TN r r'
end
/-- .. to be read now -/
def Vw : D → V → Prop
  | .list ds, v => ∃ a vs, v = .ref a ∧ Rd H a (.lst vs) ∧ TA K H ds vs
  | .dict kvs, v => ∃ a, v = .ref a ∧ ((∃ kv, Rd H a (.dK kv) ∧ TK K H kvs kv) ∨ ∃ xs, Rd H a (NdO K a xs) ∧ TN K H kvs xs)
  | d, v => T K H d v
/-- .. to be changed -/
def Mt : D → V → Prop
  | .list ds, v => ∃ a vs, v = .ref a ∧ H a = some (.lst vs) ∧ TA K H ds vs
  | .dict kvs, v => ∃ a, v = .ref a ∧ ((∃ kv, H a = some (.dK kv) ∧ TK K H kvs kv) ∨ ∃ xs, H a = some (NdO K a xs) ∧ TN K H kvs xs)
  | _, _ => False
/-- a list from outside, that stays as it is -/
def Xt (d : D) (v : V) : Prop := ∃ ds a vs, d = .list ds ∧ v = .ref a ∧ (SqF H a vs ∨ SqW K a vs) ∧ TA K H ds vs
def SlOk : Fl → D → V → Prop
  | .imm => T K H
  | .own => Mt K H
  | .par => Mt K H
  | .len => Mt K H
  | .ext => Xt K H
end
/-- what never changes stands -/
def Per (H H' : Hp) : Prop := ∀ b o, H b = some o → ImmO o → H' b = some o
theorem Per.refl (H : Hp) : Per H H := fun _ _ h _ => h
theorem Per.trans {H H1 H2 : Hp} (a : Per H H1) (b : Per H1 H2) : Per H H2 := fun c o h i => b c o (a c o h i) i
section
variable {K : G} {H H' : Hp}
theorem Per.sqf {a : Addr} {xs : List V} (p : Per H H') (h : SqF H a xs) : SqF H' a xs := let ⟨o, e⟩ := h; ⟨o, p _ _ e trivial⟩
theorem Per.sqt {a : Addr} {xs : List V} (p : Per H H') (h : SqT K.K H a xs) : SqT K.K H' a xs := by
  rcases h with (h | ⟨o, h⟩) | h
  · exact .inl (.inl (p _ _ h trivial))
  · exact .inl (.inr ⟨o, p _ _ h trivial⟩)
  · exact .inr h
mutual
theorem T.mono (p : Per H H') : ∀ (d : D) (v : V), T K H d v → T K H' d v
  | .none, _, h => by unfold T at h ⊢; exact h
  | .bool _, _, h => by unfold T at h ⊢; exact h
  | .int _, _, h => by unfold T at h ⊢; exact h
  | .str _, _, h => by unfold T at h ⊢; exact h
  | .list ds, _, h => by
    unfold T at h ⊢
    obtain ⟨a, vs, e, s, t⟩ := h
    exact ⟨a, vs, e, p.sqf s, TA.mono p ds vs t⟩
  | .tuple ds, _, h => by
    unfold T at h ⊢
    obtain ⟨a, vs, e, s, t⟩ := h
    exact ⟨a, vs, e, p.sqt s, TA.mono p ds vs t⟩
  | .dict kvs, _, h => by
    unfold T at h ⊢
    obtain ⟨a, o, e, h⟩ := h
    refine ⟨a, o, e, ?_⟩
    rcases h with ⟨kv, s, t⟩ | ⟨xs, s, t⟩
    · exact .inl ⟨kv, p _ _ s trivial, TK.mono p kvs kv t⟩
    · exact .inr ⟨xs, p _ _ s trivial, TN.mono p kvs xs t⟩
theorem TA.mono (p : Per H H') : ∀ (ds : List D) (vs : List V), TA K H ds vs → TA K H' ds vs
  | [], _, h => by unfold TA at h ⊢; exact h
  | d :: ds, _, h => by
    unfold TA at h ⊢
    obtain ⟨v, r, e, t, u⟩ := h
    exact ⟨v, r, e, T.mono p d v t, TA.mono p ds r u⟩
theorem TK.mono (p : Per H H') : ∀ (l : List (D × D)) (m : List (Key × V)), TK K H l m → TK K H' l m
  | [], _, h => by unfold TK at h ⊢; exact h
  | (k, d) :: r, _, h => by
    unfold TK at h ⊢
    obtain ⟨k', v, r', e, ek, t, u⟩ := h
    exact ⟨k', v, r', e, ek, T.mono p d v t, TK.mono p r r' u⟩
theorem TN.mono (p : Per H H') : ∀ (l : List (D × D)) (m : List (NestedKey × Addr × V)), TN K H l m → TN K H' l m
  | [], _, h => by unfold TN at h ⊢; exact h
  | (k, d) :: r, _, h => by
    unfold TN at h ⊢
    obtain ⟨b, v, r', e, ek, t1, t, u⟩ := h
    exact ⟨b, v, r', e, ek, T.mono p k _ t1, T.mono p d v t, TN.mono p r r' u⟩
end
theorem T.vw : ∀ {d : D} {v : V}, T K H d v → Vw K H d v
  | .none, _, h => h
  | .bool _, _, h => h
  | .int _, _, h => h
  | .str _, _, h => h
  | .tuple _, _, h => h
  | .list ds, _, h => by
    unfold T at h
    obtain ⟨a, vs, e, s, t⟩ := h
    exact ⟨a, vs, e, .inr s, t⟩
  | .dict kvs, _, h => by
    unfold T at h
    obtain ⟨a, o, e, h⟩ := h
    refine ⟨a, e, ?_⟩
    rcases h with ⟨kv, s, t⟩ | ⟨xs, s, t⟩
    · exact .inl ⟨kv, .inr ⟨o, s⟩, t⟩
    · exact .inr ⟨xs, .inr ⟨o, s⟩, t⟩
theorem Mt.vw : ∀ {d : D} {v : V}, Mt K H d v → Vw K H d v
  | .none, _, h => h.elim
  | .bool _, _, h => h.elim
  | .int _, _, h => h.elim
  | .str _, _, h => h.elim
  | .tuple _, _, h => h.elim
  | .list ds, _, ⟨a, vs, e, s, t⟩ => ⟨a, vs, e, .inl s, t⟩
  | .dict kvs, _, ⟨a, e, .inl ⟨kv, s, t⟩⟩ => ⟨a, e, .inl ⟨kv, .inl s, t⟩⟩
  | .dict kvs, _, ⟨a, e, .inr ⟨xs, s, t⟩⟩ => ⟨a, e, .inr ⟨xs, .inl s, t⟩⟩
theorem SlOk.vw : ∀ {f : Fl} {d : D} {v : V}, f ≠ .ext → SlOk K H f d v → Vw K H d v
  | .imm, _, _, _, h => T.vw h
  | .own, _, _, _, h => Mt.vw h
  | .par, _, _, _, h => Mt.vw h
  | .len, _, _, _, h => Mt.vw h
  | .ext, _, _, n, _ => absurd rfl n
theorem Xt.mono {d : D} {v : V} (p : Per H H') (h : Xt K H d v) : Xt K H' d v := by
  obtain ⟨ds, a, vs, e, e2, s, t⟩ := h
  exact ⟨ds, a, vs, e, e2, s.imp p.sqf id, TA.mono p _ _ t⟩
theorem Mt.ref : ∀ {d : D} {v : V}, Mt K H d v → ∃ a o, v = .ref a ∧ H a = some o ∧ Mut (some o)
  | .none, _, h => h.elim
  | .bool _, _, h => h.elim
  | .int _, _, h => h.elim
  | .str _, _, h => h.elim
  | .tuple _, _, h => h.elim
  | .list ds, _, ⟨a, vs, e, s, t⟩ => ⟨a, _, e, s, trivial⟩
  | .dict kvs, _, ⟨a, e, .inl ⟨kv, s, t⟩⟩ => ⟨a, _, e, s, trivial⟩
  | .dict kvs, _, ⟨a, e, .inr ⟨xs, s, t⟩⟩ => ⟨a, _, e, s, trivial⟩
theorem Mt.keep {a : Addr} : ∀ {d : D}, Mt K H d (.ref a) → Per H H' → (∀ o, H a = some o → H' a = some o) → Mt K H' d (.ref a)
  | .none, h, _, _ => h.elim
  | .bool _, h, _, _ => h.elim
  | .int _, h, _, _ => h.elim
  | .str _, h, _, _ => h.elim
  | .tuple _, h, _, _ => h.elim
  | .list ds, ⟨b, vs, e, s, t⟩, p, k => by cases e; exact ⟨a, vs, rfl, k _ s, TA.mono p _ _ t⟩
  | .dict kvs, ⟨b, e, .inl ⟨kv, s, t⟩⟩, p, k => by cases e; exact ⟨a, rfl, .inl ⟨kv, k _ s, TK.mono p _ _ t⟩⟩
  | .dict kvs, ⟨b, e, .inr ⟨xs, s, t⟩⟩, p, k => by cases e; exact ⟨a, rfl, .inr ⟨xs, k _ s, TN.mono p _ _ t⟩⟩
theorem Vw.keep {v : V} : ∀ {d : D}, Vw K H d v → Per H H' → (∀ a o, v = .ref a → H a = some o → H' a = some o) → Vw K H' d v
  | .none, h, p, _ => T.mono p _ _ h
  | .bool _, h, p, _ => T.mono p _ _ h
  | .int _, h, p, _ => T.mono p _ _ h
  | .str _, h, p, _ => T.mono p _ _ h
  | .tuple _, h, p, _ => T.mono p _ _ h
  | .list ds, ⟨a, vs, e, s, t⟩, p, k => by
    refine ⟨a, vs, e, ?_, TA.mono p _ _ t⟩
    rcases s with s | ⟨o, s⟩
    · exact .inl (k _ _ e s)
    · exact .inr ⟨o, p _ _ s trivial⟩
  | .dict kvs, ⟨a, e, .inl ⟨kv, s, t⟩⟩, p, k => by
    refine ⟨a, e, .inl ⟨kv, ?_, TK.mono p _ _ t⟩⟩
    rcases s with s | ⟨o, s⟩
    · exact .inl (k _ _ e s)
    · exact .inr ⟨o, p _ _ s trivial⟩
  | .dict kvs, ⟨a, e, .inr ⟨xs, s, t⟩⟩, p, k => by
    refine ⟨a, e, .inr ⟨xs, ?_, TN.mono p _ _ t⟩⟩
    rcases s with s | ⟨o, s⟩
    · exact .inl (k _ _ e s)
    · exact .inr ⟨o, p _ _ s trivial⟩

/-! ### lists of data -/
theorem TA.length : ∀ {ds : List D} {vs : List V}, TA K H ds vs → ds.length = vs.length
  | [], _, h => by unfold TA at h; subst h; rfl
  | d :: ds, _, h => by
    unfold TA at h
    obtain ⟨v, r, e, _, u⟩ := h
    subst e
    rw [List.length_cons, List.length_cons, TA.length u]
theorem TA.get : ∀ {ds : List D} {vs : List V} {i : Nat} {d : D}, TA K H ds vs → ds[i]? = some d → ∃ v, vs[i]? = some v ∧ T K H d v
  | [], _, _, _, _, e => by simp at e
  | d :: ds, _, i, d', h, e => by
    unfold TA at h
    obtain ⟨v, r, rfl, t, u⟩ := h
    cases i with
    | zero => simp at e; subst e; exact ⟨v, by simp, t⟩
    | succ i =>
      obtain ⟨v', h1, h2⟩ := TA.get u (i := i) (by simpa using e)
      exact ⟨v', by simpa using h1, h2⟩
theorem TA.getV : ∀ {ds : List D} {vs : List V} {i : Nat} {v : V}, TA K H ds vs → vs[i]? = some v → ∃ d, ds[i]? = some d ∧ T K H d v := fun {ds vs i v} h e => by
  have hl := h.length
  have hi : i < ds.length := by rw [hl]; exact (List.getElem?_eq_some_iff.mp e).1
  obtain ⟨v', h1, h2⟩ := h.get (List.getElem?_eq_getElem hi)
  rw [e] at h1
  cases h1
  exact ⟨_, List.getElem?_eq_getElem hi, h2⟩
theorem TA.nil : TA K H [] [] := by unfold TA; rfl
theorem TA.cons {d : D} {v : V} {ds : List D} {vs : List V} (h : T K H d v) (u : TA K H ds vs) : TA K H (d :: ds) (v :: vs) := by
  unfold TA
  exact ⟨v, vs, rfl, h, u⟩
theorem TA.append : ∀ {ds es : List D} {vs ws : List V}, TA K H ds vs → TA K H es ws → TA K H (ds ++ es) (vs ++ ws)
  | [], _, _, _, h, u => by unfold TA at h; subst h; exact u
  | d :: ds, es, _, ws, h, u => by
    unfold TA at h
    obtain ⟨v, r, rfl, t, q⟩ := h
    exact .cons t (TA.append q u)
theorem TA.drop : ∀ {ds : List D} {vs : List V} (n : Nat), TA K H ds vs → TA K H (ds.drop n) (vs.drop n)
  | ds, vs, 0, h => h
  | [], _, n + 1, h => by unfold TA at h; subst h; exact .nil
  | d :: ds, _, n + 1, h => by
    unfold TA at h
    obtain ⟨v, r, rfl, t, q⟩ := h
    exact TA.drop n q
theorem TA.take : ∀ {ds : List D} {vs : List V} (n : Nat), TA K H ds vs → TA K H (ds.take n) (vs.take n)
  | ds, vs, 0, h => .nil
  | [], _, n + 1, h => by unfold TA at h; subst h; exact .nil
  | d :: ds, _, n + 1, h => by
    unfold TA at h
    obtain ⟨v, r, rfl, t, q⟩ := h
    exact .cons t (TA.take n q)
theorem TA.set {d : D} {v : V} (t : T K H d v) : ∀ {ds : List D} {vs : List V} (n : Nat), TA K H ds vs → TA K H (ds.set n d) (vs.set n v)
  | [], _, n, h => by unfold TA at h; subst h; exact .nil
  | e :: ds, _, 0, h => by
    unfold TA at h
    obtain ⟨w, r, rfl, _, q⟩ := h
    exact .cons t q
  | e :: ds, _, n + 1, h => by
    unfold TA at h
    obtain ⟨w, r, rfl, t', q⟩ := h
    exact .cons t' (TA.set t n q)
theorem TA.cut {ds : List D} {vs : List V} (lo hi : Option Int) (h : TA K H ds vs) : TA K H (cutL ds lo hi) (cutV vs lo hi) := by
  unfold cutL cutV
  rw [h.length]
  exact (h.drop _).take _
end

/-! ### the names' data over the slots -/
/-- the addresses that may be changed -/
def ownA (env : En) (σ : St) (a : Addr) : Prop := ∃ i f d, sl env i = some (f, d) ∧ (f = .own ∨ f = .par) ∧ σ[i]? = some (some (.ref a))
structure Rep (K : G) (env : En) (σ : St) (H : Hp) : Prop where
  len : env.length = σ.length
  ok : ∀ i f d, sl env i = some (f, d) → ∃ v, σ[i]? = some (some v) ∧ SlOk K H f d v
  apart : ∀ i j f g d e a, i ≠ j → sl env i = some (f, d) → (f = .own ∨ f = .par) → sl env j = some (g, e) → g ≠ .imm → g ≠ .ext → σ[i]? = some (some (.ref a)) → σ[j]? ≠ some (some (.ref a))
/-- what a run leaves -/
structure Tr (env : En) (σ : St) (H : Hp) (env' : En) (σ' : St) (H' : Hp) : Prop where
  frm : ∀ b o, H b = some o → ¬ ownA env σ b → H' b = some o
  per : Per H H'
  dom : ∀ b o, H b = some o → ∃ o', H' b = some o'
  own : ∀ a, ownA env' σ' a → ownA env σ a ∨ H a = none
  len : ∀ i d, sl env i = some (.len, d) → sl env' i = some (.len, d) ∧ σ'[i]? = σ[i]?
  par : ∀ i d, sl env i = some (.par, d) → ∃ d', sl env' i = some (.par, d') ∧ σ'[i]? = σ[i]?
  lnb : ∀ i d, sl env' i = some (.len, d) → sl env i = some (.len, d)
section
variable {K : G} {env env1 env2 : En} {σ σ1 σ2 : St} {H H1 H2 : Hp}
theorem Tr.refl : Tr env σ H env σ H := ⟨fun _ _ h _ => h, Per.refl H, fun _ o h => ⟨o, h⟩, fun _ h => .inl h, fun _ _ h => ⟨h, rfl⟩, fun _ d h => ⟨d, h, rfl⟩, fun _ _ h => h⟩
theorem Tr.trans (a : Tr env σ H env1 σ1 H1) (b : Tr env1 σ1 H1 env2 σ2 H2) : Tr env σ H env2 σ2 H2 where
  frm := fun c o h n => b.frm c o (a.frm c o h n) fun q => by
    rcases a.own c q with z | z
    · exact n z
    · rw [h] at z; cases z
  per := a.per.trans b.per
  dom := fun c o h => by
    obtain ⟨o', h'⟩ := a.dom c o h
    exact b.dom c o' h'
  own := fun c h => by
    rcases b.own c h with z | z
    · exact a.own c z
    · refine .inr ?_
      cases q : H c with
      | none => rfl
      | some o =>
        obtain ⟨o', h'⟩ := a.dom c o q
        rw [h'] at z; cases z
  len := fun i d h => by
    obtain ⟨h1, e1⟩ := a.len i d h
    obtain ⟨h2, e2⟩ := b.len i d h1
    exact ⟨h2, e2.trans e1⟩
  par := fun i d h => by
    obtain ⟨d1, h1, e1⟩ := a.par i d h
    obtain ⟨d2, h2, e2⟩ := b.par i d1 h1
    exact ⟨d2, h2, e2.trans e1⟩
  lnb := fun i d h => a.lnb i d (b.lnb i d h)
theorem sl_get {env : En} {i : Nat} {f : Fl} {d : D} : sl env i = some (f, d) ↔ env[i]? = some (some (f, d)) := by
  unfold sl
  cases h : env[i]? with
  | none => simp
  | some x => simp
theorem sl_set_eq {env : En} {i : Nat} {x : Sl} (h : i < env.length) : sl (env.set i x) i = x := by
  unfold sl
  rw [List.getElem?_set_self h]; rfl
theorem sl_set_ne {env : En} {i j : Nat} {x : Sl} (h : i ≠ j) : sl (env.set i x) j = sl env j := by
  unfold sl
  rw [List.getElem?_set_ne h]
theorem sl_lt {env : En} {i : Nat} {p : Fl × D} (h : sl env i = some p) : i < env.length := by
  obtain ⟨f, d⟩ := p
  exact (List.getElem?_eq_some_iff.mp (sl_get.mp h)).1
end
end Dv
namespace Dv
open PySem PySem.Spec L2

/-! ### what is one's own is kept for ever from now on -/
def Frzb : HO → Prop
  | .lst _ => True
  | .dK _ => True
  | .ext _ => True
  | _ => False
theorem inv_freeze {X : Cx} {pins : List (Addr × Obj)} {σ : L2.St} {H : Hp} {s : Shared} {a : Addr} {u : HO} (I : Inv X pins σ H s) (h : H a = some u) (hf : Frzb u) : ∃ o, Inv X pins σ (upd H a (.frz o u)) s := by
  have q := I.hok a u h
  have hget : ∃ o, s.heap.get? a = some o := by
    cases u with
    | lst xs => obtain ⟨_, _, _, _, e⟩ := q; exact ⟨_, e⟩
    | dK kvs => obtain ⟨_, _, _, _, o, _, _, e, _⟩ := q; exact ⟨_, e⟩
    | ext φ => obtain ⟨_, ⟨o, e⟩, _⟩ := q; exact ⟨_, e⟩
    | _ => exact hf.elim
  obtain ⟨o, ho⟩ := hget
  refine ⟨o, ?_⟩
  have nt : ∀ b xs, H b = some (.tup xs) → b ≠ a := fun b xs e z => by
    subst z; rw [h] at e; cases e; exact hf
  have nf : ∀ b o' u', H b = some (.frz o' u') → b ≠ a := fun b o' u' e z => by
    subst z; rw [h] at e; cases e; exact hf
  have nb : ∀ b ps, H b = some (.tbl ps) → b ≠ a := fun b ps e z => by
    subst z; rw [h] at e; cases e; exact hf
  have nw : ∀ b x, H b = some (.own x) → b ≠ a := fun b x e z => by
    subst z; rw [h] at e; cases e; exact hf
  have un : Un X.fs [] H (upd H a (.frz o u)) s.heap s.heap := ⟨fun b ob e _ _ _ => e, fun b ob e _ _ _ => ⟨ob.slots, e⟩, fun b ob _ n _ => by
      rw [upd_ne (fun z => by subst z; rw [h] at n; cases n)]; exact n, fun b ob e _ => ⟨ob, e⟩,
    fun b xs e => by rw [upd_ne (nt b xs e)]; exact e, fun b o' u' e => by rw [upd_ne (nf b o' u' e)]; exact e, fun b ps e => ⟨#[], by rw [upd_ne (nb b ps e), e]; simp⟩⟩
  have hok : HOk X.prog X.w (upd H a (.frz o u)) s.heap := fun b v e => by
    by_cases hb : b = a
    · subst hb
      rw [upd_same] at e
      cases e
      exact ⟨ho, q.stay (fun _ _ _ z => z) (fun c z => by rw [upd_ne (nw c b z)]; exact z) fun c xs z => by rw [upd_ne (nt c xs z)]; exact z⟩
    · rw [upd_ne hb] at e
      exact (I.hok b v e).stay (fun _ _ _ z => z) (fun c z => by rw [upd_ne (nw c b z)]; exact z) fun c xs z => by rw [upd_ne (nt c xs z)]; exact z
  exact I.un (t' := s.toks) un hok

section
variable {K : G} {env env1 env2 : En} {σ σ1 σ2 : L2.St} {H H1 H2 : Hp} {a : Addr} {d : D} {v : V}
theorem Mt.frzb (h : Mt K H d (.ref a)) : ∃ u, H a = some u ∧ Frzb u := by
  cases d with
  | list ds => obtain ⟨b, vs, e, s, _⟩ := h; cases e; exact ⟨_, s, trivial⟩
  | dict kvs =>
    obtain ⟨b, e, h⟩ := h
    cases e
    rcases h with ⟨kv, s, _⟩ | ⟨xs, s, _⟩
    · exact ⟨_, s, trivial⟩
    · exact ⟨_, s, trivial⟩
  | _ => exact h.elim
theorem Mt.frozen {o : Obj} {u : HO} (h : Mt K H d (.ref a)) (hu : H a = some u) (p : Per H (upd H a (.frz o u))) : T K (upd H a (.frz o u)) d (.ref a) := by
  cases d with
  | list ds =>
    obtain ⟨b, vs, e, s, t⟩ := h
    cases e
    rw [hu] at s; cases s
    unfold T
    exact ⟨a, vs, rfl, ⟨o, upd_same⟩, TA.mono p _ _ t⟩
  | dict kvs =>
    obtain ⟨b, e, h⟩ := h
    cases e
    unfold T
    rcases h with ⟨kv, s, t⟩ | ⟨xs, s, t⟩
    · rw [hu] at s; cases s
      exact ⟨a, o, rfl, .inl ⟨kv, upd_same, TK.mono p _ _ t⟩⟩
    · rw [hu] at s; cases s
      exact ⟨a, o, rfl, .inr ⟨xs, upd_same, TN.mono p _ _ t⟩⟩
  | _ => exact h.elim
theorem per_upd {o : HO} {u : HO} (hu : H a = some u) (nu : ¬ ImmO u) : Per H (upd H a o) := fun b x h i => by
  by_cases hb : b = a
  · subst hb; rw [hu] at h; cases h; exact (nu i).elim
  · rw [upd_ne hb]; exact h
theorem per_new {o : HO} (hu : H a = none) : Per H (upd H a o) := fun b x h i => by
  rw [upd_ne (ne_of_none h hu)]; exact h
theorem Frzb.nimm {u : HO} (h : Frzb u) : ¬ ImmO u := by
  cases u <;> first | exact h.elim | exact id
/-- what is changed or lent is tracked -/
theorem Rep.at (R : Rep K env σ H) {i : Nat} {f : Fl} (h : sl env i = some (f, d)) (hf : f ≠ .imm) (hx : f ≠ .ext) : ∃ a, σ[i]? = some (some (.ref a)) ∧ Mt K H d (.ref a) ∧ ∃ u, H a = some u ∧ Frzb u := by
  obtain ⟨v, e, q⟩ := R.ok i f d h
  have m : Mt K H d v := by
    cases f with
    | imm => exact absurd rfl hf
    | own => exact q
    | par => exact q
    | len => exact q
    | ext => exact absurd rfl hx
  obtain ⟨a, o, rfl, _, _⟩ := m.ref
  exact ⟨a, e, m, m.frzb⟩
/-- the heap grows or its other objects change -/
theorem Rep.heap (R : Rep K env σ H) (p : Per H H1) (k : ∀ i f d a o, sl env i = some (f, d) → f ≠ .imm → f ≠ .ext → σ[i]? = some (some (.ref a)) → H a = some o → H1 a = some o) : Rep K env σ H1 := by
  refine ⟨R.len, fun i f d h => ?_, R.apart⟩
  by_cases hf : f = .imm
  · subst hf
    obtain ⟨v, e, q⟩ := R.ok i _ d h
    exact ⟨v, e, T.mono p _ _ q⟩
  by_cases hx : f = .ext
  · subst hx
    obtain ⟨v, e, q⟩ := R.ok i _ d h
    exact ⟨v, e, Xt.mono p q⟩
  · obtain ⟨a, e, m, _⟩ := R.at h hf hx
    have m' := m.keep p (k i f d a · h hf hx e)
    refine ⟨.ref a, e, ?_⟩
    cases f with
    | imm => exact absurd rfl hf
    | own => exact m'
    | par => exact m'
    | len => exact m'
    | ext => exact absurd rfl hx
theorem Rep.new {o : HO} (R : Rep K env σ H) (hn : H a = none) : Rep K env σ (upd H a o) :=
  R.heap (per_new hn) fun i f d b o' _ _ _ _ e => by rw [upd_ne (ne_of_none e hn)]; exact e
theorem Tr.new {o : HO} (hn : H a = none) : Tr env σ H env σ (upd H a o) :=
  ⟨fun b x h _ => by rw [upd_ne (ne_of_none h hn)]; exact h, per_new hn, fun b x h => ⟨x, by rw [upd_ne (ne_of_none h hn)]; exact h⟩, fun _ h => .inl h, fun _ _ h => ⟨h, rfl⟩, fun _ d h => ⟨d, h, rfl⟩, fun _ _ h => h⟩
theorem ownA.some (R : Rep K env σ H) (h : ownA env σ a) : ∃ u, H a = some u ∧ Frzb u := by
  obtain ⟨i, f, d, e, hf, es⟩ := h
  obtain ⟨b, es', _, u, hu, fu⟩ := R.at e (by rcases hf with rfl | rfl <;> decide) (by rcases hf with rfl | rfl <;> decide)
  rw [es] at es'; cases es'
  exact ⟨u, hu, fu⟩
/-- the slots that may be changed do not hold a -/
def NotIn (env : En) (σ : L2.St) (a : Addr) : Prop := ∀ j g e, sl env j = some (g, e) → g ≠ .imm → g ≠ .ext → σ[j]? ≠ some (some (.ref a))
theorem Rep.notIn (R : Rep K env σ H) (hn : H a = none) : NotIn env σ a := fun j g e h hg hx es => by
  obtain ⟨b, es', _, u, hu, _⟩ := R.at h hg hx
  rw [es] at es'; cases es'
  rw [hn] at hu; cases hu

/-! ### judgements over data -/
def tE (K : G) (Φ : Nat → Fn) (ir : IE) : TE := fun σ H Q => ∃ env d env', Rep K env σ H ∧ evE Φ ir env = some (d, env') ∧
  ∀ v H', Rep K env' σ H' → Tr env σ H env' σ H' → T K H' d v → Q v H'
/-- an operand: a place is read late -/
def Opd (K : G) (ir : IE) (σ : L2.St) (H : Hp) (d : D) (v : V) : Prop := match ir with
  | .pl i => σ[i]? = some (some v)
  | .ow i => σ[i]? = some (some v)
  | .le i => σ[i]? = some (some v)
  | .ex i => σ[i]? = some (some v)
  | _ => T K H d v
def tO (K : G) (Φ : Nat → Fn) (ir : IE) : TE := fun σ H Q => ∃ env d env', Rep K env σ H ∧ evE Φ ir env = some (d, env') ∧
  ∀ v H', Rep K env' σ H' → Tr env σ H env' σ H' → Opd K ir σ H' d v → Q v H'
/-- a new object -/
def tF (K : G) (Φ : Nat → Fn) (ir : IE) : TE := fun σ H Q => ∃ env d env', Rep K env σ H ∧ evF Φ ir env = some (d, env') ∧
  ∀ a H', Rep K env' σ H' → Tr env σ H env' σ H' → Mt K H' d (.ref a) → H a = none → NotIn env' σ a → Q (.ref a) H'
def tT (K : G) (Φ : Nat → Fn) (ir : IE) : TT := fun σ H Q => ∃ env b env', Rep K env σ H ∧ evE Φ ir env = some (.bool b, env') ∧
  ∀ H', Rep K env' σ H' → Tr env σ H env' σ H' → Q b H'
/-- arguments -/
def OpdA (K : G) (σ : L2.St) (H : Hp) : List IE → List D → List V → Prop
  | [], [], [] => True
  | a :: as, d :: ds, v :: vs => Opd K a σ H d v ∧ OpdA K σ H as ds vs
  | _, _, _ => False
def tA (K : G) (Φ : Nat → Fn) (es : List IE) : L2.TA := fun σ H Q => ∃ env ds env', Rep K env σ H ∧ evEs Φ es env = some (ds, env') ∧
  ∀ vs H', Rep K env' σ H' → Tr env σ H env' σ H' → OpdA K σ H' es ds vs → Q vs H'

theorem rd_else {ir : IE} {e : En} {d : D} (h : late ir = false) : rd ir e d = some d := by
  cases ir <;> first | rfl | cases h
theorem Opd.else {ir : IE} (h : late ir = false) (o : Opd K ir σ H d v) : T K H d v := by
  cases ir <;> first | exact o | cases h
theorem Opd.mk {ir : IE} (h : late ir = false) (o : T K H d v) : Opd K ir σ H d v := by
  cases ir <;> first | exact o | cases h
theorem Opd.rd {ir : IE} {x : D} (o : Opd K ir σ H d v) (p : Per H H1) (R : Rep K env σ H1) (h : rd ir env d = some x) : Vw K H1 x v := by
  by_cases hp : ∃ i, ir = .pl i
  · obtain ⟨i, rfl⟩ := hp
    have o' : σ[i]? = some (some v) := o
    have h' : getP env i = some x := h
    unfold getP at h'
    cases e : sl env i with
    | none => rw [e] at h'; cases h'
    | some q =>
      obtain ⟨f, y⟩ := q
      rw [e] at h'
      have hx : f ≠ .ext := by
        rintro rfl
        cases h'
      have h2 : some y = some x := by cases f <;> first | exact h' | exact absurd rfl hx
      cases h2
      obtain ⟨w, ew, k⟩ := R.ok i f _ e
      rw [o'] at ew; cases ew
      exact k.vw hx
  · have hp' : late ir = false := by
      cases ir <;> first | rfl | exact absurd ⟨_, rfl⟩ hp | (cases h)
    rw [rd_else hp'] at h
    cases h
    exact (T.mono p _ _ (o.else hp')).vw
theorem Opd.mono {ir : IE} (o : Opd K ir σ H d v) (p : Per H H1) : Opd K ir σ H1 d v := by
  cases ir <;> first | exact o | exact T.mono p _ _ o
theorem OpdA.mono (p : Per H H1) : ∀ {es : List IE} {ds : List D} {vs : List V}, OpdA K σ H es ds vs → OpdA K σ H1 es ds vs
  | [], [], [], _ => trivial
  | _ :: _, _ :: _, _ :: _, h => ⟨h.1.mono p, OpdA.mono p h.2⟩
def VwA (K : G) (H : Hp) : List D → List V → Prop
  | [], [] => True
  | d :: ds, v :: vs => Vw K H d v ∧ VwA K H ds vs
  | _, _ => False
theorem OpdA.rd (p : Per H H1) (R : Rep K env σ H1) : ∀ {es : List IE} {ds xs : List D} {vs : List V}, OpdA K σ H es ds vs → rdAll es env ds = some xs → VwA K H1 xs vs
  | [], [], xs, [], _, h => by
    cases h; trivial
  | e :: es, d :: ds, xs, v :: vs, o, h => by
    unfold rdAll at h
    cases h1 : Dv.rd e env d with
    | none => rw [h1] at h; cases h
    | some y =>
      rw [h1] at h
      cases h2 : rdAll es env ds with
      | none => rw [h2] at h; cases h
      | some ys =>
        rw [h2] at h
        cases h
        exact ⟨o.1.rd p R h1, OpdA.rd p R o.2 h2⟩
theorem TA.of_opdA : ∀ {es : List IE} {ds : List D} {vs : List V}, (∀ e ∈ es, late e = false) → OpdA K σ H es ds vs → TA K H ds vs
  | [], [], [], _, _ => .nil
  | e :: es, d :: ds, v :: vs, n, o => .cons (o.1.else (n e (by simp))) (TA.of_opdA (fun e' h => n e' (by simp [h])) o.2)
end
theorem _root_.L2.PE.mono {X : Cx} {e : Expr} {t u : TE} (h : PE X e t) (m : ∀ σ H Q, u σ H Q → t σ H Q) : PE X e u := ⟨fun pins s σ H Q I q => h.run pins s σ H Q I (m σ H Q q)⟩
theorem _root_.L2.PT.mono {X : Cx} {e : Expr} {t u : TT} (h : PT X e t) (m : ∀ σ H Q, u σ H Q → t σ H Q) : PT X e u := ⟨fun pins s σ H Q I q => h.run pins s σ H Q I (m σ H Q q)⟩
theorem _root_.L2.PA.mono {X : Cx} {e : List Expr} {t u : L2.TA} (h : PA X e t) (m : ∀ σ H Q, u σ H Q → t σ H Q) : PA X e u := ⟨fun pos pins s σ H Q I q => h.run pos pins s σ H Q I (m σ H Q q)⟩
theorem _root_.L2.PS.mono {X : Cx} {e : Stmt} {t u : TS} (h : PS X e t) (m : ∀ D σ H, u D σ H → t D σ H) : PS X e u := ⟨fun pins s σ H D I q => h.run pins s σ H D I (m D σ H q)⟩
theorem _root_.L2.PSs.mono {X : Cx} {e : List Stmt} {t u : TS} (h : PSs X e t) (m : ∀ D σ H, u D σ H → t D σ H) : PSs X e u := ⟨fun pins s σ H D I q => h.run pins s σ H D I (m D σ H q)⟩
/-- a new object is kept for ever -/
theorem frz_end {X : Cx} {pins : List (Addr × Obj)} {env env' : En} {σ : L2.St} {H : Hp} {d : D} {Q : VK} {u : Value} {s' : Shared} (h : EP X pins σ (fun v H' => ∃ a, v = .ref a ∧ Rep X.g env' σ H' ∧ Tr env σ H env' σ H' ∧ Mt X.g H' d (.ref a) ∧ H a = none ∧ NotIn env' σ a) u s')
    (q : ∀ v H', Rep X.g env' σ H' → Tr env σ H env' σ H' → T X.g H' d v → Q v H') : EP X pins σ Q u s' := by
  obtain ⟨v, H', I', rv, a, e, R', tr, m, n, ni⟩ := h
  subst e
  obtain ⟨w, hu, fu⟩ := m.frzb
  obtain ⟨o, I2⟩ := inv_freeze I' hu fu
  have p := per_upd (o := .frz o w) hu fu.nimm
  have ne : ∀ b o', H b = some o' → b ≠ a := fun b o' h1 => ne_of_none h1 n
  exact ⟨.ref a, _, I2, rv, q _ _ (R'.heap p fun i f d' b o' h1 h2 hx h3 h4 => by
      rw [upd_ne]
      · exact h4
      · rintro rfl
        exact ni i f d' h1 h2 hx h3)
    ⟨fun b o' h1 h2 => by rw [upd_ne (ne b o' h1)]; exact tr.frm b o' h1 h2, fun b o' h1 h2 => by rw [upd_ne (ne b o' h1)]; exact tr.per b o' h1 h2,
      fun b o' h1 => by rw [upd_ne (ne b o' h1)]; exact tr.dom b o' h1, tr.own, tr.len, tr.par, tr.lnb⟩ (m.frozen hu p)⟩
/-- .. a value -/
theorem pe_frz {X : Cx} {e : Expr} {Φ : Nat → Fn} {ir : IE} (h : PE X e (tF X.g Φ ir)) (hq : ∀ env d env', evE Φ ir env = some (d, env') → evF Φ ir env = some (d, env')) : PE X e (tE X.g Φ ir) := by
  refine ⟨fun pins s σ H Q I q => ?_⟩
  obtain ⟨env, d, env', R, ev, q⟩ := q
  exact thn (h.run pins s σ H _ I ⟨env, d, env', R, hq _ _ _ ev, fun a H' R' tr m n ni => ⟨a, rfl, R', tr, m, n, ni⟩⟩) fun u s' z => frz_end z q
end Dv
namespace Dv
open PySem PySem.Spec L2

def Op2R (X : Cx) (f : Value → Value → Sem Value) (g : D → D → Option D) : Prop :=
  ∀ (pins : List (Addr × Obj)) (s : Shared) (σ : L2.St) (H : Hp) (x y : V) (v u : Value) (dx dy dz : D), Inv X pins σ H s → RelV x v → RelV y u → Vw X.g H dx x → Vw X.g H dy y → g dx dy = some dz →
    wpAny (model X.prog X.w) X.A (f v u) (EP X pins σ fun z H' => Same H H' ∧ T X.g H' dz z) X.xe s
section
variable {X : Cx} {pins : List (Addr × Obj)} {s s' : Shared} {σ : L2.St} {H : Hp} {u : Value} {a : Addr}
theorem same_new {o : HO} (hn : H a = none) : Same H (upd H a o) := fun b x h => by rw [upd_ne (ne_of_none h hn)]; exact h
theorem same_per {H H' : Hp} (h : Same H H') : Per H H' := fun b o e _ => h b o e
theorem Rep.same {K : G} {env : En} {H' : Hp} (R : Rep K env σ H) (h : Same H H') : Rep K env σ H' := R.heap (same_per h) fun _ _ _ b o _ _ _ _ e => h b o e
theorem Tr.same {env : En} {H' : Hp} (h : Same H H') : Tr env σ H env σ H' :=
  ⟨fun b x e _ => h b x e, same_per h, fun b x e => ⟨x, h b x e⟩, fun _ h => .inl h, fun _ _ h => ⟨h, rfl⟩, fun _ d h => ⟨d, h, rfl⟩, fun _ _ h => h⟩
theorem Inv.lstR {xs : List V} (I : Inv X pins σ H s) (h : Rd H a (.lst xs)) : xs.length ≤ sizeLine ∧ ∃ (its : List Value) (n : Nat), Vals xs its ∧ xs.length = its.length ∧ s.heap.get? a = some { cls := .type "list", data := .seq its.toArray n } := by
  obtain ⟨z, its, n, r, e⟩ := h.ok I.hok
  exact ⟨z, its, n, r, r.length, e⟩
/-- a new list is kept for ever -/
theorem ep_frz {ds : List D} {zs : List V} (h : EP X pins σ (fun z H' => ∃ p, z = .ref p ∧ H p = none ∧ H' = upd H p (.lst zs)) u s') (t : TA X.g H ds zs) : EP X pins σ (fun z H' => Same H H' ∧ T X.g H' (.list ds) z) u s' := by
  obtain ⟨z, H', I, r, p, e, n, e2⟩ := h
  subst e e2
  obtain ⟨o, I2⟩ := inv_freeze I upd_same trivial
  rw [upd_upd] at I2
  refine ⟨.ref p, _, I2, r, same_new n, ?_⟩
  unfold T
  exact ⟨p, zs, rfl, ⟨o, upd_same⟩, TA.mono (per_new n) _ _ t⟩
theorem Vw.list {K : G} {ds : List D} {x : V} (h : Vw K H (.list ds) x) : ∃ a vs, x = .ref a ∧ Rd H a (.lst vs) ∧ TA K H ds vs := h
theorem Vw.tuple {K : G} {ds : List D} {x : V} (h : Vw K H (.tuple ds) x) : ∃ a vs, x = .ref a ∧ SqT K.K H a vs ∧ TA K H ds vs := by
  unfold Vw T at h; exact h
theorem Vw.int {K : G} {i : Int} {x : V} (h : Vw K H (.int i) x) : x = .int i := by unfold Vw T at h; exact h
theorem Vw.str {K : G} {i : Str} {x : V} (h : Vw K H (.str i) x) : x = .str i := by unfold Vw T at h; exact h
theorem Vw.bool {K : G} {i : Bool} {x : V} (h : Vw K H (.bool i) x) : x = .bl i := by unfold Vw T at h; exact h
theorem Vw.non {K : G} {x : V} (h : Vw K H .none x) : x = .non := by unfold Vw T at h; exact h
theorem T.tup {K : G} {ds : List D} {vs : List V} (h : SqT K.K H a vs) (t : TA K H ds vs) : T K H (.tuple ds) (.ref a) := by unfold T; exact ⟨a, vs, rfl, h, t⟩
theorem T.int {K : G} {i : Int} : T K H (.int i) (.int i) := by unfold T; rfl
theorem T.str {K : G} {i : Str} : T K H (.str i) (.str i) := by unfold T; rfl
theorem T.bool {K : G} {i : Bool} : T K H (.bool i) (.bl i) := by unfold T; rfl
theorem T.non {K : G} : T K H .none .non := by unfold T; rfl
theorem szOk_le {n : Nat} (h : szOk n = true) : n ≤ sizeLine := of_decide_eq_true h
theorem ta_nil {K : G} {ds : List D} (t : TA K H ds []) : ds = [] := List.eq_nil_of_length_eq_zero (by rw [t.length]; rfl)

theorem o_add : Op2R X (binaryOp .Add) addD := by
  intro pins s σ H x y v u dx dy dz I rx ry hx hy h
  unfold addD at h
  split at h
  · cases h
    rw [hx.int] at rx; rw [hy.int] at ry
    exact op_add pins s σ H _ _ v u _ I rx ry ⟨_, _, rfl, rfl, Same.refl H, T.int⟩
  · split at h
    · rename_i hz
      cases h
      rw [hx.str] at rx; rw [hy.str] at ry
      exact op_add_str pins s σ H _ _ v u _ I rx ry ⟨_, _, rfl, rfl, szOk_le hz, Same.refl H, T.str⟩
    · cases h
  · split at h
    · rename_i hz
      cases h
      obtain ⟨a, vs, rfl, ha, ta⟩ := hx.list
      obtain ⟨b, ws, rfl, hb, tb⟩ := hy.list
      cases rx; cases ry
      obtain ⟨z, its, n, r, hl, e⟩ := Inv.lstR I ha
      obtain ⟨z2, its2, n2, r2, hl2, e2⟩ := Inv.lstR I hb
      have hsz : vs.length + ws.length ≤ sizeLine := by rw [← ta.length, ← tb.length]; exact szOk_le hz
      refine PySem.P.add_list e e2 ?_ (by rw [List.size_toArray, List.size_toArray, ← hl, ← hl2]; exact hsz)
      have ea : its.toArray ++ its2.toArray = (its ++ its2).toArray := by simp
      rw [ea]
      refine ep_frz (zs := vs ++ ws) ?_ (ta.append tb)
      exact ⟨.ref _, _, I.lnew (t' := s.toks) (r.append r2) (by rw [List.length_append]; exact hsz), rfl, _, rfl, I.fresh, rfl⟩
    · cases h
  · split at h
    · rename_i hz
      cases h
      obtain ⟨a, vs, rfl, ha, ta⟩ := hx.tuple
      obtain ⟨b, ws, rfl, hb, tb⟩ := hy.tuple
      have hsz : vs.length + ws.length ≤ sizeLine := by rw [← ta.length, ← tb.length]; exact szOk_le hz
      refine op_catA pins s σ H _ _ v u _ I rx ry ⟨a, b, vs, ws, rfl, rfl, ha, hb, hsz, fun e => ?_, fun _ e => ?_, fun _ _ p hp => ?_⟩
      · subst e
        rw [ta_nil ta]
        exact ⟨Same.refl H, .tup hb tb⟩
      · subst e
        rw [ta_nil tb, List.append_nil]
        exact ⟨Same.refl H, .tup ha ta⟩
      · exact ⟨same_new hp, .tup (.of upd_same) (TA.mono (per_new hp) _ _ (ta.append tb))⟩
    · cases h
  · cases h
theorem o_sub : Op2R X (binaryOp .Sub) subD := by
  intro pins s σ H x y v u dx dy dz I rx ry hx hy h
  unfold subD at h
  split at h
  · cases h
    rw [hx.int] at rx; rw [hy.int] at ry
    exact op_sub pins s σ H _ _ v u _ I rx ry ⟨_, _, rfl, rfl, Same.refl H, T.int⟩
  · cases h
theorem o_fdiv : Op2R X (binaryOp .FloorDiv) fdivD := by
  intro pins s σ H x y v u dx dy dz I rx ry hx hy h
  unfold fdivD at h
  split at h
  · split at h
    · rename_i hz
      cases h
      rw [hx.int] at rx; rw [hy.int] at ry
      rw [Bool.and_eq_true, decide_eq_true_eq, decide_eq_true_eq] at hz
      exact op_fdiv pins s σ H _ _ v u _ I rx ry ⟨_, _, rfl, rfl, ⟨hz.1, by have := hz.2; omega⟩, Same.refl H, T.int⟩
    · cases h
  · cases h
theorem o_mod : Op2R X (binaryOp .Mod) modD := by
  intro pins s σ H x y v u dx dy dz I rx ry hx hy h
  unfold modD at h
  split at h
  · split at h
    · rename_i hz
      cases h
      rw [hx.int] at rx; rw [hy.int] at ry
      exact op_mod pins s σ H _ _ v u _ I rx ry ⟨_, _, rfl, rfl, of_decide_eq_true hz, Same.refl H, T.int⟩
    · cases h
  · cases h
theorem o_pow : Op2R X (binaryOp .Pow) powD := by
  intro pins s σ H x y v u dx dy dz I rx ry hx hy h
  unfold powD at h
  split at h
  · split at h
    · rename_i hz
      cases h
      rw [hx.int] at rx; rw [hy.int] at ry
      rw [Bool.and_eq_true, Bool.and_eq_true, decide_eq_true_eq, decide_eq_true_eq, decide_eq_true_eq] at hz
      exact op_pow pins s σ H _ _ v u _ I rx ry ⟨_, _, rfl, rfl, ⟨hz.1.1, by omega, hz.2⟩, Same.refl H, T.int⟩
    · cases h
  · cases h
theorem flat_rep {K : G} {ds : List D} {vs : List V} (t : TA K H ds vs) : ∀ n : Nat, TA K H (List.replicate n ds).flatten (List.replicate n vs).flatten
  | 0 => .nil
  | n + 1 => by
    rw [List.replicate_succ, List.replicate_succ, List.flatten_cons, List.flatten_cons]
    exact t.append (flat_rep t n)
theorem o_mul : Op2R X (binaryOp .Mult) mulD := by
  intro pins s σ H x y v u dx dy dz I rx ry hx hy h
  unfold mulD at h
  split at h
  · split at h
    · rename_i hz
      cases h
      rw [hx.int] at rx; rw [hy.int] at ry
      exact op_mul pins s σ H _ _ v u _ I rx ry ⟨_, _, rfl, rfl, mulOk_of hz, Same.refl H, T.int⟩
    · cases h
  · cases h
end
end Dv
namespace Dv
open PySem PySem.Spec L2
mutual
theorem dOk_plain : ∀ (d : D) (n : Nat), dOk d n = true → d.plain = true
  | .none, _, _ => rfl
  | .bool _, _, _ => rfl
  | .int _, _, _ => rfl
  | .str _, _, _ => rfl
  | .list xs, n, h => by
    rw [dOk, Bool.and_eq_true] at h
    rw [PyData.plain]
    exact dOkAll_plain xs _ h.2
  | .tuple xs, n, h => by
    rw [dOk, Bool.and_eq_true] at h
    rw [PyData.plain]
    exact dOkAll_plain xs _ h.2
  | .dict _, _, h => by rw [dOk] at h; cases h
theorem dOkAll_plain : ∀ (ds : List D) (n : Nat), dOkAll ds n = true → PyData.plainAll ds = true
  | [], _, _ => rfl
  | d :: ds, n, h => by
    rw [dOkAll, Bool.and_eq_true] at h
    rw [PyData.plainAll, dOk_plain d n h.1, dOkAll_plain ds n h.2]
    rfl
end
mutual
theorem dOk_depth : ∀ (d : D) (n : Nat), dOk d n = true → d.depth ≤ n
  | .none, _, _ => by simp [PyData.depth]
  | .bool _, _, _ => by simp [PyData.depth]
  | .int _, _, _ => by simp [PyData.depth]
  | .str _, _, _ => by simp [PyData.depth]
  | .list xs, n, h => by
    rw [dOk, Bool.and_eq_true, decide_eq_true_eq] at h
    have := dOkAll_depth xs _ h.2
    rw [PyData.depth]
    omega
  | .tuple xs, n, h => by
    rw [dOk, Bool.and_eq_true, decide_eq_true_eq] at h
    have := dOkAll_depth xs _ h.2
    rw [PyData.depth]
    omega
  | .dict _, _, h => by rw [dOk] at h; cases h
theorem dOkAll_depth : ∀ (ds : List D) (n : Nat), dOkAll ds n = true → PyData.depthAll ds ≤ n
  | [], _, _ => by simp [PyData.depthAll]
  | d :: ds, n, h => by
    rw [dOkAll, Bool.and_eq_true] at h
    have h1 := dOk_depth d n h.1
    have h2 := dOkAll_depth ds n h.2
    rw [PyData.depthAll]
    omega
end
section
variable {X : Cx} {pins : List (Addr × Obj)} {s : Shared} {σ : L2.St} {H : Hp}
mutual
theorem T.reads (I : Inv X pins σ H s) : ∀ (d : D) (n : Nat) (v : V) (u : Value), dOk d n = true → T X.g H d v → RelV v u → ∃ as, Reads s.heap u d as
  | .none, _, _, _, _, h, r => by
    unfold T at h; subst h; cases r
    exact ⟨_, Reads.none⟩
  | .bool b, _, _, _, _, h, r => by
    unfold T at h; subst h; cases r
    exact ⟨_, Reads.bool b⟩
  | .int i, _, _, _, _, h, r => by
    unfold T at h; subst h
    obtain ⟨t, rfl⟩ := r
    exact ⟨_, Reads.int i t⟩
  | .str x, _, _, _, _, h, r => by
    unfold T at h; subst h
    obtain ⟨t, rfl⟩ := r
    exact ⟨_, Reads.str x t⟩
  | .list ds, n, _, _, k, h, r => by
    rw [dOk, Bool.and_eq_true] at k
    unfold T at h
    obtain ⟨a, vs, rfl, ⟨o, q⟩, t⟩ := h
    cases r
    obtain ⟨z, its, m, rv, _, e⟩ := Inv.lstR I (.inr ⟨o, q⟩)
    obtain ⟨as, hr⟩ := TA.reads I ds _ vs its k.2 t rv
    exact ⟨_, Reads.list e rfl rfl (by simpa using hr)⟩
  | .tuple ds, n, _, _, k, h, r => by
    rw [dOk, Bool.and_eq_true] at k
    unfold T at h
    obtain ⟨a, vs, rfl, q, t⟩ := h
    cases r
    obtain ⟨its, rv, ⟨o, ho, hc, m, hd⟩, _⟩ := I.tuple q
    obtain ⟨as, hr⟩ := TA.reads I ds _ vs its k.2 t rv
    exact ⟨_, Reads.tuple ho hc hd (by simpa using hr)⟩
  | .dict _, _, _, _, k, _, _ => by rw [dOk] at k; cases k
theorem TA.reads (I : Inv X pins σ H s) : ∀ (ds : List D) (n : Nat) (vs : List V) (us : List Value), dOkAll ds n = true → TA X.g H ds vs → Vals vs us → ∃ as, ReadsAll s.heap us ds as
  | [], _, _, _, _, h, r => by
    unfold TA at h; subst h
    cases r
    exact ⟨_, ReadsAll.nil⟩
  | d :: ds, n, _, _, k, h, r => by
    rw [dOkAll, Bool.and_eq_true] at k
    unfold TA at h
    obtain ⟨v, vs, rfl, h1, h2⟩ := h
    cases r with
    | cons r1 r2 =>
      obtain ⟨as, q1⟩ := T.reads I d n v _ k.1 h1 r1
      obtain ⟨bs, q2⟩ := TA.reads I ds n vs _ k.2 h2 r2
      exact ⟨_, ReadsAll.cons q1 q2⟩
end
theorem Vw.reads (I : Inv X pins σ H s) {d : D} {n : Nat} {v : V} {u : Value} (k : dOk d n = true) (h : Vw X.g H d v) (r : RelV v u) : ∃ as, Reads s.heap u d as := by
  cases d with
  | list ds =>
    rw [dOk, Bool.and_eq_true] at k
    obtain ⟨a, vs, rfl, q, t⟩ := h.list
    cases r
    obtain ⟨z, its, m, rv, _, e⟩ := Inv.lstR I q
    obtain ⟨as, hr⟩ := TA.reads I ds _ vs its k.2 t rv
    exact ⟨_, Reads.list e rfl rfl (by simpa using hr)⟩
  | dict _ => rw [dOk] at k; cases k
  | _ => exact T.reads I _ n v u k h r
/-- the rules for data, as rules for values -/
theorem cmp_of {c : CmpOp} {g : D → D → Option Bool} (h : ∀ (pins : List (Addr × Obj)) (s : Shared) (σ : L2.St) (H : Hp) (x y : V) (v u : Value) (dx dy : D) (b : Bool) (Q : Value → Shared → Prop), Inv X pins σ H s → RelV x v → RelV y u → Vw X.g H dx x → Vw X.g H dy y → g dx dy = some b →
    (∀ s' : Shared, Inv X pins σ H s' → Q (.bool b) s') → wpAny (model X.prog X.w) X.A (compareOp c v u) Q X.xe s) : Op2R X (compareOp c) fun x y => (g x y).map PyData.bool := by
  intro pins s σ H x y v u dx dy dz I rx ry hx hy e
  replace e : (g dx dy).map PyData.bool = some dz := e
  cases q : g dx dy with
  | none => rw [q] at e; cases e
  | some b =>
    rw [q] at e
    cases e
    exact h pins s σ H x y v u dx dy b _ I rx ry hx hy q fun s' I' => ⟨.bl b, H, I', rfl, Same.refl H, T.bool⟩
theorem o_eq (hu : X.A.units + 64 < cLine) : Op2R X (compareOp .Eq) fun x y => (cmp2 .eq x y).map PyData.bool := cmp_of fun pins s σ H x y v u dx dy b Q I rx ry hx hy h q => by
  change (if (pln dx && pln dy) = true then some (PyData.eqv dx dy) else none) = some b at h
  split at h
  · rename_i k
    cases h
    rw [Bool.and_eq_true] at k
    obtain ⟨as, r1⟩ := Vw.reads I k.1 hx rx
    obtain ⟨bs, r2⟩ := Vw.reads I k.2 hy ry
    have := dOk_depth _ _ k.1
    exact SeqAt.eq_plain r1 r2 (dOk_plain _ _ k.1) (dOk_plain _ _ k.2) (by omega) (q s I)
  · cases h
theorem o_ne (hu : X.A.units + 64 < cLine) : Op2R X (compareOp .NotEq) fun x y => (cmp2 .ne x y).map PyData.bool := cmp_of fun pins s σ H x y v u dx dy b Q I rx ry hx hy h q => by
  change (if (pln dx && pln dy) = true then some (!PyData.eqv dx dy) else none) = some b at h
  split at h
  · rename_i k
    cases h
    rw [Bool.and_eq_true] at k
    obtain ⟨as, r1⟩ := Vw.reads I k.1 hx rx
    obtain ⟨bs, r2⟩ := Vw.reads I k.2 hy ry
    have := dOk_depth _ _ k.1
    exact SeqAt.ne_plain r1 r2 (dOk_plain _ _ k.1) (dOk_plain _ _ k.2) (by omega) (q s I)
  · cases h
theorem ord_of {dx dy : D} (h : ordOk dx dy = true) : W.alike dx dy = true ∧ dOk dx 40 = true ∧ dOk dy 40 = true ∧ dx ≠ .none := by
  unfold ordOk at h
  rw [Bool.and_eq_true, Bool.and_eq_true, Bool.and_eq_true] at h
  obtain ⟨⟨⟨h1, h2⟩, h3⟩, h4⟩ := h
  refine ⟨h1, h2, h3, ?_⟩
  rintro rfl
  cases h4
theorem o_lt (hu : X.A.units + 64 < cLine) : Op2R X (compareOp .Lt) fun x y => (cmp2 .lt x y).map PyData.bool := cmp_of fun pins s σ H x y v u dx dy b Q I rx ry hx hy h q => by
  change (if ordOk dx dy = true then some (W.dataLt dx dy) else none) = some b at h
  split at h
  · rename_i k
    cases h
    obtain ⟨ha, k1, k2, hn⟩ := ord_of k
    obtain ⟨as, r1⟩ := Vw.reads I k1 hx rx
    obtain ⟨bs, r2⟩ := Vw.reads I k2 hy ry
    have := dOk_depth _ _ k1
    exact W.lt_data r1 r2 ha hn (by omega) (q s I)
  · cases h
theorem o_gt (hu : X.A.units + 64 < cLine) : Op2R X (compareOp .Gt) fun x y => (cmp2 .gt x y).map PyData.bool := cmp_of fun pins s σ H x y v u dx dy b Q I rx ry hx hy h q => by
  change (if ordOk dx dy = true then some (W.dataLt dy dx) else none) = some b at h
  split at h
  · rename_i k
    cases h
    obtain ⟨ha, k1, k2, hn⟩ := ord_of k
    obtain ⟨as, r1⟩ := Vw.reads I k1 hx rx
    obtain ⟨bs, r2⟩ := Vw.reads I k2 hy ry
    have := dOk_depth _ _ k1
    exact W.gt_data r1 r2 ha hn (by omega) (q s I)
  · cases h
theorem o_le (hu : X.A.units + 64 < cLine) : Op2R X (compareOp .LtE) fun x y => (cmp2 .le x y).map PyData.bool := cmp_of fun pins s σ H x y v u dx dy b Q I rx ry hx hy h q => by
  change (if ordOk dx dy = true then some (!W.dataLt dy dx) else none) = some b at h
  split at h
  · rename_i k
    cases h
    obtain ⟨ha, k1, k2, hn⟩ := ord_of k
    obtain ⟨as, r1⟩ := Vw.reads I k1 hx rx
    obtain ⟨bs, r2⟩ := Vw.reads I k2 hy ry
    have := dOk_depth _ _ k1
    exact W.le_data r1 r2 ha hn (by omega) (q s I)
  · cases h
theorem o_ge (hu : X.A.units + 64 < cLine) : Op2R X (compareOp .GtE) fun x y => (cmp2 .ge x y).map PyData.bool := cmp_of fun pins s σ H x y v u dx dy b Q I rx ry hx hy h q => by
  change (if ordOk dx dy = true then some (!W.dataLt dx dy) else none) = some b at h
  split at h
  · rename_i k
    cases h
    obtain ⟨ha, k1, k2, hn⟩ := ord_of k
    obtain ⟨as, r1⟩ := Vw.reads I k1 hx rx
    obtain ⟨bs, r2⟩ := Vw.reads I k2 hy ry
    have := dOk_depth _ _ k1
    exact W.ge_data r1 r2 ha hn (by omega) (q s I)
  · cases h
theorem isN_of {dx : D} {x : V} (hx : Vw X.g H dx x) : decide (x = .non) = isNone dx := by
  cases dx with
  | none => rw [hx.non]; rfl
  | bool _ => rw [hx.bool]; rfl
  | int _ => rw [hx.int]; rfl
  | str _ => rw [hx.str]; rfl
  | list _ => obtain ⟨a, _, rfl, _⟩ := hx.list; rfl
  | tuple _ => obtain ⟨a, _, rfl, _⟩ := hx.tuple; rfl
  | dict _ => obtain ⟨a, rfl, _⟩ := hx; rfl
theorem o_isN : Op2R X (compareOp .Is) fun x y => (cmp2 .isN x y).map PyData.bool := by
  intro pins s σ H x y v u dx dy dz I rx ry hx hy h
  cases dy with
  | none =>
    rw [hy.non] at ry
    refine op_isN pins s σ H x .non v u _ I rx ry ⟨rfl, Same.refl H, ?_⟩
    rw [isN_of hx]
    cases dx <;> (cases h; exact T.bool)
  | _ => cases dx <;> cases h
theorem o_notN : Op2R X (compareOp .IsNot) fun x y => (cmp2 .notN x y).map PyData.bool := by
  intro pins s σ H x y v u dx dy dz I rx ry hx hy h
  cases dy with
  | none =>
    rw [hy.non] at ry
    refine op_notN pins s σ H x .non v u _ I rx ry ⟨rfl, Same.refl H, ?_⟩
    rw [isN_of hx]
    cases dx <;> (cases h; exact T.bool)
  | _ => cases dx <;> cases h
end
end Dv
namespace Dv
open PySem PySem.Spec L2

/-! ### keys -/
theorem eqv_keyD : ∀ a b : Key, PyData.eqv (keyD a) (keyD b) = decide (a = b)
  | .inl i, .inl j => by
    rw [key_ll]
    show PyData.eqv (.int i) (.int j) = _
    rw [PyData.eqv]
  | .inr x, .inr y => by
    rw [key_rr]
    show PyData.eqv (.str x) (.str y) = _
    rw [PyData.eqv, Bool.beq_eq_decide_eq]
  | .inl i, .inr y => by
    rw [key_lr]
    show PyData.eqv (.int i) (.str y) = _
    rw [PyData.eqv]
  | .inr x, .inl j => by
    rw [key_rl]
    show PyData.eqv (.str x) (.int j) = _
    rw [PyData.eqv]
mutual
theorem eqv_nk : ∀ (x y : D) (m n : Nat), dOk x m = true → dOk y n = true → kind.noList x = true → kind.noList y = true → PyData.eqv x y = NestedKey.beq (nk x) (nk y)
  | .none, .none, _, _, _, _, _, _ => by simp [PyData.eqv, nk, NestedKey.beq]
  | .none, .bool _, _, _, _, _, _, _ => by simp [PyData.eqv, nk, NestedKey.beq]
  | .none, .int _, _, _, _, _, _, _ => by simp [PyData.eqv, nk, NestedKey.beq]
  | .none, .str _, _, _, _, _, _, _ => by simp [PyData.eqv, nk, NestedKey.beq]
  | .none, .tuple _, _, _, _, _, _, _ => by simp [PyData.eqv, nk, NestedKey.beq]
  | .bool _, .none, _, _, _, _, _, _ => by simp [PyData.eqv, nk, NestedKey.beq]
  | .bool a, .bool b, _, _, _, _, _, _ => by cases a <;> cases b <;> simp [PyData.eqv, nk, NestedKey.beq]
  | .bool a, .int i, _, _, _, _, _, _ => by simp [PyData.eqv, nk, NestedKey.beq, Bool.beq_eq_decide_eq]
  | .bool _, .str _, _, _, _, _, _, _ => by simp [PyData.eqv, nk, NestedKey.beq]
  | .bool _, .tuple _, _, _, _, _, _, _ => by simp [PyData.eqv, nk, NestedKey.beq]
  | .int _, .none, _, _, _, _, _, _ => by simp [PyData.eqv, nk, NestedKey.beq]
  | .int i, .bool b, _, _, _, _, _, _ => by simp [PyData.eqv, nk, NestedKey.beq, Bool.beq_eq_decide_eq]
  | .int i, .int j, _, _, _, _, _, _ => by simp [PyData.eqv, nk, NestedKey.beq, Bool.beq_eq_decide_eq]
  | .int _, .str _, _, _, _, _, _, _ => by simp [PyData.eqv, nk, NestedKey.beq]
  | .int _, .tuple _, _, _, _, _, _, _ => by simp [PyData.eqv, nk, NestedKey.beq]
  | .str _, .none, _, _, _, _, _, _ => by simp [PyData.eqv, nk, NestedKey.beq]
  | .str _, .bool _, _, _, _, _, _, _ => by simp [PyData.eqv, nk, NestedKey.beq]
  | .str _, .int _, _, _, _, _, _, _ => by simp [PyData.eqv, nk, NestedKey.beq]
  | .str x, .str y, _, _, _, _, _, _ => by simp [PyData.eqv, nk, NestedKey.beq, Bool.beq_eq_decide_eq]
  | .str _, .tuple _, _, _, _, _, _, _ => by simp [PyData.eqv, nk, NestedKey.beq]
  | .tuple _, .none, _, _, _, _, _, _ => by simp [PyData.eqv, nk, NestedKey.beq]
  | .tuple _, .bool _, _, _, _, _, _, _ => by simp [PyData.eqv, nk, NestedKey.beq]
  | .tuple _, .int _, _, _, _, _, _, _ => by simp [PyData.eqv, nk, NestedKey.beq]
  | .tuple _, .str _, _, _, _, _, _, _ => by simp [PyData.eqv, nk, NestedKey.beq]
  | .tuple xs, .tuple ys, m, n, h1, h2, h3, h4 => by
    rw [dOk, Bool.and_eq_true] at h1 h2
    rw [PyData.eqv, nk, nk, NestedKey.beq]
    exact eqv_nks xs ys _ _ h1.2 h2.2 (by rw [kind.noList] at h3; exact h3) (by rw [kind.noList] at h4; exact h4)
  | .list _, _, _, _, _, _, h3, _ => by rw [kind.noList] at h3; cases h3
  | _, .list _, _, _, _, _, _, h4 => by rw [kind.noList] at h4; cases h4
  | .dict _, _, _, _, h1, _, _, _ => by rw [dOk] at h1; cases h1
  | _, .dict _, _, _, _, h2, _, _ => by rw [dOk] at h2; cases h2
theorem eqv_nks : ∀ (xs ys : List D) (m n : Nat), dOkAll xs m = true → dOkAll ys n = true → kind.noLists xs = true → kind.noLists ys = true → PyData.eqvAll xs ys = NestedKey.beqAll (nks xs) (nks ys)
  | [], [], _, _, _, _, _, _ => by simp [PyData.eqvAll, nks, NestedKey.beqAll]
  | [], _ :: _, _, _, _, _, _, _ => by simp [PyData.eqvAll, nks, NestedKey.beqAll]
  | _ :: _, [], _, _, _, _, _, _ => by simp [PyData.eqvAll, nks, NestedKey.beqAll]
  | x :: xs, y :: ys, m, n, h1, h2, h3, h4 => by
    rw [dOkAll, Bool.and_eq_true] at h1 h2
    rw [kind.noLists, Bool.and_eq_true] at h3 h4
    rw [PyData.eqvAll, nks, nks, NestedKey.beqAll, eqv_nk x y m n h1.1 h2.1 h3.1 h4.1, eqv_nks xs ys m n h1.2 h2.2 h3.2 h4.2]
end
theorem keyN_of {d : D} (h : keyN d = true) : ∃ xs, d = .tuple xs ∧ dOk d 7 = true ∧ kind.noList d = true := by
  unfold keyN at h
  rw [decide_eq_true_eq] at h
  cases d with
  | tuple xs =>
    rw [kind] at h
    split at h
    · rename_i q
      rw [Bool.and_eq_true] at q
      exact ⟨xs, rfl, q.1, q.2⟩
    · cases h
  | _ => simp [kind] at h
theorem eqv_keyN {x y : D} (hx : keyN x = true) (hy : keyN y = true) : PyData.eqv x y = decide (nk x = nk y) := by
  obtain ⟨_, _, a1, a2⟩ := keyN_of hx
  obtain ⟨_, _, b1, b2⟩ := keyN_of hy
  rw [NestedKey.decide_eq]
  exact eqv_nk x y 7 7 a1 b1 a2 b2
mutual
theorem nk_depth : ∀ (d : D) (n : Nat), dOk d n = true → (nk d).depth ≤ n
  | .none, _, _ => by simp [nk, NestedKey.depth]
  | .bool _, _, _ => by simp [nk, NestedKey.depth]
  | .int _, _, _ => by simp [nk, NestedKey.depth]
  | .str _, _, _ => by simp [nk, NestedKey.depth]
  | .list _, _, _ => by simp [nk, NestedKey.depth]
  | .dict _, _, _ => by simp [nk, NestedKey.depth]
  | .tuple xs, n, h => by
    rw [dOk, Bool.and_eq_true, decide_eq_true_eq] at h
    have := nks_depth xs _ h.2
    rw [nk, NestedKey.depth]
    omega
theorem nks_depth : ∀ (ds : List D) (n : Nat), dOkAll ds n = true → NestedKey.depthAll (nks ds) ≤ n
  | [], _, _ => by simp [nks, NestedKey.depthAll]
  | d :: ds, n, h => by
    rw [dOkAll, Bool.and_eq_true] at h
    have h1 := nk_depth d n h.1
    have h2 := nks_depth ds n h.2
    rw [nks, NestedKey.depthAll]
    omega
end
section
variable {X : Cx} {pins : List (Addr × Obj)} {s : Shared} {σ : L2.St} {H : Hp}
mutual
theorem T.nested (I : Inv X pins σ H s) : ∀ (d : D) (n : Nat) (v : V) (u : Value), dOk d n = true → kind.noList d = true → T X.g H d v → RelV v u → NestedIs s.heap (nk d) u
  | .none, _, _, _, _, _, h, r => by
    unfold T at h; subst h; cases r
    rw [nk]; exact .none
  | .bool b, _, _, _, _, _, h, r => by
    unfold T at h; subst h; cases r
    rw [nk]; exact .bool rfl
  | .int i, _, _, _, _, _, h, r => by
    unfold T at h; subst h
    obtain ⟨t, rfl⟩ := r
    rw [nk]; exact .int i t
  | .str x, _, _, _, _, _, h, r => by
    unfold T at h; subst h
    obtain ⟨t, rfl⟩ := r
    rw [nk]; exact .text x t
  | .tuple ds, n, _, _, k, l, h, r => by
    rw [dOk, Bool.and_eq_true] at k
    unfold T at h
    obtain ⟨a, vs, rfl, q, t⟩ := h
    cases r
    obtain ⟨its, rv, ⟨o, ho, hc, m, hd⟩, _⟩ := I.tuple q
    rw [nk]
    exact .tup ho hc hd (by simpa using TA.nested I ds _ vs its k.2 (by rw [kind.noList] at l; exact l) t rv)
  | .list _, _, _, _, _, l, _, _ => by rw [kind.noList] at l; cases l
  | .dict _, _, _, _, k, _, _, _ => by rw [dOk] at k; cases k
theorem TA.nested (I : Inv X pins σ H s) : ∀ (ds : List D) (n : Nat) (vs : List V) (us : List Value), dOkAll ds n = true → kind.noLists ds = true → TA X.g H ds vs → Vals vs us → NestedAll s.heap (nks ds) us
  | [], _, _, _, _, _, h, r => by
    unfold TA at h; subst h
    cases r
    rw [nks]; exact .nil
  | d :: ds, n, _, _, k, l, h, r => by
    rw [dOkAll, Bool.and_eq_true] at k
    rw [kind.noLists, Bool.and_eq_true] at l
    unfold TA at h
    obtain ⟨v, vs, rfl, h1, h2⟩ := h
    cases r with
    | cons r1 r2 =>
      rw [nks]
      exact .cons (T.nested I d n v _ k.1 l.1 h1 r1) (TA.nested I ds n vs _ k.2 l.2 h2 r2)
end
theorem T.keyN (I : Inv X pins σ H s) {d : D} {b : Addr} (hk : keyN d = true) (h : T X.g H d (.ref b)) : (nestedKind X.prog X.w).is s.heap (nk d) b := by
  obtain ⟨xs, _, h1, h2⟩ := keyN_of hk
  exact ⟨T.nested I d 7 _ _ h1 h2 h rfl, Nat.le_trans (nk_depth d 7 h1) (by decide)⟩
end

/-! ### dicts, by their entries -/
section
variable {K : G} {H : Hp}
def RO (K : G) (H : Hp) : Option D → Option V → Prop
  | some d, some v => T K H d v
  | none, none => True
  | _, _ => False
theorem TK.get {k : Key} : ∀ {kvs : List (D × D)} {kv : List (Key × V)}, TK K H kvs kv → RO K H (dGet kvs (keyD k)) (valV kv k)
  | [], _, h => by unfold TK at h; subst h; exact trivial
  | (k0, d) :: r, _, h => by
    unfold TK at h
    obtain ⟨k', v, r', rfl, rfl, t, q⟩ := h
    by_cases e : k' = k
    · subst e
      rw [valV_pos rfl]
      unfold dGet
      rw [List.find?_cons_of_pos (by rw [eqv_keyD]; simp)]
      exact t
    · rw [valV_neg e]
      have := TK.get (k := k) q
      unfold dGet at this ⊢
      rw [List.find?_cons_of_neg (by rw [eqv_keyD]; simpa using e)]
      exact this
theorem dHas_get (kvs : List (D × D)) (k : D) : dHas kvs k = (dGet kvs k).isSome := by
  unfold dHas dGet
  induction kvs with
  | nil => rfl
  | cons p r ih =>
    cases e : PyData.eqv p.1 k with
    | true => simp [List.any_cons, List.find?_cons, e]
    | false => simp only [List.any_cons, List.find?_cons, e, Bool.false_or, ih]
theorem RO.some_eq {o : Option D} {u : Option V} (h : RO K H o u) : o.isSome = u.isSome := by
  cases o <;> cases u <;> first | rfl | exact h.elim
theorem TK.length : ∀ {kvs : List (D × D)} {kv : List (Key × V)}, TK K H kvs kv → kvs.length = kv.length
  | [], _, h => by unfold TK at h; subst h; rfl
  | (k0, d) :: r, _, h => by
    unfold TK at h
    obtain ⟨k', v, r', rfl, _, _, q⟩ := h
    rw [List.length_cons, List.length_cons, TK.length q]
theorem TK.append : ∀ {kvs more : List (D × D)} {kv kw : List (Key × V)}, TK K H kvs kv → TK K H more kw → TK K H (kvs ++ more) (kv ++ kw)
  | [], _, _, _, h, g => by unfold TK at h; subst h; exact g
  | (k0, d) :: r, _, _, _, h, g => by
    unfold TK at h
    obtain ⟨k', v, r', rfl, rfl, t, q⟩ := h
    show TK K H ((keyD k', d) :: (r ++ _)) ((k', v) :: (r' ++ _))
    unfold TK
    exact ⟨k', v, _, rfl, rfl, t, TK.append q g⟩
theorem TK.map {k : Key} {d : D} {v : V} (t : T K H d v) : ∀ {kvs : List (D × D)} {kv : List (Key × V)}, TK K H kvs kv →
    TK K H (kvs.map fun p => if PyData.eqv p.1 (keyD k) = true then (p.1, d) else p) (kv.map fun p => if p.1 = k then (p.1, v) else p)
  | [], _, h => by unfold TK at h; subst h; rw [List.map_nil, List.map_nil]; unfold TK; rfl
  | (k0, d0) :: r, _, h => by
    unfold TK at h
    obtain ⟨k', v', r', rfl, rfl, t', q⟩ := h
    rw [List.map_cons, List.map_cons]
    by_cases e : k' = k
    · rw [if_pos (by rw [eqv_keyD]; simpa using e), if_pos e]
      unfold TK
      exact ⟨k', v, _, rfl, rfl, t, TK.map t q⟩
    · rw [if_neg (by rw [eqv_keyD]; simpa using e), if_neg e]
      unfold TK
      exact ⟨k', v', _, rfl, rfl, t', TK.map t q⟩
theorem TK.has {k : Key} {kvs : List (D × D)} {kv : List (Key × V)} (h : TK K H kvs kv) : dHas kvs (keyD k) = kv.any fun p => decide (p.1 = k) := by
  rw [dHas_get, h.get.some_eq, valV_any]
theorem TK.put {k : Key} {d : D} {v : V} {kvs : List (D × D)} {kv : List (Key × V)} (h : TK K H kvs kv) (t : T K H d v) : TK K H (dPut kvs (keyD k) d) (putK kv k v) := by
  unfold dPut putK
  rw [h.has]
  split
  · exact h.map t
  · refine h.append ?_
    unfold TK
    exact ⟨k, v, [], rfl, rfl, t, by unfold TK; rfl⟩
theorem TN.length : ∀ {kvs : List (D × D)} {xs : List (NestedKey × Addr × V)}, TN K H kvs xs → kvs.length = xs.length
  | [], _, h => by unfold TN at h; subst h; rfl
  | (k0, d) :: r, _, h => by
    unfold TN at h
    obtain ⟨b, v, r', rfl, _, _, _, q⟩ := h
    rw [List.length_cons, List.length_cons, TN.length q]
def valN (xs : List (NestedKey × Addr × V)) (k : NestedKey) : Option V := (xs.find? fun x => decide (x.1 = k)).map (·.2.2)
def putN (xs : List (NestedKey × Addr × V)) (k : NestedKey) (b : Addr) (v : V) : List (NestedKey × Addr × V) :=
  if (valN xs k).isSome then xs.map (fun x => if x.1 = k then (x.1, x.2.1, v) else x) else xs ++ [(k, b, v)]
theorem TN.get {k : D} (hk : keyN k = true) : ∀ {kvs : List (D × D)} {xs : List (NestedKey × Addr × V)}, TN K H kvs xs → RO K H (dGet kvs k) (valN xs (nk k))
  | [], _, h => by unfold TN at h; subst h; exact trivial
  | (k0, d) :: r, _, h => by
    unfold TN at h
    obtain ⟨b, v, r', rfl, h0, t1, t, q⟩ := h
    by_cases e : nk k0 = nk k
    · unfold dGet valN
      rw [List.find?_cons_of_pos (by rw [eqv_keyN h0 hk]; simpa using e), List.find?_cons_of_pos (by simpa using e)]
      exact t
    · have := TN.get hk q
      unfold dGet valN at this ⊢
      rw [List.find?_cons_of_neg (by rw [eqv_keyN h0 hk]; simpa using e), List.find?_cons_of_neg (by simpa using e)]
      exact this
theorem TN.append : ∀ {kvs more : List (D × D)} {kv kw : List (NestedKey × Addr × V)}, TN K H kvs kv → TN K H more kw → TN K H (kvs ++ more) (kv ++ kw)
  | [], _, _, _, h, g => by unfold TN at h; subst h; exact g
  | (k0, d) :: r, _, _, _, h, g => by
    unfold TN at h
    obtain ⟨b, v, r', rfl, h0, t1, t, q⟩ := h
    show TN K H ((k0, d) :: (r ++ _)) ((nk k0, b, v) :: (r' ++ _))
    unfold TN
    exact ⟨b, v, _, rfl, h0, t1, t, TN.append q g⟩
theorem TN.map {k d : D} {v : V} (hk : keyN k = true) (t : T K H d v) : ∀ {kvs : List (D × D)} {kv : List (NestedKey × Addr × V)}, TN K H kvs kv →
    TN K H (kvs.map fun p => if PyData.eqv p.1 k = true then (p.1, d) else p) (kv.map fun x => if x.1 = nk k then (x.1, x.2.1, v) else x)
  | [], _, h => by unfold TN at h; subst h; rw [List.map_nil, List.map_nil]; unfold TN; rfl
  | (k0, d0) :: r, _, h => by
    unfold TN at h
    obtain ⟨b, v', r', rfl, h0, t1, t', q⟩ := h
    rw [List.map_cons, List.map_cons]
    by_cases e : nk k0 = nk k
    · rw [if_pos (by rw [eqv_keyN h0 hk]; simpa using e), if_pos e]
      unfold TN
      exact ⟨b, v, _, rfl, h0, t1, t, TN.map hk t q⟩
    · rw [if_neg (by rw [eqv_keyN h0 hk]; simpa using e), if_neg e]
      unfold TN
      exact ⟨b, v', _, rfl, h0, t1, t', TN.map hk t q⟩
theorem TN.put {k d : D} {b : Addr} {v : V} {kvs : List (D × D)} {xs : List (NestedKey × Addr × V)} (h : TN K H kvs xs) (hk : keyN k = true) (tk : T K H k (.ref b)) (t : T K H d v) : TN K H (dPut kvs k d) (putN xs (nk k) b v) := by
  unfold dPut putN
  rw [dHas_get, (h.get hk).some_eq]
  split
  · exact h.map hk t
  · refine h.append ?_
    unfold TN
    exact ⟨b, v, [], rfl, hk, tk, t, by unfold TN; rfl⟩
end
end Dv
namespace Dv
open PySem PySem.Spec L2
section
variable {X : Cx} {pins : List (Addr × Obj)} {s : Shared} {σ : L2.St} {H : Hp} {a : Addr}
/-! ### dicts over the heap -/
def NdRel (xs : List (NestedKey × Addr × V)) (ys : List (NestedKey × Addr × Value)) : Prop := Paired (fun x y => x.1 = y.1 ∧ x.2.1 = y.2.1 ∧ RelV x.2.2 y.2.2) xs ys
theorem NdRel.get (k : NestedKey) : ∀ {xs : List (NestedKey × Addr × V)} {ys : List (NestedKey × Addr × Value)}, NdRel xs ys → RelO (valN xs k) ((atKey ys k).map (·.2))
  | _, _, .nil => trivial
  | x :: xs, y :: ys, .cons ⟨h1, h2, h3⟩ t => by
    have ih := NdRel.get k t
    unfold valN atKey at ih ⊢
    by_cases e : y.1 = k
    · rw [List.find?_cons_of_pos (by simpa [h1] using e), List.find?_cons_of_pos (by simpa using e)]
      exact h3
    · rw [List.find?_cons_of_neg (by simpa [h1] using e), List.find?_cons_of_neg (by simpa using e)]
      exact ih
theorem NdRel.append : ∀ {xs xs' : List (NestedKey × Addr × V)} {ys ys' : List (NestedKey × Addr × Value)}, NdRel xs ys → NdRel xs' ys' → NdRel (xs ++ xs') (ys ++ ys')
  | _, _, _, _, .nil, g => g
  | _, _, _, _, .cons r t, g => .cons r (NdRel.append t g)
theorem NdRel.put {k : NestedKey} {b : Addr} {v : V} {u : Value} (r : RelV v u) {xs : List (NestedKey × Addr × V)} {ys : List (NestedKey × Addr × Value)} (h : NdRel xs ys) : NdRel (putN xs k b v) (storedH ys k b u) := by
  unfold putN storedH
  have e : (valN xs k).isSome = (atKey ys k).isSome := by
    rw [(h.get k).isSome_eq, Option.isSome_map]
  rw [e]
  split
  · have : ∀ {xs : List (NestedKey × Addr × V)} {ys : List (NestedKey × Addr × Value)}, NdRel xs ys → NdRel (xs.map fun x => if x.1 = k then (x.1, x.2.1, v) else x) (ys.map (putAt k u)) := by
      intro xs ys h
      induction h with
      | nil => exact .nil
      | @cons x y xs ys hr _ ih =>
        rw [List.map_cons, List.map_cons]
        refine .cons ?_ ih
        obtain ⟨h1, h2, h3⟩ := hr
        unfold putAt
        by_cases q : x.1 = k
        · rw [if_pos q, if_pos (h1 ▸ q)]
          exact ⟨h1, h2, r⟩
        · rw [if_neg q, if_neg (h1 ▸ q)]
          exact ⟨h1, h2, h3⟩
    exact this h
  · exact h.append (.cons ⟨rfl, rfl, r⟩ .nil)
theorem TN.refs {K : G} {kvs : List (D × D)} {xs : List (NestedKey × Addr × V)} (h : TN K H kvs xs) : ∀ x ∈ xs, ∃ d, keyN d = true ∧ nk d = x.1 ∧ T K H d (.ref x.2.1) := by
  induction kvs generalizing xs with
  | nil => unfold TN at h; subst h; intro x hx; cases hx
  | cons p r ih =>
    obtain ⟨k0, d⟩ := p
    unfold TN at h
    obtain ⟨b, v, r', rfl, h0, t1, t, q⟩ := h
    intro x hx
    rcases List.mem_cons.mp hx with rfl | hx
    · exact ⟨k0, h0, rfl, t1⟩
    · exact ih q x hx
/-- what a dict and a key of its kind are -/
inductive DkAt (X : Cx) (H : Hp) (s : Shared) (a : Addr) (kvs : List (D × D)) (k : D) (y : V) : Prop
  | k (k' : Key) (kv : List (Key × V)) (vs : List (Key × Value)) : k = keyD k' → y = kV k' → TK X.g H kvs kv → KV kv vs → s.heap.DictOf (mixKind X.prog X.w) a vs → DkAt X H s a kvs k y
  | n (b : Addr) (xs : List (NestedKey × Addr × V)) (ys : List (NestedKey × Addr × Value)) : y = .ref b → keyN k = true → T X.g H k (.ref b) → (nestedKind X.prog X.w).is s.heap (nk k) b → TN X.g H kvs xs → NdRel xs ys → s.heap.DictOfH (nestedKind X.prog X.w) a ys → DkAt X H s a kvs k y
theorem keyN_kind {d : D} : keyN d = true ↔ kind d = some true := by unfold keyN; exact decide_eq_true_iff
theorem kind_keyD (k : Key) : kind (keyD k) = some false := by
  cases k with
  | inl i => exact kind.eq_1 i
  | inr x => exact kind.eq_2 x
theorem scal_of {k : D} {y : V} {K : G} (h : kind k = some false) (t : Vw K H k y) : ∃ k', k = keyD k' ∧ y = kV k' := by
  cases k with
  | int i => exact ⟨.inl i, rfl, t.int⟩
  | str x => exact ⟨.inr x, rfl, t.str⟩
  | tuple xs =>
    rw [kind] at h
    split at h <;> cases h
  | _ => simp [kind] at h
theorem ref_of {k : D} {y : V} {K : G} (h : keyN k = true) (t : Vw K H k y) : ∃ b, y = .ref b ∧ T K H k (.ref b) := by
  obtain ⟨xs, rfl, _, _⟩ := keyN_of h
  obtain ⟨b, vs, rfl, _, _⟩ := t.tuple
  exact ⟨b, rfl, t⟩
theorem nd_of (I : Inv X pins σ H s) {kvs : List (D × D)} {xs : List (NestedKey × Addr × V)} {ys : List (NestedKey × Addr × Value)} {o : Obj} {es : Array DictEntry} {ep : Nat} (t : TN X.g H kvs xs) (h1 : s.heap.get? a = some o) (h2 : o.ExactDict) (h3 : o.data = .dict es ep) (h4 : NdRel xs ys)
    (h5 : es.toList = ys.map (entryOfKey (nestedKind X.prog X.w))) (h6 : (ys.map (·.1)).Nodup) : s.heap.DictOfH (nestedKind X.prog X.w) a ys := by
  refine ⟨o, es, ep, h1, h2, h3, h5, fun y hy => ?_, h6⟩
  have go : ∀ {xs : List (NestedKey × Addr × V)} {ys : List (NestedKey × Addr × Value)}, NdRel xs ys → (∀ x ∈ xs, ∃ d, keyN d = true ∧ nk d = x.1 ∧ T X.g H d (.ref x.2.1)) → ∀ y ∈ ys, (nestedKind X.prog X.w).is s.heap y.1 y.2.1 := by
    intro xs ys hr
    induction hr with
    | nil => intro _ y hy; cases hy
    | @cons x y xs ys hr _ ih =>
      intro hx z hz
      rcases List.mem_cons.mp hz with rfl | hz
      · obtain ⟨d, hd1, hd2, hd3⟩ := hx x (by simp)
        rw [← hr.1, ← hr.2.1, ← hd2]
        exact T.keyN I hd1 hd3
      · exact ih (fun x' hx' => hx x' (by simp [hx'])) z hz
  exact go h4 t.refs y hy
theorem dict_at (I : Inv X pins σ H s) {kvs : List (D × D)} {k : D} {x y : V} (hx : Vw X.g H (.dict kvs) x) (hy : Vw X.g H k y) (hk : kOk kvs k = true) :
    ∃ a, x = .ref a ∧ (a == sysModules) = false ∧ kvs.length ≤ sizeLine ∧ DkAt X H s a kvs k y := by
  unfold kOk at hk
  rw [Bool.and_eq_true] at hk
  obtain ⟨hk1, hk2⟩ := hk
  obtain ⟨a, rfl, h⟩ := hx
  refine ⟨a, rfl, ?_⟩
  -- the empty dict is of both kinds
  have both : ∀ {kv : List (Key × V)} {vs : List (Key × Value)}, KV kv vs → s.heap.DictOf (mixKind X.prog X.w) a vs → kv = [] → s.heap.DictOfH (nestedKind X.prog X.w) a [] := fun {kv vs} rel dd e => by
    subst e
    cases rel
    obtain ⟨o, es, ep, h1, h2, h3, _, h5, _⟩ := dd
    refine ⟨o, es, ep, h1, h2, h3, ?_, (fun x hx => by cases hx), List.nodup_nil⟩
    cases hes : es.toList with
    | nil => rfl
    | cons e r => rw [hes] at h5; cases h5
  rcases h with ⟨kv, r, t⟩ | ⟨xs, r, t⟩
  · obtain ⟨z, hd, vs, rel, dd⟩ := dk_rd I.hok r
    refine ⟨hd, by rw [t.length]; exact z, ?_⟩
    cases q : kind k with
    | none => rw [q] at hk1; cases hk1
    | some b =>
      cases b with
      | false =>
        obtain ⟨k', e1, e2⟩ := scal_of q hy
        exact .k k' kv vs e1 e2 t rel dd
      | true =>
        obtain ⟨b, e, tb⟩ := ref_of (keyN_kind.mpr q) hy
        cases kvs with
        | nil =>
          have e0 : kv = [] := by unfold TK at t; exact t
          exact .n b [] [] e (keyN_kind.mpr q) tb (T.keyN I (keyN_kind.mpr q) tb) (by unfold TN; rfl) .nil (both rel dd e0)
        | cons p r =>
          obtain ⟨k0, d0⟩ := p
          rw [decide_eq_true_eq] at hk2
          unfold TK at t
          obtain ⟨k', v, r', _, e3, _, _⟩ := t
          subst e3
          rw [kind_keyD, q] at hk2
          cases hk2
  · have ok : ObjOk X.prog X.w H s.heap a (NdO X.g a xs) := r.ok I.hok
    obtain ⟨⟨hd, hz, o, es, ep, ys, h1, h2, h3, h4, h5, h6⟩, _, _⟩ := ok
    have hL : s.heap.DictOfH (nestedKind X.prog X.w) a ys := nd_of I t h1 h2 h3 h4 h5 h6
    refine ⟨hd, by rw [t.length]; exact hz, ?_⟩
    cases q : kind k with
    | none => rw [q] at hk1; cases hk1
    | some b =>
      cases b with
      | true =>
        obtain ⟨b, e, tb⟩ := ref_of (keyN_kind.mpr q) hy
        exact .n b xs ys e (keyN_kind.mpr q) tb (T.keyN I (keyN_kind.mpr q) tb) t h4 hL
      | false =>
        obtain ⟨k', e1, e2⟩ := scal_of q hy
        cases kvs with
        | nil =>
          have e0 : xs = [] := by unfold TN at t; exact t
          subst e0
          cases h4
          refine .k k' [] [] e1 e2 (by unfold TK; rfl) .nil ⟨o, es, ep, h1, h2, h3, ?_, ?_, List.nodup_nil⟩
          · intro e he
            have : es.toList = [] := h5
            have he' : e ∈ es.toList := by simpa using he
            rw [this] at he'; cases he'
          · have : es.toList = [] := h5
            rw [this]
            exact .nil
        | cons p r =>
          obtain ⟨k0, d0⟩ := p
          rw [decide_eq_true_eq] at hk2
          unfold TN at t
          obtain ⟨_, _, _, _, h0, _, _, _⟩ := t
          rw [keyN_kind.mp h0, q] at hk2
          cases hk2
/-- what stands at the key -/
theorem DkAt.val {kvs : List (D × D)} {k : D} {y : V} {d : D} (h : DkAt X H s a kvs k y) (e : dGet kvs k = some d) : ∃ v, T X.g H d v ∧ ∀ (A : Around) (E : Value → Shared → Prop) (u : Value) (Q : Value → Shared → Prop), A.units + 9 < cLine → RelV y u → Inv X pins σ H s →
    (∀ w' s', Inv X pins σ H s' → RelV v w' → Q w' s') → wpAny (model X.prog X.w) A (getItem (.ref a) u) Q E s := by
  rcases h with ⟨k', kv, vs, rfl, rfl, t, rel, dd⟩ | ⟨b, xs, ys, rfl, hk, tb, hb, t, rel, dd⟩
  · have r := t.get (k := k')
    rw [e] at r
    cases q : valV kv k' with
    | none => rw [q] at r; exact r.elim
    | some v =>
      rw [q] at r
      refine ⟨v, r, fun A E u Q hu ry I h => ?_⟩
      obtain ⟨w', hw, rw'⟩ := RelO.some_of (v := v) (o := valueAt vs k') (by rw [← q]; exact rel.val k')
      exact wpAny_getItem_of (kV_is ry) dd.mapOf hw (h w' _ (I.tok _) rw')
  · have r := t.get hk
    rw [e] at r
    cases q : valN xs (nk k) with
    | none => rw [q] at r; exact r.elim
    | some v =>
      rw [q] at r
      refine ⟨v, r, fun A E u Q hu ry I h => ?_⟩
      cases ry
      obtain ⟨w', hw, rw'⟩ := RelO.some_of (v := v) (o := (atKey ys (nk k)).map (·.2)) (by rw [← q]; exact rel.get _)
      obtain ⟨p, hp, hp2⟩ := Option.map_eq_some_iff.mp hw
      refine wpAny_getItem_heap (show A.in1.units + 8 < cLine from by show A.units + 1 + 8 < cLine; omega) hb dd hp ?_
      rw [hp2]
      exact h w' _ (I.tok _) rw'
theorem DkAt.isIn {kvs : List (D × D)} {k : D} {y : V} (h : DkAt X H s a kvs k y) (hd : (a == sysModules) = false) {A : Around} {E : Value → Shared → Prop} {u : Value} {Q : Value → Shared → Prop} (hu : A.units + 9 < cLine) (ry : RelV y u) (I : Inv X pins σ H s)
    (q : ∀ s', Inv X pins σ H s' → Q (.bool (dHas kvs k)) s') : wpAny (model X.prog X.w) A (compareOp .In u (.ref a)) Q E s := by
  rw [dHas_get] at q
  rcases h with ⟨k', kv, vs, rfl, rfl, t, rel, dd⟩ | ⟨b, xs, ys, rfl, hk, tb, hb, t, rel, dd⟩
  · rw [(t.get (k := k')).some_eq] at q
    refine wpAny_in_of (kV_is ry) hd dd.mapOf ?_
    rw [← (rel.val k').isSome_eq]
    exact q _ (I.tok _)
  · rw [(t.get hk).some_eq] at q
    cases ry
    refine wpAny_in_heap (show A.in1.units + 8 < cLine from by show A.units + 1 + 8 < cLine; omega) hb hd dd ?_
    have e := (rel.get (nk k)).isSome_eq
    rw [Option.isSome_map] at e
    rw [← e]
    exact q _ (I.tok _)
theorem DkAt.notIn {kvs : List (D × D)} {k : D} {y : V} (h : DkAt X H s a kvs k y) (hd : (a == sysModules) = false) {A : Around} {E : Value → Shared → Prop} {u : Value} {Q : Value → Shared → Prop} (hu : A.units + 9 < cLine) (ry : RelV y u) (I : Inv X pins σ H s)
    (q : ∀ s', Inv X pins σ H s' → Q (.bool (!dHas kvs k)) s') : wpAny (model X.prog X.w) A (compareOp .NotIn u (.ref a)) Q E s := by
  rw [dHas_get] at q
  rcases h with ⟨k', kv, vs, rfl, rfl, t, rel, dd⟩ | ⟨b, xs, ys, rfl, hk, tb, hb, t, rel, dd⟩
  · rw [(t.get (k := k')).some_eq] at q
    refine wpAny_notIn_of (kV_is ry) hd dd.mapOf ?_
    rw [← (rel.val k').isSome_eq]
    exact q _ (I.tok _)
  · rw [(t.get hk).some_eq] at q
    cases ry
    refine PyProof.Rows.wpAny_notIn_heap (show A.in1.units + 8 < cLine from by show A.units + 1 + 8 < cLine; omega) hb hd dd ?_
    have e := (rel.get (nk k)).isSome_eq
    rw [Option.isSome_map] at e
    rw [← e]
    exact q _ (I.tok _)
theorem dict_ext {o o' : Obj} {h' : Heap} : True := trivial
/-- a[k] = v -/
theorem DkAt.put {kvs : List (D × D)} {k dv : D} {y v : V} (h : DkAt X H s a kvs k y) (hd : (a == sysModules) = false) (hl : kvs.length < sizeLine) (mu : Mut (H a)) (na : ∀ b, H a ≠ some (.own b)) {A : Around} {E : Value → Shared → Prop} {u r : Value} {Q : Unit → Shared → Prop} (hu : A.units + 9 < cLine)
    (ry : RelV y u) (rv : RelV v r) (tv : T X.g H dv v) (I : Inv X pins σ H s) (q : ∀ o s', Inv X pins σ (upd H a o) s' → Frzb o → ((∃ kv, o = .dK kv ∧ TK X.g H (dPut kvs k dv) kv) ∨ ∃ xs, o = NdO X.g a xs ∧ TN X.g H (dPut kvs k dv) xs) → Q () s') :
    wpAny (model X.prog X.w) A (setItem (.ref a) u r) Q E s := by
  rcases h with ⟨k', kv, vs, rfl, rfl, t, rel, dd⟩ | ⟨b, xs, ys, rfl, hk, tb, hb, t, rel, dd⟩
  · have hz : vs.length ≤ sizeLine := by rw [← rel.length, ← t.length]; omega
    have hl2 : (putK kv k' v).length ≤ sizeLine := by have := length_putK kv k' v; rw [← t.length] at this; omega
    refine wpAny_setItem_pairs (hsz := hz) (kV_is ry) dd fun h' dd' hs => q (.dK (putK kv k' v)) _ ?_ trivial (.inl ⟨_, rfl, t.put tv⟩)
    have he : ∃ q, h'.get? a = some q := let ⟨q, _, _, hq, _⟩ := dd'; ⟨q, hq⟩
    exact d_write I mu hs he (dk_new hl2 hd (rel.put k' rv) dd')
  · cases ry
    have hz : ys.length ≤ sizeLine := by rw [← Paired.length rel, ← t.length]; omega
    refine wpAny_setItem_heap (hsz := hz) (show A.in1.units + 8 < cLine from by show A.units + 1 + 8 < cLine; omega) hb dd fun h' dd' hs => q (NdO X.g a (putN xs (nk k) b v)) _ ?_ trivial (.inr ⟨_, rfl, t.put hk tb tv⟩)
    obtain ⟨ob, es, ep, hq, h2, h3, h4, _, h5⟩ := dd'
    have hl2 : (putN xs (nk k) b v).length ≤ sizeLine := by
      have e := (t.put hk tb tv).length
      rw [← e]
      unfold dPut
      split
      · rw [List.length_map]; omega
      · rw [List.length_append, List.length_singleton]; omega
    exact d_write I mu hs ⟨ob, hq⟩ ⟨⟨hd, hl2, ob, es, ep, _, hq, h2, h3, NdRel.put rv rel, h4, h5⟩, ⟨ob, hq⟩, fun h1 h2' x k => by
      obtain ⟨x1, x2, o', es', ep', ys', y1, y2, y3, y4, y5, y6⟩ := x
      exact ⟨x1, x2, o', es', ep', ys', k _ y1, y2, y3, y4, y5, y6⟩⟩
end
end Dv
namespace Dv
open PySem PySem.Spec L2
open PyProof.Rows (subscriptTail tail_any)
section
variable {X : Cx}
theorem o_in (hu : X.A.units + 64 < cLine) : Op2R X (compareOp .In) fun x y => (cmp2 .isin x y).map PyData.bool := cmp_of fun pins s σ H x y v u dx dy b Q I rx ry hx hy h q => by
  change inD dx dy = some b at h
  unfold inD at h
  split at h
  · split at h
    · rename_i ys k
      cases h
      rw [Bool.and_eq_true] at k
      have k2 : dOk (.list ys) 41 = true := by rw [dOk, Bool.and_eq_true]; exact ⟨by decide, k.2⟩
      obtain ⟨as, r1⟩ := Vw.reads I k.1 hx rx
      obtain ⟨bs, r2⟩ := Vw.reads I k2 hy ry
      have := dOk_depth _ _ k.1
      exact SeqAt.in_list_data r2 r1 (dOkAll_plain _ _ k.2) (dOk_plain _ _ k.1) (by omega) (q s I)
    · cases h
  · split at h
    · rename_i ys k
      cases h
      rw [Bool.and_eq_true] at k
      have k2 : dOk (.tuple ys) 41 = true := by rw [dOk, Bool.and_eq_true]; exact ⟨by decide, k.2⟩
      obtain ⟨as, r1⟩ := Vw.reads I k.1 hx rx
      obtain ⟨bs, r2⟩ := Vw.reads I k2 hy ry
      have := dOk_depth _ _ k.1
      exact SeqAt.in_tuple_data r2 r1 (dOkAll_plain _ _ k.2) (dOk_plain _ _ k.1) (by omega) (q s I)
    · cases h
  · cases h
    rw [hx.str] at rx; rw [hy.str] at ry
    refine thn (op_in_str pins s σ H _ _ v u (fun z H' => z = .bl _ ∧ H' = H) I rx ry ⟨_, _, rfl, rfl, rfl, rfl⟩) fun w s' ⟨z, H', I', r, e1, e2⟩ => ?_
    subst e1 e2
    cases r
    exact q s' I'
  · split at h
    · rename_i k
      cases h
      obtain ⟨a, rfl, hd, _, at'⟩ := dict_at I hy hx k
      cases ry
      exact at'.isIn hd (by omega) rx I q
    · cases h
  · cases h
theorem o_notin (hu : X.A.units + 64 < cLine) : Op2R X (compareOp .NotIn) fun x y => (cmp2 .notin x y).map PyData.bool := cmp_of fun pins s σ H x y v u dx dy b Q I rx ry hx hy h q => by
  change (inD dx dy).map (!·) = some b at h
  unfold inD at h
  split at h
  · split at h
    · rename_i ys k
      cases h
      rw [Bool.and_eq_true] at k
      have k2 : dOk (.list ys) 41 = true := by rw [dOk, Bool.and_eq_true]; exact ⟨by decide, k.2⟩
      obtain ⟨as, r1⟩ := Vw.reads I k.1 hx rx
      obtain ⟨bs, r2⟩ := Vw.reads I k2 hy ry
      have := dOk_depth _ _ k.1
      exact SeqAt.notIn_list_data r2 r1 (dOkAll_plain _ _ k.2) (dOk_plain _ _ k.1) (by omega) (q s I)
    · cases h
  · split at h
    · rename_i ys k
      cases h
      rw [Bool.and_eq_true] at k
      have k2 : dOk (.tuple ys) 41 = true := by rw [dOk, Bool.and_eq_true]; exact ⟨by decide, k.2⟩
      obtain ⟨as, r1⟩ := Vw.reads I k.1 hx rx
      obtain ⟨bs, r2⟩ := Vw.reads I k2 hy ry
      have := dOk_depth _ _ k.1
      exact SeqAt.notIn_tuple_data r2 r1 (dOkAll_plain _ _ k.2) (dOk_plain _ _ k.1) (by omega) (q s I)
    · cases h
  · cases h
    rw [hx.str] at rx; rw [hy.str] at ry
    refine thn (op_notIn_str pins s σ H _ _ v u (fun z H' => z = .bl _ ∧ H' = H) I rx ry ⟨_, _, rfl, rfl, rfl, rfl⟩) fun w s' ⟨z, H', I', r, e1, e2⟩ => ?_
    subst e1 e2
    cases r
    exact q s' I'
  · split at h
    · rename_i k
      cases h
      obtain ⟨a, rfl, hd, _, at'⟩ := dict_at I hy hx k
      cases ry
      exact at'.notIn hd (by omega) rx I q
    · cases h
  · cases h

/-! ### items, stretches -/
def IxD (X : Cx) : Prop := ∀ (value slice : Expr) (pins : List (Addr × Obj)) (s : Shared) (σ : L2.St) (H : Hp) (x y : V) (v u : Value) (dx dy dz : D), Inv X pins σ H s → RelV x v → RelV y u → Vw X.g H dx x → Vw X.g H dy y → idxD dx dy = some dz →
  subscripted slice false v u = operate [v, u] (getItem v u) → wpAny (model X.prog X.w) X.A (subscriptTail value slice v u) (EP X pins σ fun z H' => Same H H' ∧ T X.g H' dz z) X.xe s
theorem sub_dict {pins : List (Addr × Obj)} {s : Shared} {σ : L2.St} {H : Hp} {a : Addr} {kvs : List (D × D)} {k : D} {y : V} {value slice : Expr} {u : Value} {Q : Value → Shared → Prop} (hT : s.TypeIs (.ref a) "dict") (hs : subscripted slice false (.ref a) u = operate [.ref a, u] (getItem (.ref a) u))
    (h : wpAny (model X.prog X.w) X.A (getItem (.ref a) u) Q X.xe s) : wpAny (model X.prog X.w) X.A (subscriptTail value slice (.ref a) u) Q X.xe s := tail_any hT PySem.F.slot_dict_getitem.lookup h hs
theorem i_idx (hu : X.A.units + 64 < cLine) : IxD X := by
  intro value slice pins s σ H x y v u dx dy dz I rx ry hx hy h hs
  unfold idxD at h
  split at h
  · rename_i xs i
    obtain ⟨k, hk, hz⟩ := Option.bind_eq_some_iff.mp h
    obtain ⟨a, vs, rfl, ha, t⟩ := hx.list
    rw [hy.int] at ry
    obtain ⟨w, hw, tw⟩ := t.get hz
    refine ix_list value slice pins s σ H _ _ v u _ I rx ry ⟨a, vs, i, w, rfl, rfl, .inl ha, ?_, Same.refl H, tw⟩ hs
    unfold atI
    rw [← t.length, hk]
    exact hw
  · rename_i xs i
    obtain ⟨k, hk, hz⟩ := Option.bind_eq_some_iff.mp h
    obtain ⟨a, vs, rfl, ha, t⟩ := hx.tuple
    rw [hy.int] at ry
    obtain ⟨w, hw, tw⟩ := t.get hz
    refine ix_tup value slice pins s σ H _ _ v u _ I rx ry ⟨a, vs, i, w, rfl, rfl, ha, ?_, Same.refl H, tw⟩ hs
    unfold atI
    rw [← t.length, hk]
    exact hw
  · split at h
    · rename_i z i hz
      obtain ⟨k, hk, h⟩ := Option.bind_eq_some_iff.mp h
      obtain ⟨c, hc, h⟩ := Option.map_eq_some_iff.mp h
      subst h
      rw [hx.str] at rx; rw [hy.int] at ry
      refine ix_str value slice pins s σ H _ _ v u _ I rx ry ⟨z, i, c, rfl, rfl, szOk_le hz, ?_, Same.refl H, T.str⟩ hs
      unfold atI
      rw [hk]
      exact hc
    · cases h
  · split at h
    · rename_i k
      obtain ⟨a, rfl, hd, _, at'⟩ := dict_at I hx hy k
      cases rx
      obtain ⟨w, tw, rule⟩ := at'.val (σ := σ) (pins := pins) h
      refine sub_dict (kvs := []) (k := .none) (y := y) (H := H) (σ := σ) (pins := pins) ?_ hs (rule X.A X.xe u _ (by omega) ry I fun w' s' I' r => ⟨w, H, I', r, Same.refl H, tw⟩)
      rcases at' with ⟨_, _, _, _, _, _, _, dd⟩ | ⟨_, _, _, _, _, _, _, _, _, dd⟩
      · exact dd.typeIs
      · exact dd.typeIs
    · cases h
  · cases h
theorem i_cut : SlR X fun x lo hi H Q => ∃ dx dz, Vw X.g H dx x ∧ cutD dx lo hi = some dz ∧ ∀ z H', Same H H' → T X.g H' dz z → Q z H' := by
  intro pins s σ H x v vl vu lo hi sl Q I rx hs pl pu h
  obtain ⟨dx, dz, hx, e, q⟩ := h
  unfold cutD at e
  split at e
  · cases e
    obtain ⟨a, vs, rfl, ha, t⟩ := hx.list
    obtain ⟨T', id, h1, h2, h3⟩ := sl_list pins s σ H _ v vl vu lo hi sl (fun z H' => ∃ p, z = .ref p ∧ H p = none ∧ H' = upd H p (.lst (cutV vs lo hi))) I rx hs pl pu ⟨a, vs, rfl, .inl ha, fun p hp => ⟨p, rfl, hp, rfl⟩⟩
    refine ⟨T', id, h1, h2, thn h3 fun w s' h => ?_⟩
    obtain ⟨z, H', I', r, sm, t'⟩ := ep_frz h (t.cut lo hi)
    exact ⟨z, H', I', r, q z H' sm t'⟩
  · cases e
    obtain ⟨a, vs, rfl, ha, t⟩ := hx.tuple
    refine sl_tupA pins s σ H _ v vl vu lo hi sl _ I rx hs pl pu ⟨a, vs, rfl, ha, fun hw => ?_, fun _ p hp => ?_⟩
    · refine q _ _ (Same.refl H) (.tup ha ?_)
      have := t.cut lo hi
      unfold cutV at this
      rw [hw.1, hw.2] at this
      simpa using this
    · exact q _ _ (same_new hp) (.tup (.of upd_same) (TA.mono (per_new hp) _ _ (t.cut lo hi)))
  · split at e
    · rename_i z hz
      cases e
      rw [hx.str] at rx
      exact sl_str pins s σ H _ v vl vu lo hi sl _ I rx hs pl pu ⟨z, rfl, szOk_le hz, q _ _ (Same.refl H) (by
        show T X.g H _ (.str (cutS z lo hi))
        have e : cutS z lo hi = ⟨(cutL z.cps.toList lo hi).toArray⟩ := by
          unfold cutS cutL
          rw [Array.length_toList]
          rfl
        rw [e]
        exact T.str)⟩
    · cases e
  · cases e
end
end Dv
namespace Dv
open PySem PySem.Spec L2
def BltR (X : Cx) (f : Value) (b : Blt) : Prop := ∀ (pins : List (Addr × Obj)) (s : Shared) (σ : L2.St) (H : Hp) (xs : List V) (us : List Value) (ds : List D) (d : D), Inv X pins σ H s → Vals xs us → VwA X.g H ds xs → blt b ds = some d →
  wpAny (model X.prog X.w) X.A (call f us) (EP X pins σ fun z H' => Same H H' ∧ T X.g H' d z) X.xe s
section
variable {K : G} {H : Hp}
theorem VwA.one {d : D} {xs : List V} (h : VwA K H [d] xs) : ∃ x, xs = [x] ∧ Vw K H d x := by
  match xs, h with
  | [x], h => exact ⟨x, rfl, h.1⟩
theorem VwA.two {d e : D} {xs : List V} (h : VwA K H [d, e] xs) : ∃ x y, xs = [x, y] ∧ Vw K H d x ∧ Vw K H e y := by
  match xs, h with
  | [x, y], h => exact ⟨x, y, rfl, h.1, h.2.1⟩
theorem ints_of : ∀ {xs : List D} {ns : List Int} {vs : List V}, intsOf xs = some ns → TA K H xs vs → vs = ns.map V.int
  | [], ns, vs, h, t => by
    cases h
    unfold TA at t
    exact t
  | x :: xs, ns, vs, h, t => by
    unfold TA at t
    obtain ⟨v, r, rfl, t1, t2⟩ := t
    cases x with
    | int i =>
      obtain ⟨ms, h1, h2⟩ := Option.map_eq_some_iff.mp h
      subst h2
      rw [List.map_cons, ints_of h1 t2]
      unfold T at t1
      rw [t1]
    | _ => cases h
theorem strs_of : ∀ {xs : List D} {ns : List Str} {vs : List V}, strsOf xs = some ns → TA K H xs vs → vs = ns.map V.str
  | [], ns, vs, h, t => by
    cases h
    unfold TA at t
    exact t
  | x :: xs, ns, vs, h, t => by
    unfold TA at t
    obtain ⟨v, r, rfl, t1, t2⟩ := t
    cases x with
    | str i =>
      obtain ⟨ms, h1, h2⟩ := Option.map_eq_some_iff.mp h
      subst h2
      rw [List.map_cons, strs_of h1 t2]
      unfold T at t1
      rw [t1]
    | _ => cases h
theorem bools_of : ∀ {xs : List D} {ns : List Bool} {vs : List V}, boolsOf xs = some ns → TA K H xs vs → vs = ns.map V.bl
  | [], ns, vs, h, t => by
    cases h
    unfold TA at t
    exact t
  | x :: xs, ns, vs, h, t => by
    unfold TA at t
    obtain ⟨v, r, rfl, t1, t2⟩ := t
    cases x with
    | bool i =>
      obtain ⟨ms, h1, h2⟩ := Option.map_eq_some_iff.mp h
      subst h2
      rw [List.map_cons, bools_of h1 t2]
      unfold T at t1
      rw [t1]
    | _ => cases h
end
theorem maxI_ge : ∀ (ns : List Int) (m : Int), m ≤ maxI m ns ∧ (∀ y ∈ ns, y ≤ maxI m ns) ∧ (maxI m ns = m ∨ maxI m ns ∈ ns)
  | [], m => ⟨Int.le_refl _, (fun y h => by cases h), .inl rfl⟩
  | x :: r, m => by
    have h := maxI_ge r (if x > m then x else m)
    have e : maxI m (x :: r) = maxI (if x > m then x else m) r := rfl
    rw [e]
    obtain ⟨h1, h2, h3⟩ := h
    have hx : x ≤ (if x > m then x else m) ∧ m ≤ (if x > m then x else m) := by split <;> omega
    refine ⟨by omega, fun y hy => ?_, ?_⟩
    · rcases List.mem_cons.mp hy with rfl | hy
      · omega
      · exact h2 y hy
    · rcases h3 with h3 | h3
      · by_cases q : x > m
        · rw [if_pos q] at h3 ⊢
          exact .inr (by rw [h3]; simp)
        · rw [if_neg q] at h3 ⊢
          exact .inl h3
      · exact .inr (by simp [h3])
theorem minI_le : ∀ (ns : List Int) (m : Int), minI m ns ≤ m ∧ (∀ y ∈ ns, minI m ns ≤ y) ∧ (minI m ns = m ∨ minI m ns ∈ ns)
  | [], m => ⟨Int.le_refl _, (fun y h => by cases h), .inl rfl⟩
  | x :: r, m => by
    have h := minI_le r (if x < m then x else m)
    have e : minI m (x :: r) = minI (if x < m then x else m) r := rfl
    rw [e]
    obtain ⟨h1, h2, h3⟩ := h
    have hx : (if x < m then x else m) ≤ x ∧ (if x < m then x else m) ≤ m := by split <;> omega
    refine ⟨by omega, fun y hy => ?_, ?_⟩
    · rcases List.mem_cons.mp hy with rfl | hy
      · omega
      · exact h2 y hy
    · rcases h3 with h3 | h3
      · by_cases q : x < m
        · rw [if_pos q] at h3 ⊢
          exact .inr (by rw [h3]; simp)
        · rw [if_neg q] at h3 ⊢
          exact .inl h3
      · exact .inr (by simp [h3])
section
variable {X : Cx}
theorem b_len : BltR X (.builtin "len") .len := by
  intro pins s σ H xs us ds d I r hv h
  change lenD ds = some d at h
  unfold lenD at h
  split at h
  · cases h
    obtain ⟨x, rfl, hx⟩ := hv.one
    obtain ⟨a, vs, rfl, ha, t⟩ := hx.list
    rw [t.length]
    exact call_len_seq pins s σ H _ us _ I r ⟨a, vs, rfl, .inl (.inl ha), Same.refl H, T.int⟩
  · cases h
    obtain ⟨x, rfl, hx⟩ := hv.one
    obtain ⟨a, vs, rfl, ha, t⟩ := hx.tuple
    rw [t.length]
    exact call_len_seq pins s σ H _ us _ I r ⟨a, vs, rfl, .inr ha, Same.refl H, T.int⟩
  · split at h
    · rename_i hz
      cases h
      obtain ⟨x, rfl, hx⟩ := hv.one
      rw [hx.str] at r
      exact call_len_str pins s σ H _ us _ I r ⟨_, rfl, szOk_le hz, Same.refl H, T.int⟩
    · cases h
  · cases h
    obtain ⟨x, rfl, hx⟩ := hv.one
    obtain ⟨a, rfl, h⟩ := hx
    rw [Vals.ref1 r]
    rcases h with ⟨kv, q, t⟩ | ⟨zs, q, t⟩
    · rw [t.length]
      exact d_len I q fun t s' I' => ⟨.int _, H, I', ⟨t, rfl⟩, Same.refl H, T.int⟩
    · obtain ⟨a1, a2, o, es, ep, ys, b1, b2, b3, b4, b5, b6⟩ := (show ObjOk X.prog X.w H s.heap a (NdO X.g a zs) from q.ok I.hok).1
      have hm : s.heap.DictOfH (nestedKind X.prog X.w) a ys := nd_of I t b1 b2 b3 b4 b5 b6
      have e : zs.length = ys.length := Paired.length b4
      refine call_len_dictH a1 hm (by rw [← e]; rw [sizeLine_eq] at a2; omega) ?_
      rw [t.length, e]
      exact ⟨.int _, H, I.tok _, ⟨_, rfl⟩, Same.refl H, T.int⟩
  · cases h
theorem b_int : BltR X (.type "int") .int := by
  intro pins s σ H xs us ds d I r hv h
  change intD ds = some d at h
  unfold intD at h
  split at h
  · cases h
    obtain ⟨x, rfl, hx⟩ := hv.one
    rw [hx.int] at r
    exact call_int1 pins s σ H _ us _ I r (.inl ⟨_, rfl, Same.refl H, T.int⟩)
  · cases h
    obtain ⟨x, rfl, hx⟩ := hv.one
    rw [hx.bool] at r
    exact call_int1 pins s σ H _ us _ I r (.inr ⟨_, rfl, Same.refl H, T.int⟩)
  · cases h
theorem b_abs : BltR X (.builtin "abs") .abs := by
  intro pins s σ H xs us ds d I r hv h
  change absD ds = some d at h
  unfold absD at h
  split at h
  · cases h
    obtain ⟨x, rfl, hx⟩ := hv.one
    rw [hx.int] at r
    exact call_abs pins s σ H _ us _ I r ⟨_, rfl, Same.refl H, T.int⟩
  · cases h
theorem b_tuple : BltR X (.type "tuple") .tuple := by
  intro pins s σ H xs us ds d I r hv h
  change tupleD ds = some d at h
  unfold tupleD at h
  split at h
  · cases h
    obtain ⟨x, rfl, hx⟩ := hv.one
    obtain ⟨a, vs, rfl, ha, t⟩ := hx.list
    exact call_tuple_of pins s σ H _ us _ I r ⟨a, vs, rfl, .inl ⟨.inl ha, fun l hl => ⟨same_new hl, .tup (.of upd_same) (TA.mono (per_new hl) _ _ t)⟩⟩⟩
  · cases h
    obtain ⟨x, rfl, hx⟩ := hv.one
    obtain ⟨a, vs, rfl, ha, t⟩ := hx.tuple
    exact call_tuple_of pins s σ H _ us _ I r ⟨a, vs, rfl, .inr ⟨ha, Same.refl H, .tup ha t⟩⟩
  · cases h
/-- a new list of one's own -/
theorem b_listF {pins : List (Addr × Obj)} {s : Shared} {σ : L2.St} {H : Hp} {xs : List V} {us : List Value} {ds : List D} {d : D} (I : Inv X pins σ H s) (r : Vals xs us) (hv : VwA X.g H ds xs) (h : listD ds = some d) :
    wpAny (model X.prog X.w) X.A (call (.type "list") us) (EP X pins σ fun z H' => ∃ l zs es, z = .ref l ∧ H l = none ∧ H' = upd H l (.lst zs) ∧ d = .list es ∧ TA X.g H es zs) X.xe s := by
  unfold listD at h
  split at h
  · cases h
    obtain ⟨x, rfl, hx⟩ := hv.one
    obtain ⟨a, vs, rfl, ha, t⟩ := hx.list
    exact call_list_of pins s σ H _ us _ I r ⟨a, vs, rfl, .inl (.inl ha), fun l hl => ⟨l, vs, _, rfl, hl, rfl, rfl, t⟩⟩
  · cases h
    obtain ⟨x, rfl, hx⟩ := hv.one
    obtain ⟨a, vs, rfl, ha, t⟩ := hx.tuple
    exact call_list_of pins s σ H _ us _ I r ⟨a, vs, rfl, .inr ha, fun l hl => ⟨l, vs, _, rfl, hl, rfl, rfl, t⟩⟩
  · cases h
theorem b_list : BltR X (.type "list") .list := by
  intro pins s σ H xs us ds d I r hv h
  refine thn (b_listF I r hv h) fun u s' ⟨z, H', I', rz, l, zs, es, e1, hl, e2, e3, t⟩ => ?_
  subst e3
  exact ep_frz ⟨z, H', I', rz, l, e1, hl, e2⟩ t
theorem b_sum (hc : X.calm = true) : BltR X (.builtin "sum") .sum := by
  intro pins s σ H xs us ds d I r hv h
  change sumD ds = some d at h
  unfold sumD at h
  split at h
  · obtain ⟨ns, h1, h2⟩ := Option.map_eq_some_iff.mp h
    subst h2
    obtain ⟨x, rfl, hx⟩ := hv.one
    obtain ⟨a, vs, rfl, ha, t⟩ := hx.list
    have e := ints_of h1 t
    subst e
    exact cr_sum hc pins s σ H _ us _ I r ⟨a, ns, rfl, .inl ha, Same.refl H, T.int⟩
  · cases h
theorem b_max (hc : X.calm = true) : BltR X (.builtin "max") .max := by
  intro pins s σ H xs us ds d I r hv h
  change maxD ds = some d at h
  unfold maxD at h
  split at h
  · obtain ⟨ns, h1, h2⟩ := Option.bind_eq_some_iff.mp h
    obtain ⟨x, rfl, hx⟩ := hv.one
    obtain ⟨a, vs, rfl, ha, t⟩ := hx.list
    have e := ints_of h1 t
    subst e
    cases ns with
    | nil => cases h2
    | cons m ns =>
      cases h2
      refine cr_max hc pins s σ H _ us _ I r ⟨a, _, rfl, .inl ha, by simp, fun k hk hy => ⟨Same.refl H, ?_⟩⟩
      obtain ⟨a1, a2, a3⟩ := maxI_ge ns m
      have e : k = maxI m ns := by
        have b1 : maxI m ns ≤ k := hy _ (by rcases a3 with a3 | a3; rw [a3]; simp; simp [a3])
        have b2 : k ≤ maxI m ns := by
          rcases List.mem_cons.mp hk with rfl | hk
          · exact a1
          · exact a2 k hk
        omega
      rw [e]
      exact T.int
  · cases h
theorem b_min (hc : X.calm = true) : BltR X (.builtin "min") .min := by
  intro pins s σ H xs us ds d I r hv h
  change minD ds = some d at h
  unfold minD at h
  split at h
  · obtain ⟨ns, h1, h2⟩ := Option.bind_eq_some_iff.mp h
    obtain ⟨x, rfl, hx⟩ := hv.one
    obtain ⟨a, vs, rfl, ha, t⟩ := hx.list
    have e := ints_of h1 t
    subst e
    cases ns with
    | nil => cases h2
    | cons m ns =>
      cases h2
      refine cr_min hc pins s σ H _ us _ I r ⟨a, _, rfl, .inl ha, by simp, fun k hk hy => ⟨Same.refl H, ?_⟩⟩
      obtain ⟨a1, a2, a3⟩ := minI_le ns m
      have e : k = minI m ns := by
        have b1 : k ≤ minI m ns := hy _ (by rcases a3 with a3 | a3; rw [a3]; simp; simp [a3])
        have b2 : minI m ns ≤ k := by
          rcases List.mem_cons.mp hk with rfl | hk
          · exact a1
          · exact a2 k hk
        omega
      rw [e]
      exact T.int
  · cases h
theorem b_max2 (hc : X.calm = true) : BltR X (.builtin "max") .max2 := by
  intro pins s σ H xs us ds d I r hv h
  change max2D ds = some d at h
  unfold max2D at h
  split at h
  · cases h
    obtain ⟨x, y, rfl, hx, hy⟩ := hv.two
    rw [hx.int, hy.int] at r
    exact call_max2 hc pins s σ H _ us _ I r ⟨_, _, rfl, Same.refl H, T.int⟩
  · cases h
theorem b_min2 (hc : X.calm = true) : BltR X (.builtin "min") .min2 := by
  intro pins s σ H xs us ds d I r hv h
  change min2D ds = some d at h
  unfold min2D at h
  split at h
  · cases h
    obtain ⟨x, y, rfl, hx, hy⟩ := hv.two
    rw [hx.int, hy.int] at r
    exact call_min2 hc pins s σ H _ us _ I r ⟨_, _, rfl, Same.refl H, T.int⟩
  · cases h
theorem b_all (hc : X.calm = true) : BltR X (.builtin "all") .all := by
  intro pins s σ H xs us ds d I r hv h
  change allD ds = some d at h
  unfold allD at h
  split at h
  · obtain ⟨ns, h1, h2⟩ := Option.map_eq_some_iff.mp h
    subst h2
    obtain ⟨x, rfl, hx⟩ := hv.one
    obtain ⟨a, vs, rfl, ha, t⟩ := hx.list
    have e := bools_of h1 t
    subst e
    exact cr_all hc pins s σ H _ us _ I r ⟨a, ns, rfl, .inl ha, Same.refl H, T.bool⟩
  · cases h
/-! sorted -/
theorem each_ta {X : Cx} {pins : List (Addr × Obj)} {s : Shared} {σ : L2.St} {H : Hp} : ∀ {ds : List D} {vs : List V} {us : List Value}, TA X.g H ds vs → Vals vs us → W.EachIs (fun u d => ∃ v, RelV v u ∧ T X.g H d v) us ds
  | [], _, _, t, r => by
    unfold TA at t; subst t; cases r
    exact .nil
  | d :: ds, _, _, t, r => by
    unfold TA at t
    obtain ⟨v, vs, rfl, t1, t2⟩ := t
    cases r with
    | cons r1 r2 => exact .cons ⟨v, r1, t1⟩ (each_ta (pins := pins) (s := s) (σ := σ) t2 r2)
theorem ta_each {K : G} {H : Hp} : ∀ {ds : List D} {us : List Value}, W.EachIs (fun u d => ∃ v, RelV v u ∧ T K H d v) us ds → ∃ vs, TA K H ds vs ∧ Vals vs us
  | _, _, .nil => ⟨[], .nil, .nil⟩
  | _, _, .cons ⟨v, r, t⟩ e => by
    obtain ⟨vs, t2, r2⟩ := ta_each e
    exact ⟨v :: vs, .cons t t2, .cons r r2⟩
theorem each_reads {pins : List (Addr × Obj)} {s : Shared} {σ : L2.St} {H : Hp} (I : Inv X pins σ H s) {n : Nat} : ∀ {ds : List D} {vs : List V} {us : List Value}, dOkAll ds n = true → TA X.g H ds vs → Vals vs us → W.EachIs (fun u d => ∃ as, Reads s.heap u d as) us ds
  | [], _, _, _, t, r => by
    unfold TA at t; subst t; cases r
    exact .nil
  | d :: ds, _, _, k, t, r => by
    rw [dOkAll, Bool.and_eq_true] at k
    unfold TA at t
    obtain ⟨v, vs, rfl, t1, t2⟩ := t
    cases r with
    | cons r1 r2 => exact .cons (T.reads I d n v _ k.1 t1 r1) (each_reads I k.2 t2 r2)
theorem dOkAll_mem : ∀ {ds : List D} {n : Nat} {d : D}, dOkAll ds n = true → d ∈ ds → dOk d n = true
  | e :: ds, n, d, h, hm => by
    rw [dOkAll, Bool.and_eq_true] at h
    rcases List.mem_cons.mp hm with rfl | hm
    · exact h.1
    · exact dOkAll_mem h.2 hm
theorem srt_of {xs : List D} (h : srtOk xs = true) : W.AllAlike xs ∧ dOkAll xs 40 = true ∧ W.Sortable xs := by
  unfold srtOk at h
  rw [Bool.and_eq_true, Bool.and_eq_true, Bool.or_eq_true, List.all_eq_true, List.all_eq_true, List.all_eq_true] at h
  obtain ⟨⟨h1, h2⟩, h3⟩ := h
  refine ⟨fun d hd d' hd' => List.all_eq_true.mp (h1 d hd) d' hd', h2, ?_⟩
  rcases h3 with h3 | h3
  · refine .inl fun d hd => ?_
    have := h3 d hd
    split at this
    · exact ⟨_, _, rfl⟩
    · cases this
  · refine .inr fun d hd => ?_
    have := h3 d hd
    refine ⟨?_, fun xs => ?_⟩
    · rintro rfl; cases this
    · rintro rfl; cases this
theorem sorted_list {pins : List (Addr × Obj)} {s : Shared} {σ : L2.St} {H : Hp} {l : Addr} {items : List Value} {xs : List D} {vs : List V} (I : Inv X pins σ H s) (hu : X.A.units + 64 < cLine) (hl : s.heap.IsList l items.toArray) (t : TA X.g H xs vs) (r : Vals vs items) (hz : xs.length ≤ sizeLine) (h : srtOk xs = true) :
    wpAny (model X.prog X.w) X.A (call (.builtin "sorted") [.ref l]) (EP X pins σ fun z H' => ∃ p zs, z = .ref p ∧ H p = none ∧ H' = upd H p (.lst zs) ∧ TA X.g H (srtD xs) zs) X.xe s := by
  obtain ⟨h1, h2, h3⟩ := srt_of h
  refine W.sorted_data (enc := id) (bs := xs) hl (each_ta (pins := pins) (s := s) (σ := σ) t r) (each_reads I h2 t r) (by rw [List.map_id]; exact h1) (by rw [List.map_id]; exact h3) hz (fun b hb => ?_) fun out ho he => ?_
  · have := dOk_depth _ _ (dOkAll_mem h2 hb)
    show X.A.units + 2 + b.depth < cLine
    omega
  · obtain ⟨zs, tz, rz⟩ := ta_each he
    obtain ⟨ep, he'⟩ := PyProof.Rows.sortedAll_at s.heap items out.toArray
    have hlen : zs.length ≤ sizeLine := by rw [rz.length, ho]; exact hz
    exact ⟨.ref _, upd H (s.heap.objs.size + 1) (.lst zs), I.laid (t' := s.toks) (fun _ _ => PyProof.Rows.sortedAll_old) (Nat.le_succ _) ⟨hlen, out, ep, rz, he'⟩, rfl, _, zs, rfl, I.hok.fresh (Nat.le_succ _), rfl, tz⟩
theorem b_sorted (hu : X.A.units + 64 < cLine) : BltR X (.builtin "sorted") .sorted := by
  intro pins s σ H xs us ds d I r hv h
  change sortedD ds = some d at h
  unfold sortedD at h
  split at h
  · split at h
    · rename_i k
      cases h
      obtain ⟨x, rfl, hx⟩ := hv.one
      obtain ⟨a, vs, rfl, ha, t⟩ := hx.list
      rw [Vals.ref1 r]
      obtain ⟨z, its, n, rv, hl, e⟩ := Inv.lstR I ha
      refine thn (sorted_list I hu ⟨_, e, rfl, n, rfl⟩ t rv (by rw [t.length]; exact z) k) fun u s' ⟨z, H', I', rz, p, zs, e1, hp, e2, t'⟩ => ?_
      exact ep_frz ⟨z, H', I', rz, p, e1, hp, e2⟩ t'
    · cases h
  · cases h
end
end Dv
namespace Dv
open PySem PySem.Spec L2
def MetR (X : Cx) (id : String) (m : Met) : Prop := ∀ (pins : List (Addr × Obj)) (s : Shared) (σ : L2.St) (H : Hp) (x : V) (xs : List V) (v : Value) (us : List Value) (dx : D) (ds : List D) (d : D), Inv X pins σ H s → RelV x v → Vals xs us → Vw X.g H dx x → TA X.g H ds xs → met m dx ds = some d →
  wpAny (model X.prog X.w) X.A (call (.builtin id) (v :: us)) (EP X pins σ fun z H' => Same H H' ∧ T X.g H' d z) X.xe s
/-- behind a change of the object at a -/
def ChAt (g : G) (H : Hp) (a : Addr) (d : D) (H' : Hp) : Prop := ∃ o, H' = upd H a o ∧ Mt g H' d (.ref a) ∧ Frzb o
def MuR (X : Cx) (id : String) (m : Mu) : Prop := ∀ (pins : List (Addr × Obj)) (s : Shared) (σ : L2.St) (H : Hp) (a : Addr) (xs : List V) (us : List Value) (dx : D) (ds : List D) (d d' : D), Inv X pins σ H s → Vals xs us → Mt X.g H dx (.ref a) → TA X.g H ds xs → mutD m dx ds = some (d, d') →
  wpAny (model X.prog X.w) X.A (call (.builtin id) (.ref a :: us)) (EP X pins σ fun z H' => ChAt X.g H a d' H' ∧ T X.g H' d z) X.xe s
section
variable {K : G} {H : Hp}
theorem TA.one {d : D} {xs : List V} (h : TA K H [d] xs) : ∃ x, xs = [x] ∧ T K H d x := by
  unfold TA at h
  obtain ⟨v, r, rfl, t, u⟩ := h
  unfold TA at u
  subst u
  exact ⟨v, rfl, t⟩
theorem TA.two {d e : D} {xs : List V} (h : TA K H [d, e] xs) : ∃ x y, xs = [x, y] ∧ T K H d x ∧ T K H e y := by
  unfold TA at h
  obtain ⟨v, r, rfl, t, u⟩ := h
  obtain ⟨y, rfl, t2⟩ := TA.one u
  exact ⟨v, y, rfl, t, t2⟩
theorem Mt.list {a : Addr} {ds : List D} (h : Mt K H (.list ds) (.ref a)) : ∃ vs, H a = some (.lst vs) ∧ TA K H ds vs := by
  obtain ⟨b, vs, e, hb, t⟩ := h
  cases e
  exact ⟨vs, hb, t⟩
theorem ch_list {a : Addr} {zs vs : List V} {es : List D} (h : H a = some (.lst vs)) (t : TA K H es zs) : ChAt K H a (.list es) (upd H a (.lst zs)) :=
  ⟨_, rfl, ⟨a, zs, rfl, upd_same, TA.mono (per_upd h id) _ _ t⟩, trivial⟩
end
section
variable {X : Cx}
theorem m_endswith : MetR X "str.endswith" .endswith := by
  intro pins s σ H x xs v us dx ds d I rx r hx hv h
  change endswithD dx ds = some d at h
  unfold endswithD at h
  split at h
  · cases h
    obtain ⟨y, rfl, hy⟩ := hv.one
    rw [hx.str] at rx; rw [hy.vw.str] at r
    exact mt_endswith pins s σ H _ _ v us _ I rx r ⟨_, _, rfl, rfl, Same.refl H, T.bool⟩
  · cases h
theorem m_join : MetR X "str.join" .join := by
  intro pins s σ H x xs v us dx ds d I rx r hx hv h
  change joinD dx ds = some d at h
  unfold joinD at h
  split at h
  · obtain ⟨ys, h1, h2⟩ := Option.bind_eq_some_iff.mp h
    split at h2
    · rename_i hz
      cases h2
      obtain ⟨y, rfl, hy⟩ := hv.one
      rw [hx.str] at rx
      obtain ⟨a, vs, rfl, ha, t⟩ := hy.vw.list
      have e := strs_of h1 t
      subst e
      exact mt_join pins s σ H _ _ v us _ I rx r ⟨_, a, ys, rfl, rfl, .inl (.inl ha), szOk_le hz, Same.refl H, by rw [TL.join_eq]; exact T.str⟩
    · cases h2
  · obtain ⟨ys, h1, h2⟩ := Option.bind_eq_some_iff.mp h
    split at h2
    · rename_i hz
      cases h2
      obtain ⟨y, rfl, hy⟩ := hv.one
      rw [hx.str] at rx
      obtain ⟨a, vs, rfl, ha, t⟩ := hy.vw.tuple
      have e := strs_of h1 t
      subst e
      exact mt_join pins s σ H _ _ v us _ I rx r ⟨_, a, ys, rfl, rfl, .inr ha, szOk_le hz, Same.refl H, by rw [TL.join_eq]; exact T.str⟩
    · cases h2
  · cases h
theorem ref_rel {a : Addr} {v : Value} (h : RelV (.ref a) v) : v = .ref a := h
theorem m_get (hu : X.A.units + 64 < cLine) : MetR X "dict.get" .get := by
  intro pins s σ H x xs v us dx ds d I rx r hx hv h
  change getD' dx ds = some d at h
  unfold getD' at h
  have key : ∀ {kvs : List (D × D)} {k dd : D} {y : V} {w : V}, Vw X.g H (.dict kvs) x → Vw X.g H k y → kOk kvs k = true → T X.g H dd w → ∀ (u r' : Value), RelV y u → RelV w r' →
      (∀ Q : Value → Shared → Prop, (∀ w' s' z, Inv X pins σ H s' → RelV z w' → T X.g H ((dGet kvs k).getD dd) z → Q w' s') → wpAny (model X.prog X.w) X.A (call (.builtin "dict.get") [v, u, r']) Q X.xe s) ∧
      (dd = .none → ∀ Q : Value → Shared → Prop, (∀ w' s' z, Inv X pins σ H s' → RelV z w' → T X.g H ((dGet kvs k).getD dd) z → Q w' s') → wpAny (model X.prog X.w) X.A (call (.builtin "dict.get") [v, u]) Q X.xe s) := by
    intro kvs k dd y w hx hy hk tw u r' ry rr
    obtain ⟨a, rfl, hd, hl, at'⟩ := dict_at I hx hy hk
    cases rx
    rcases at' with ⟨k', kv, vs, rfl, rfl, t, rel, dd'⟩ | ⟨b, xs, ys, rfl, hk, tb, hb, t, rel, dd'⟩
    · have ro := t.get (k := k')
      have res : ∀ {dw : Value}, RelV w dw → ∃ z, RelV z ((valueAt vs k').getD dw) ∧ T X.g H ((dGet kvs (keyD k')).getD dd) z := fun {dw} rw' => by
        refine ⟨(valV kv k').getD w, (rel.val k').getD rw', ?_⟩
        cases q : valV kv k' with
        | none =>
          rw [q] at ro
          cases q2 : dGet kvs (keyD k') with
          | none => exact tw
          | some _ => rw [q2] at ro; exact ro.elim
        | some z =>
          rw [q] at ro
          cases q2 : dGet kvs (keyD k') with
          | none => rw [q2] at ro; exact ro.elim
          | some _ => rw [q2] at ro; exact ro
      refine ⟨fun Q q => ?_, fun e Q q => ?_⟩
      · obtain ⟨z, rz, tz⟩ := res rr
        exact call_meetsIn PySem.F.slot_dict_get dd'.typeIs PySem.F.entry_dict_get (PySem.F.args_dict_get_3 _ _ _) (meets_dict_get_default (mixKind X.prog X.w) a (kV_is ry) hd r') ⟨_, dd'.mapOf, q _ _ z (I.tok _) rz tz⟩
      · subst e
        obtain rfl : w = .non := by unfold T at tw; exact tw
        obtain ⟨z, rz, tz⟩ := res (dw := Value.none) rfl
        exact call_meetsIn PySem.F.slot_dict_get dd'.typeIs PySem.F.entry_dict_get (PySem.F.args_dict_get_2 _ _) (meets_dict_get (mixKind X.prog X.w) a (kV_is ry) hd) ⟨_, dd'.mapOf, q _ _ z (I.tok _) rz tz⟩
    · cases ry
      have ro := t.get hk
      have room : X.A.in1.units + 8 < cLine := by show X.A.units + 1 + 8 < cLine; omega
      have res : ∀ {dw : Value}, RelV w dw → ∃ z, RelV z (((atKey ys (nk k)).map (·.2)).getD dw) ∧ T X.g H ((dGet kvs k).getD dd) z := fun {dw} rw' => by
        refine ⟨(valN xs (nk k)).getD w, (rel.get (nk k)).getD rw', ?_⟩
        cases q : valN xs (nk k) with
        | none =>
          rw [q] at ro
          cases q2 : dGet kvs k with
          | none => exact tw
          | some _ => rw [q2] at ro; exact ro.elim
        | some z =>
          rw [q] at ro
          cases q2 : dGet kvs k with
          | none => rw [q2] at ro; exact ro.elim
          | some _ => rw [q2] at ro; exact ro
      refine ⟨fun Q q => ?_, fun e Q q => ?_⟩
      · obtain ⟨z, rz, tz⟩ := res rr
        exact call_meetsIn PySem.F.slot_dict_get dd'.typeIs PySem.F.entry_dict_get (PySem.F.args_dict_get_3 _ _ _) (meetsH_dict_get_default (nestedKind X.prog X.w) a b hd r') ⟨room, nk k, ys, hb, dd', q _ _ z (I.tok _) rz tz⟩
      · subst e
        obtain rfl : w = .non := by unfold T at tw; exact tw
        obtain ⟨z, rz, tz⟩ := res (dw := Value.none) rfl
        exact call_meetsIn PySem.F.slot_dict_get dd'.typeIs PySem.F.entry_dict_get (PySem.F.args_dict_get_2 _ _) (meetsH_dict_get (nestedKind X.prog X.w) a b hd) ⟨room, nk k, ys, hb, dd', q _ _ z (I.tok _) rz tz⟩
  split at h
  · split at h
    · rename_i hk
      cases h
      obtain ⟨y, rfl, hy⟩ := hv.one
      obtain ⟨u, rfl, ru⟩ := vals1 r
      exact (key hx hy.vw hk (T.non) u .none ru rfl).2 rfl _ fun w' s' z I' rz tz => ⟨z, H, I', rz, Same.refl H, tz⟩
    · cases h
  · split at h
    · rename_i hk
      cases h
      obtain ⟨y, z, rfl, hy, hz⟩ := hv.two
      obtain ⟨u, r', rfl, ru, rr⟩ := vals2 r
      exact (key hx hy.vw hk hz u r' ru rr).1 _ fun w' s' z I' rz tz => ⟨z, H, I', rz, Same.refl H, tz⟩
    · cases h
  · cases h
theorem u_append : MuR X "list.append" .append := by
  intro pins s σ H a xs us dx ds d d' I r hm hv h
  change appendD dx ds = some (d, d') at h
  unfold appendD at h
  split at h
  · split at h
    · rename_i hz
      cases h
      obtain ⟨vs, hb, t⟩ := hm.list
      obtain ⟨y, rfl, hy⟩ := hv.one
      refine mt_append pins s σ H (.ref a) [y] _ us _ I rfl r ⟨a, vs, y, rfl, rfl, hb, ?_, ch_list hb (t.append (.cons hy .nil)), T.non⟩
      have := szOk_le hz
      rw [t.length] at this
      exact this
    · cases h
  · cases h
theorem u_extend : MuR X "list.extend" .extend := by
  intro pins s σ H a xs us dx ds d d' I r hm hv h
  change extendD dx ds = some (d, d') at h
  unfold extendD at h
  split at h
  · split at h
    · rename_i hz
      cases h
      obtain ⟨vs, hb, t⟩ := hm.list
      obtain ⟨y, rfl, hy⟩ := hv.one
      obtain ⟨b, ws, rfl, hw, t2⟩ := hy.vw.list
      rw [Vals.ref1 r]
      have hz' := szOk_le hz
      rw [t.length, t2.length] at hz'
      obtain ⟨z, its, n, r1, hl, e⟩ := I.lstM hb
      obtain ⟨z2, its2, n2, r2, hl2, e2⟩ := Inv.lstR I hw
      have hsz : its.toArray.size + its2.toArray.size ≤ sizeLine := by rw [List.size_toArray, List.size_toArray]; omega
      have hlong : ¬ (!its.toArray.isEmpty && Builtin.List.listTooLong (its.toArray.size + its2.toArray.size)) = true := by
        rw [notLongL hsz, Bool.and_false]
        exact Bool.false_ne_true
      refine call_meets PySem.F.slot_list_extend ⟨_, e, rfl⟩ PySem.F.entry_list_extend (PySem.F.args_list_extend_2 _ _)
        (AutoSeq1.list_extend_list_list_0 a its.toArray n b its2.toArray n2 hlong (by rw [List.size_toArray]; omega) (by omega)) ⟨e, e2, ?_⟩
      refine ⟨.non, _, I.lset (its' := its ++ its2) (ys := vs ++ ws) hb e (by simp) (r1.append r2) ?_, rfl, ch_list hb (t.append t2), T.non⟩
      rw [List.length_append]
      omega
    · cases h
  · cases h
theorem ta_dropLast {K : G} {H : Hp} {ds : List D} {vs : List V} (t : TA K H ds vs) : TA K H ds.dropLast vs.dropLast := by
  rw [List.dropLast_eq_take, List.dropLast_eq_take, t.length]
  exact t.take _
theorem u_pop : MuR X "list.pop" .pop := by
  intro pins s σ H a xs us dx ds d d' I r hm hv h
  change popD dx ds = some (d, d') at h
  unfold popD at h
  split at h
  · obtain ⟨y, hy, h2⟩ := Option.map_eq_some_iff.mp h
    cases h2
    obtain ⟨vs, hb, t⟩ := hm.list
    have hx : xs = [] := by unfold TA at hv; exact hv
    subst hx
    rw [t.length] at hy
    obtain ⟨w, hw, tw⟩ := t.get hy
    refine mt_pop pins s σ H (.ref a) [] _ us _ I rfl r ⟨a, vs, w, rfl, rfl, hb, hw, ch_list hb (ta_dropLast t), T.mono (per_upd hb id) _ _ tw⟩
  · cases h
/-- a dict's content behind a change -/
theorem ch_dict {g : G} {H : Hp} {a : Addr} {u o : HO} {kvs : List (D × D)} (hu : H a = some u) (nu : ¬ ImmO u) (h : (∃ kv, o = .dK kv ∧ TK g H kvs kv) ∨ ∃ xs, o = NdO g a xs ∧ TN g H kvs xs) : ChAt g H a (.dict kvs) (upd H a o) := by
  have p := per_upd (o := o) hu nu
  rcases h with ⟨kv, rfl, t⟩ | ⟨xs, rfl, t⟩
  · exact ⟨_, rfl, ⟨a, rfl, .inl ⟨kv, upd_same, TK.mono p _ _ t⟩⟩, trivial⟩
  · exact ⟨_, rfl, ⟨a, rfl, .inr ⟨xs, upd_same, TN.mono p _ _ t⟩⟩, trivial⟩
theorem dPut_new {kvs : List (D × D)} {k v : D} (h : dHas kvs k = false) : dPut kvs k v = kvs ++ [(k, v)] := by
  unfold dPut
  rw [if_neg (by rw [h]; decide)]
theorem u_setdefault (hu : X.A.units + 64 < cLine) : MuR X "dict.setdefault" .setdefault := by
  intro pins s σ H a xs us dx ds d d' I r hm hv h
  change setdefaultD dx ds = some (d, d') at h
  unfold setdefaultD at h
  split at h
  · split at h
    · rename_i kvs k dv hk
      rw [Bool.and_eq_true] at hk
      obtain ⟨y, w, rfl, hy, tw⟩ := hv.two
      obtain ⟨u, r', rfl, ru, rr⟩ := vals2 r
      obtain ⟨b, e, hd, hl, at'⟩ := dict_at I hm.vw hy.vw hk.1
      cases e
      obtain ⟨o0, ho0, fo⟩ := hm.frzb
      have mu : Mut (H a) := by
        rw [ho0]
        cases o0 <;> first | exact trivial | exact fo.elim
      have nimm := fo.nimm
      have hz : kvs.length < sizeLine := szOk_le hk.2
      -- the content as it was
      have stay : ∀ {H' : Hp}, H' = H → ChAt X.g H a (.dict kvs) H' := fun {H'} e => by
        subst e
        refine ⟨o0, ?_, hm, fo⟩
        funext c
        unfold upd
        split
        · rename_i q; subst q; exact ho0
        · rfl
      rcases at' with ⟨k', kv, vs, rfl, rfl, t, rel, dd'⟩ | ⟨b, xs, ys, rfl, hk', tb, hb, t, rel, dd'⟩
      · have ro := t.get (k := k')
        have rv := rel.val k'
        have hzv : vs.length ≤ sizeLine := by rw [← rel.length, ← t.length]; omega
        refine call_meetsIn PySem.F.slot_dict_setdefault dd'.typeIs PySem.F.entry_dict_setdefault (PySem.F.args_dict_setdefault_3 _ _ _) (kt_meets_setdefault (mixKind X.prog X.w) a (kV_is ru) hd r') ⟨vs, dd', hzv, fun v hv' => ?_, fun hn h' dd2 hs => ?_⟩
        · rw [hv'] at rv
          cases q : valV kv k' with
          | none => rw [q] at rv; exact (show False from rv).elim
          | some z =>
            rw [q] at rv ro
            cases q2 : dGet kvs (keyD k') with
            | none => rw [q2] at ro; exact ro.elim
            | some dd =>
              rw [q2] at ro
              have hh : dHas kvs (keyD k') = true := by rw [dHas_get, q2]; rfl
              rw [q2, if_pos hh] at h
              cases h
              exact ⟨z, H, I.tok _, rv, stay rfl, ro⟩
        · rw [hn] at rv
          cases q : valV kv k' with
          | some z => rw [q] at rv; exact (show False from rv).elim
          | none =>
            rw [q] at ro
            cases q2 : dGet kvs (keyD k') with
            | some _ => rw [q2] at ro; exact ro.elim
            | none =>
              have hh : dHas kvs (keyD k') = false := by rw [dHas_get, q2]; rfl
              rw [q2, if_neg (by rw [hh]; decide)] at h
              cases h
              have hl2 : (putK kv k' w).length ≤ sizeLine := by have := length_putK kv k' w; rw [← t.length] at this; omega
              have he : ∃ q, h'.get? a = some q := let ⟨q, _, _, hq, _⟩ := dd2; ⟨q, hq⟩
              refine ⟨w, _, d_write (t' := s.toks + 1) I mu hs he (dk_new hl2 hd (rel.put k' rr) dd2), rr, ch_dict ho0 nimm (.inl ⟨_, rfl, ?_⟩), T.mono (per_upd ho0 nimm) _ _ tw⟩
              rw [← dPut_new hh]
              exact t.put tw
      · cases ru
        have ro := t.get hk'
        have rv := rel.get (nk k)
        have room : X.A.in1.units + 8 < cLine := by show X.A.units + 1 + 8 < cLine; omega
        have hzv : ys.length ≤ sizeLine := by rw [← Paired.length rel, ← t.length]; omega
        refine call_setdefault_heap (hsz := hzv) room hb hd dd' (fun p hp => ?_) fun hn h' dd2 hs => ?_
        · rw [hp] at rv
          cases q : valN xs (nk k) with
          | none => rw [q] at rv; exact (show False from rv).elim
          | some z =>
            rw [q] at rv ro
            cases q2 : dGet kvs k with
            | none => rw [q2] at ro; exact ro.elim
            | some dd =>
              rw [q2] at ro
              have hh : dHas kvs k = true := by rw [dHas_get, q2]; rfl
              rw [q2, if_pos hh] at h
              cases h
              exact ⟨z, H, I.tok _, rv, stay rfl, ro⟩
        · rw [hn] at rv
          cases q : valN xs (nk k) with
          | some z => rw [q] at rv; exact (show False from rv).elim
          | none =>
            rw [q] at ro
            cases q2 : dGet kvs k with
            | some _ => rw [q2] at ro; exact ro.elim
            | none =>
              have hh : dHas kvs k = false := by rw [dHas_get, q2]; rfl
              rw [q2, if_neg (by rw [hh]; decide)] at h
              cases h
              have tn := t.put hk' tb tw
              have hl2 : (putN xs (nk k) b w).length ≤ sizeLine := by
                rw [← tn.length, dPut_new hh, List.length_append, List.length_singleton]
                omega
              obtain ⟨ob, es, ep, hq, h2, h3, h4, _, h5⟩ := dd2
              refine ⟨w, _, d_write (t' := s.toks + (nestedKind X.prog X.w).draws (nk k)) (ob := NdO X.g a (putN xs (nk k) b w)) I mu hs ⟨ob, hq⟩ ⟨⟨hd, hl2, ob, es, ep, _, hq, h2, h3, NdRel.put rr rel, h4, h5⟩, ⟨ob, hq⟩, fun h1 h2' x k => ?_⟩, rr, ch_dict ho0 nimm (.inr ⟨_, rfl, ?_⟩), T.mono (per_upd ho0 nimm) _ _ tw⟩
              · obtain ⟨x1, x2, o', es', ep', ys', y1, y2, y3, y4, y5, y6⟩ := x
                exact ⟨x1, x2, o', es', ep', ys', k _ y1, y2, y3, y4, y5, y6⟩
              · rw [← dPut_new hh]
                exact tn
    · cases h
  · cases h
end
end Dv
namespace Dv
open PySem PySem.Spec L2 PyProof.Rows

/-! ### set(xs) of a list: one element after the other -/
def mtS (w : World) : Obj := { cls := .type "set", dict := none, data := .set #[] 0 (.fresh 0 0 (!w.params.followText "set-order")) }
/-- what was there and the set itself stand -/
def Kpt (S : Addr) (g g' : Heap) : Prop := ∀ b o, b ≤ S → g.get? b = some o → g'.get? b = some o
section
variable {P : Program} {w : World} {A : Around} {E : Value → Shared → Prop} {s : Shared}
theorem feed {I : Addr} {fp wr : List Addr} {C : Array GenState → Array GenState → Prop} {n : Nat} {Pv : Nat → Value → Prop} {St : Nat → Shared → Prop} {Out : Result → Shared → Prop}
    (Wk : WalksS P w A.in1 I fp wr C n Pv St) (S : Addr) (above : ∀ b ∈ wr, S < b) (off : S ∉ fp) (J : Nat → Heap → Prop) (kp : ∀ i g g', J i g → Kpt S g g' → J i g')
    (ad : ∀ (i : Nat) (v : Value) (s : Shared) (E : Value → Shared → Prop) (Q : Bool → Shared → Prop), i < n → Pv i v → J i s.heap → (∀ (b : Bool) g tk, s.toks ≤ tk → Heap.SameBut S s.heap g → J (i + 1) g → Q b { s with heap := g, toks := tk }) → wpAny (model P w) A.in1 (setAdd S v) Q E s) :
    ∀ (m i : Nat) (s : Shared), n - i = m → i ≤ n → St i s → J i s.heap → (∀ s', Moved (S :: wr) C s s' → J n s'.heap → Out (.ok (.ret .none)) s') →
      codeAny (model P w) A (.builtin "set.update.loop" ⟨[.ref S, .ref I], []⟩) Out s := by
  have up : ∀ b ∈ wr, b ∈ S :: wr := fun b hb => List.mem_cons_of_mem _ hb
  have still : ∀ {s s' : Shared}, Moved wr C s s' → Kpt S s.heap s'.heap := fun mv b o hb q => mv.heap b o (fun z => absurd (above b z) (Nat.not_lt.mpr hb)) q
  intro m
  induction m with
  | zero =>
    intro i s e1 hi st j fin
    obtain rfl : i = n := by omega
    refine codeAny_builtin F.entry_set_update_loop ?_
    rw [Around.under_plainId F.plain_set_update_loop _]
    refine wpAny_bind (m := pyNext (.ref I)) (Wk.done s _ _ st fun s' mv => ?_)
    exact wpAny_pure (fin s' (mv.mono up) (kp _ _ _ j (still mv)))
  | succ m ih =>
    intro i s e1 hi st j fin
    have hlt : i < n := by omega
    refine codeAny_builtin F.entry_set_update_loop ?_
    rw [Around.under_plainId F.plain_set_update_loop _]
    refine wpAny_bind (m := pyNext (.ref I)) (Wk.item i s _ _ hlt st fun v s' pv st' mv => ?_)
    refine wpAny_bind (m := holding [v] (setAdd S v)) (wpAny_holding (ad i v s' _ _ hlt pv (kp _ _ _ j (still mv)) fun b g tk le sb j' => ?_))
    refine wpAny_pure ⟨plainId_quiet F.plain_set_update_loop _, ih (i + 1) _ (by omega) hlt (Wk.frame _ s' _ _ st' le fun c hc o q => ?_) j' fun t mv2 j2 => fin t (Moved.trans Wk.gtrans ((mv.mono up).then_heap le fun c o hc q => ?_) mv2) j2⟩
    · exact (sb.2 c (fun z : c = S => off (z ▸ hc))).trans q
    · exact (sb.2 c (fun z : c = S => hc (z ▸ List.mem_cons_self))).trans q

/-! ### a set of whole numbers or texts -/
end
def kOf (e : Int × Value) : Key := match e.2 with
  | .int k _ => .inl k
  | .str x _ => .inr x
  | _ => .inl 0
theorem kOf_is {i : Int} {v : Value} {k : Key} (h : keyIs k v = true) : kOf (i, v) = k := by
  rcases keyIs_shape h with ⟨j, t, rfl, rfl⟩ | ⟨x, t, rfl, rfl⟩ <;> rfl
def Gd (w : World) (e : Int × Value) : Prop := keyIs (kOf e) e.2 = true ∧ e.1 = keyH w (kOf e)
def SetS (w : World) (g : Heap) (a : Addr) (L : List Key) : Prop :=
  ∃ o es ep t, g.get? a = some o ∧ o.ExactSet ∧ o.data = .set es ep t ∧ (∀ e ∈ es.toList, Gd w e) ∧ (es.toList.map kOf).Perm L ∧ L.Nodup ∧ L.length < scanBound ∧ t.fits es.size = true ∧ Ris t.place.toList ∧
    (w.params.followText "set-order" = true ∨ t.led = true)
section
variable {P : Program} {w : World} {A : Around} {E : Value → Shared → Prop} {s : Shared} {a : Addr} {L : List Key}
theorem SetS.keep {g g' : Heap} (R : SetS w g a L) (k : ∀ o, g.get? a = some o → g'.get? a = some o) : SetS w g' a L := by
  obtain ⟨o, es, ep, t, h, r⟩ := R
  exact ⟨o, es, ep, t, k o h, r⟩
theorem Gd.elems {l : List (Int × Value)} (h : ∀ e ∈ l, Gd w e) : ElemsOf (mixKind P w) l := fun e he => by
  obtain ⟨h1, h2⟩ := h e he
  refine ⟨⟨kOf e, h1, h2⟩, ?_⟩
  rcases keyIs_shape h1 with ⟨i, t, _, q⟩ | ⟨x, t, _, q⟩
  · rw [q]; rfl
  · rw [q]; rfl
theorem Gd.is {e : Int × Value} (h : Gd w e) (k : Key) : (mixKind P w).is k e.2 = true ↔ kOf e = k := by
  constructor
  · intro q
    exact kOf_is (i := e.1) q
  · rintro rfl
    exact h.1
theorem st_tail {o : Obj} {es : Array (Int × Value)} {ep : Nat} {t : SetTable} (ho : s.heap.get? a = some o) (hx : o.ExactSet) (hd : o.data = .set es ep t) {es1 : Array (Int × Value)} {t1 : SetTable} {M : List Key}
    (g1 : ∀ e ∈ es1.toList, Gd w e) (p1 : (es1.toList.map kOf).Perm M) (n1 : M.Nodup) (l1 : M.length < scanBound) (f1 : t1.fits es1.size = true) (r1 : Ris t1.place.toList) (d1 : w.params.followText "set-order" = true ∨ t1.led = true)
    {gv : Bool → Sem Unit} (gvq : ∀ (b : Bool) (s2 : Shared) (Q2 : Unit → Shared → Prop), Q2 () s2 → wpAny (model P w) A (gv b) Q2 E s2) {wd : Bool} {Q : Option Bool → Shared → Prop}
    (q : ∀ g, Heap.SameBut a s.heap g → SetS w g a M → Q (some true) { s with heap := g }) :
    wpAny (model P w) A (do
      storeSet a es1 t1
      if (!wd && t1.tooFull) = true then do
          gv (relayAll t1 es1 (SetTable.grown es1.size)).2.2
          storeSet a (relayAll t1 es1 (SetTable.grown es1.size)).1 (relayAll t1 es1 (SetTable.grown es1.size)).2.1
          pure (some true)
        else pure (some true)) Q E s := by
  have e1 : es1.size = M.length := by rw [← p1.length_eq, List.length_map, Array.length_toList]
  have z1 : es1.size ≤ sizeLine := fits_of_scanBound (by rw [e1]; exact l1)
  refine wpAny_bind (wpAny_storeSet_of ho hd ?_ z1)
  have o1 := store_at (es' := es1) (t' := t1) ho hd
  have b1 := Heap.SameBut.update s.heap a (Obj.putSet es1 t1)
  by_cases c : (!wd && t1.tooFull) = true
  · rw [if_pos c]
    have pm := relayAll_perm t1 es1 (SetTable.grown es1.size)
    have f2 := relayAll_fits t1 es1 (SetTable.grown es1.size)
    have r2 := relayAll_ris t1 es1 (SetTable.grown es1.size)
    have d2 := relayAll_led t1 es1 (SetTable.grown es1.size)
    revert pm f2 r2 d2
    generalize relayAll t1 es1 (SetTable.grown es1.size) = Z
    obtain ⟨es2, t2, b2⟩ := Z
    intro pm f2 r2 d2
    have z2 : es2.size ≤ sizeLine := by rw [← Array.length_toList, pm.length_eq, Array.length_toList]; exact z1
    refine wpAny_bind (gvq _ _ _ ?_)
    refine wpAny_bind (wpAny_storeSet_of o1 rfl ?_ z2)
    have o2 := store_at (es' := es2) (t' := t2) o1 rfl
    refine wpAny_pure (q _ (b1.trans (Heap.SameBut.update _ a _)) ⟨_, es2, _, t2, o2, hx, rfl, fun e he => g1 e (pm.mem_iff.mp he), (pm.map kOf).trans p1, n1, l1, f2, r2, ?_⟩)
    exact d1.imp_right fun z => d2.trans z
  · rw [if_neg c]
    exact wpAny_pure (q _ b1 ⟨_, es1, _, t1, o1, hx, rfl, g1, p1, n1, l1, f1, r1, d1⟩)
/-- one more -/
def addK (L : List Key) (k : Key) : List Key := if L.any (fun j => decide (j = k)) = true then L else k :: L
theorem any_mem {L : List Key} {k : Key} : L.any (fun j => decide (j = k)) = true ↔ k ∈ L := by
  rw [List.any_eq_true]
  exact ⟨fun ⟨j, h, e⟩ => of_decide_eq_true e ▸ h, fun h => ⟨k, h, decide_eq_true rfl⟩⟩
theorem addK_in {L : List Key} {k : Key} (h : k ∈ L) : addK L k = L := if_pos (any_mem.mpr h)
theorem addK_out {L : List Key} {k : Key} (h : k ∉ L) : addK L k = k :: L := if_neg fun z => h (any_mem.mp z)
theorem st_add {k : Key} {v : Value} (hk : keyIs k v = true) (R : SetS w s.heap a L) (room : L.length + 1 < scanBound) {Q : Bool → Shared → Prop}
    (q : ∀ (b : Bool) g, Heap.SameBut a s.heap g → SetS w g a (addK L k) → Q b { s with heap := g }) : wpAny (model P w) A (setAddHashed a v ((mixKind P w).hash k)) Q E s := by
  obtain ⟨o, es, ep, t, ho, hx, hd, g, pm, nd, lb, hf, hr, hl⟩ := R
  have e0 : es.size = L.length := by rw [← pm.length_eq, List.length_map, Array.length_toList]
  have vs : v.scannable = true := by
    rcases keyIs_shape hk with ⟨i, t, _, z⟩ | ⟨x, t, _, z⟩ <;> (rw [z]; rfl)
  have el : ElemsOf (mixKind P w) es.toList := Gd.elems g
  unfold setAddHashed setAddHashedIn
  refine wpAny_holding (wpAny_bind (m := setState a) (wpAny_setState_of ho hd hf ?_))
  dsimp only
  rw [byScan_of vs (by rw [e0]; exact lb) el, if_pos rfl]
  unfold setAddByScan
  refine wpAny_bind ?_
  refine wpAny_bind (wpAny_rule ?_)
  refine wpAny_bind (wpAny_setScan_of (knd := mixKind P w) hk ho hd hf el ?_)
  have mem : k ∈ L ↔ ∃ e ∈ es.toList, (mixKind P w).is k e.2 = true := by
    rw [← pm.mem_iff, List.mem_map]
    exact ⟨fun ⟨e, he, z⟩ => ⟨e, he, ((g e he).is k).mpr z⟩, fun ⟨e, he, z⟩ => ⟨e, he, ((g e he).is k).mp z⟩⟩
  cases fi : es.toList.findIdx? (fun e => (mixKind P w).is k e.2) with
  | some j =>
    obtain ⟨hj, pj, _⟩ := List.findIdx?_eq_some_iff_getElem.mp fi
    have kin : k ∈ L := mem.mpr ⟨es.toList[j], List.getElem_mem hj, pj⟩
    refine wpAny_pure (wpAny_pure (q _ s.heap (Heap.SameBut.refl a s.heap) ?_))
    rw [addK_in kin]
    exact ⟨o, es, ep, t, ho, hx, hd, g, pm, nd, lb, hf, hr, hl⟩
  | none =>
    have kout : k ∉ L := fun z => by
      obtain ⟨e, he, z2⟩ := mem.mp z
      have := List.findIdx?_eq_none_iff.mp fi e he
      rw [z2] at this
      cases this
    have gvq : ∀ (b : Bool) (s2 : Shared) (Q2 : Unit → Shared → Prop), Q2 () s2 → wpAny (model P w) A (match b with | true => rule "set.scan.the-table-gave-way" | false => pure ()) Q2 E s2 :=
      fun b s2 Q2 z => by cases b <;> first | exact wpAny_pure z | exact wpAny_rule z
    have lp := layNew_perm t es ((mixKind P w).hash k) v
    have lf := layNew_fits t es ((mixKind P w).hash k) v
    have lr := layNew_ris t es ((mixKind P w).hash k) v hr
    have ll := layNew_led t es ((mixKind P w).hash k) v
    dsimp only
    revert lp lf lr ll
    generalize layNew t es ((mixKind P w).hash k) v = Z
    obtain ⟨es1, t1, wd, gave⟩ := Z
    intro lp lf lr ll
    rw [Array.toList_push] at lp
    have lp2 : es1.toList.Perm (((mixKind P w).hash k, v) :: es.toList) := lp.trans (List.perm_append_singleton _ _)
    have ek : kOf ((mixKind P w).hash k, v) = k := kOf_is hk
    have g1 : ∀ e ∈ es1.toList, Gd w e := fun e he => by
      rcases List.mem_cons.mp (lp2.mem_iff.mp he) with z | z
      · subst z
        exact ⟨by rw [ek]; exact hk, by rw [ek]; rfl⟩
      · exact g e z
    have p1 : (es1.toList.map kOf).Perm (k :: L) := by
      have z := lp2.map kOf
      rw [List.map_cons, ek] at z
      exact z.trans (pm.cons k)
    have n1 : (k :: L).Nodup := List.nodup_cons.mpr ⟨kout, nd⟩
    have d1 : w.params.followText "set-order" = true ∨ t1.led = true := hl.imp_right fun z => ll.trans z
    have q2 : ∀ g, Heap.SameBut a s.heap g → SetS w g a (k :: L) → Q true { s with heap := g } := fun g sb r => q true g sb (by rw [addK_out kout]; exact r)
    refine wpAny_bind (gvq _ _ _ ?_)
    dsimp only at lf lr d1 ⊢
    have lb1 : (k :: L).length < scanBound := room
    by_cases hp : t1.plain = true
    · rw [if_pos hp]
      refine wpAny_bind ?_
      rw [hashByValue_scannable 8 vs]
      refine wpAny_pure ?_
      cases plainKind v with
      | true => exact st_tail ho hx hd g1 p1 n1 lb1 lf lr d1 (fun b s2 Q2 z => by cases b <;> first | exact wpAny_pure z | exact wpAny_rule z) fun g sb r => wpAny_pure (q2 g sb r)
      | false => exact st_tail (t1 := { t1 with plain := false }) ho hx hd g1 p1 n1 lb1 (SetTable.fits_plain_off lf) lr d1 (fun b s2 Q2 z => by cases b <;> first | exact wpAny_pure z | exact wpAny_rule z) fun g sb r => wpAny_pure (q2 g sb r)
    · rw [if_neg hp]
      refine wpAny_bind (wpAny_pure ?_)
      exact st_tail ho hx hd g1 p1 n1 lb1 lf lr d1 (fun b s2 Q2 z => by cases b <;> first | exact wpAny_pure z | exact wpAny_rule z) fun g sb r => wpAny_pure (q2 g sb r)
end
end Dv
namespace Dv
open PySem PySem.Spec L2 PyProof.Rows

/-! ### set(list) -/
section
variable {P : Program} {w : World} {A : Around} {E : Value → Shared → Prop} {s : Shared}
set_option maxHeartbeats 4000000 in
theorem made_list {l : Addr} {xs : Array Value} {Q : Value → Shared → Prop} (nh : A.handled = none) (src : s.heap.IsList l xs) (J : Nat → Heap → Prop)
    (j0 : ∀ g, g.get? s.heap.objs.size = some (mtS w) → Kpt s.heap.objs.size (s.heap.push (mtS w)) g → J 0 g) (kp : ∀ i g g', J i g → Kpt s.heap.objs.size g g' → J i g')
    (ad : ∀ (i : Nat) (v : Value) (A1 : Around) (s1 : Shared) (E : Value → Shared → Prop) (Q : Bool → Shared → Prop), A1.units ≤ A.units + 8 → i < xs.size → xs[i]? = some v → J i s1.heap → (∀ (b : Bool) g tk, s1.toks ≤ tk → Heap.SameBut s.heap.objs.size s1.heap g → J (i + 1) g → Q b { s1 with heap := g, toks := tk }) → wpAny (model P w) A1 (setAdd s.heap.objs.size v) Q E s1)
    (fin : ∀ g tk, J xs.size g → (∀ b o, s.heap.get? b = some o → g.get? b = some o) → Q (.ref s.heap.objs.size) { s with heap := g, toks := tk }) :
    wpAny (model P w) A (call (.type "set") [.ref l]) Q E s := by
  obtain ⟨c0, tl0, mro0⟩ := F.called_set.mro
  have made0 := F.called_set.made
  have sub0 := F.called_set.sub
  refine wpAny_call (codeAny_of_tree ?_)
  refine wpAny_pure ⟨Code.quiet_builtin _ (by decide +kernel), codeAny_builtin F.entry_type_call ?_⟩
  rw [Around.under_plain (weight_type_call_type "set" [.ref l] []) rfl]
  have nt0 := F.called_set.notType
  have cc0 := F.called_set.canCreate
  have tc0 := F.typeCall_set_1 (.ref l)
  repeat (any_goals (first | assumption | wp_step))
  refine codeAny_mono (code_set_led1 (.ref l) (E := E) (Q₁ := fun v s1 => v = .ref s.heap.objs.size ∧ s1 = { s with heap := s.heap.push (mtS w) }) ⟨rfl, rfl⟩) fun r s1 hr => ?_
  cases r with
  | error e => exact hr
  | ok fl =>
    cases fl with
    | ret v0 =>
      obtain ⟨rfl, rfl⟩ := hr
      have at0 : (s.heap.push (mtS w)).get? s.heap.objs.size = some (mtS w) := Heap.get?_push_size _ rfl
      have ty0 : Shared.TypeIs { s with heap := s.heap.push (mtS w) } (.ref s.heap.objs.size) "set" := ⟨_, at0, rfl⟩
      have li0 := F.called_set.init.lookup
      have bi0 := F.called_set.init.bind (.ref s.heap.objs.size)
      repeat (any_goals (first | assumption | wp_step))
      refine codeAny_mono (codeAny_call_builtin (R := wants (fun r s2 => r = .none ∧ ∃ g tk, s2 = { s with heap := g, toks := tk } ∧ J xs.size g ∧ (∀ b o, s.heap.get? b = some o → g.get? b = some o)) E)
        F.called_set.init.plain F.entry_set_init (check_set_init_1 ty0 ?_)) fun r2 s2 hr2 => ?_
      · obtain ⟨ol, hol, hcl, nl, hdl⟩ := id src
        obtain ⟨ocls, odict, odata, oslots⟩ := ol
        simp only at hcl hdl
        subst hcl
        subst hdl
        have hol2 : (s.heap.push (mtS w)).get? l = some { cls := .type "list", dict := odict, data := .seq xs nl, slots := oslots } := Heap.get?_push_of_some _ hol
        have sb1 := F.sub_list_set
        have sb2 := F.sub_list_frozenset
        have ne1 : (Value.type "list" == Value.type "dict") = false := by decide
        have src1 : (s.heap.push (mtS w)).IsList l xs := ⟨_, hol2, rfl, nl, rfl⟩
        unfold Builtin.«set.__init__» noKeywords Builtin.Frozenset.updateFrom
        generalize hPI : pyIter = PI
        wp_walk
        subst hPI
        refine wpAny_pyIter_list src1 ?_
        refine wpAny_bind (wpAny_runValue ?_)
        have below : l < s.heap.objs.size := Heap.lt_size hol
        have nh3 : A.in1.in1.in1.handled = none := by simp [nh]
        have sz1 : (s.heap.push (mtS w)).objs.size = s.heap.objs.size + 1 := Heap.size_push ..
        have ne2 : l ≠ (s.heap.push (mtS w)).objs.size := by rw [sz1]; exact Nat.ne_of_lt (Nat.lt_succ_of_lt below)
        have off : s.heap.objs.size ∉ [(s.heap.push (mtS w)).objs.size, l] := by
          rw [sz1]
          intro z
          rcases List.mem_cons.mp z with z | z
          · exact Nat.ne_of_lt (Nat.lt_succ_self _) z
          · exact Nat.ne_of_gt below (List.mem_singleton.mp z)
        refine feed ((Walks.list nh3 _ l ne2 xs).toS) s.heap.objs.size (fun b hb => ?_) off J kp (fun i v s1 E1 Q1 hi pv j q => ad i v _ s1 E1 Q1 (by simp [Around.in1]) hi pv j q) (xs.size - 0) 0 _ rfl (Nat.zero_le _) ⟨⟨_, Heap.get?_push_size _ rfl, rfl, rfl⟩, src1.push _⟩ ?z0 ?zE
        case z0 => exact j0 _ (Heap.get?_push_of_some _ at0) fun b o _ q => Heap.get?_push_of_some _ q
        case zE =>
          intro s3 mv j3
          obtain ⟨g3, n3, d3, t3, os3⟩ := s3
          have e1 : n3 = s.gens := mv.gens
          have e2 : d3 = s.drawn := mv.drawn
          have e3 : os3 = s.os := mv.os
          subst e1 e2 e3
          show wpAny _ _ _ _ _ _
          refine wpAny_pure ?_
          refine wpAny_pure ⟨rfl, g3, t3, rfl, j3, fun b o q => ?_⟩
          have b0 : b < s.heap.objs.size := Heap.lt_size q
          refine mv.heap b o (fun z => ?_) (Heap.get?_push_of_some _ (Heap.get?_push_of_some _ q))
          rcases List.mem_cons.mp z with z | z
          · exact Nat.ne_of_lt b0 z
          · have z := List.mem_singleton.mp z
            rw [sz1] at z
            exact Nat.ne_of_lt (Nat.lt_succ_of_lt b0) z
        · rw [List.mem_singleton.mp hb, sz1]
          exact Nat.lt_succ_self _
      · cases r2 with
        | error e => exact hr2
        | ok fl2 =>
          cases fl2 with
          | ret r =>
            obtain ⟨rfl, g, tk, rfl, j, hk⟩ := hr2
            repeat (any_goals (first | assumption | wp_step))
            exact fin _ _ j hk
          | _ => exact hr2.elim
    | _ => exact hr.elim
end

/-! ### set(tuple) -/
section
variable {P : Program} {w : World} {A : Around} {E : Value → Shared → Prop} {s : Shared}
set_option maxHeartbeats 4000000 in
theorem made_tuple {l : Addr} {xs : Array Value} {Q : Value → Shared → Prop} (nh : A.handled = none) (src : s.heap.IsTuple l xs) (J : Nat → Heap → Prop)
    (j0 : ∀ g, g.get? s.heap.objs.size = some (mtS w) → Kpt s.heap.objs.size (s.heap.push (mtS w)) g → J 0 g) (kp : ∀ i g g', J i g → Kpt s.heap.objs.size g g' → J i g')
    (ad : ∀ (i : Nat) (v : Value) (A1 : Around) (s1 : Shared) (E : Value → Shared → Prop) (Q : Bool → Shared → Prop), A1.units ≤ A.units + 8 → i < xs.size → xs[i]? = some v → J i s1.heap → (∀ (b : Bool) g tk, s1.toks ≤ tk → Heap.SameBut s.heap.objs.size s1.heap g → J (i + 1) g → Q b { s1 with heap := g, toks := tk }) → wpAny (model P w) A1 (setAdd s.heap.objs.size v) Q E s1)
    (fin : ∀ g tk, J xs.size g → (∀ b o, s.heap.get? b = some o → g.get? b = some o) → Q (.ref s.heap.objs.size) { s with heap := g, toks := tk }) :
    wpAny (model P w) A (call (.type "set") [.ref l]) Q E s := by
  obtain ⟨c0, tl0, mro0⟩ := F.called_set.mro
  have made0 := F.called_set.made
  have sub0 := F.called_set.sub
  refine wpAny_call (codeAny_of_tree ?_)
  refine wpAny_pure ⟨Code.quiet_builtin _ (by decide +kernel), codeAny_builtin F.entry_type_call ?_⟩
  rw [Around.under_plain (weight_type_call_type "set" [.ref l] []) rfl]
  have nt0 := F.called_set.notType
  have cc0 := F.called_set.canCreate
  have tc0 := F.typeCall_set_1 (.ref l)
  repeat (any_goals (first | assumption | wp_step))
  refine codeAny_mono (code_set_led1 (.ref l) (E := E) (Q₁ := fun v s1 => v = .ref s.heap.objs.size ∧ s1 = { s with heap := s.heap.push (mtS w) }) ⟨rfl, rfl⟩) fun r s1 hr => ?_
  cases r with
  | error e => exact hr
  | ok fl =>
    cases fl with
    | ret v0 =>
      obtain ⟨rfl, rfl⟩ := hr
      have at0 : (s.heap.push (mtS w)).get? s.heap.objs.size = some (mtS w) := Heap.get?_push_size _ rfl
      have ty0 : Shared.TypeIs { s with heap := s.heap.push (mtS w) } (.ref s.heap.objs.size) "set" := ⟨_, at0, rfl⟩
      have li0 := F.called_set.init.lookup
      have bi0 := F.called_set.init.bind (.ref s.heap.objs.size)
      repeat (any_goals (first | assumption | wp_step))
      refine codeAny_mono (codeAny_call_builtin (R := wants (fun r s2 => r = .none ∧ ∃ g tk, s2 = { s with heap := g, toks := tk } ∧ J xs.size g ∧ (∀ b o, s.heap.get? b = some o → g.get? b = some o)) E)
        F.called_set.init.plain F.entry_set_init (check_set_init_1 ty0 ?_)) fun r2 s2 hr2 => ?_
      · obtain ⟨ol, hol, hcl, nl, hdl⟩ := id src
        obtain ⟨ocls, odict, odata, oslots⟩ := ol
        simp only at hcl hdl
        subst hcl
        subst hdl
        have hol2 : (s.heap.push (mtS w)).get? l = some { cls := .type "tuple", dict := odict, data := .seq xs nl, slots := oslots } := Heap.get?_push_of_some _ hol
        have sb1 := F.sub_tuple_set
        have sb2 := F.sub_tuple_frozenset
        have ne1 : (Value.type "tuple" == Value.type "dict") = false := by decide
        have src1 : (s.heap.push (mtS w)).IsTuple l xs := ⟨_, hol2, rfl, nl, rfl⟩
        unfold Builtin.«set.__init__» noKeywords Builtin.Frozenset.updateFrom
        generalize hPI : pyIter = PI
        wp_walk
        subst hPI
        refine wpAny_pyIter_tuple src1 ?_
        refine wpAny_bind (wpAny_runValue ?_)
        have below : l < s.heap.objs.size := Heap.lt_size hol
        have nh3 : A.in1.in1.in1.handled = none := by simp [nh]
        have sz1 : (s.heap.push (mtS w)).objs.size = s.heap.objs.size + 1 := Heap.size_push ..
        have ne2 : l ≠ (s.heap.push (mtS w)).objs.size := by rw [sz1]; exact Nat.ne_of_lt (Nat.lt_succ_of_lt below)
        have off : s.heap.objs.size ∉ [(s.heap.push (mtS w)).objs.size, l] := by
          rw [sz1]
          intro z
          rcases List.mem_cons.mp z with z | z
          · exact Nat.ne_of_lt (Nat.lt_succ_self _) z
          · exact Nat.ne_of_gt below (List.mem_singleton.mp z)
        refine feed ((Walks.tuple nh3 _ l ne2 xs).toS) s.heap.objs.size (fun b hb => ?_) off J kp (fun i v s1 E1 Q1 hi pv j q => ad i v _ s1 E1 Q1 (by simp [Around.in1]) hi pv j q) (xs.size - 0) 0 _ rfl (Nat.zero_le _) ⟨⟨_, Heap.get?_push_size _ rfl, rfl, rfl⟩, src1.push _⟩ ?z0 ?zE
        case z0 => exact j0 _ (Heap.get?_push_of_some _ at0) fun b o _ q => Heap.get?_push_of_some _ q
        case zE =>
          intro s3 mv j3
          obtain ⟨g3, n3, d3, t3, os3⟩ := s3
          have e1 : n3 = s.gens := mv.gens
          have e2 : d3 = s.drawn := mv.drawn
          have e3 : os3 = s.os := mv.os
          subst e1 e2 e3
          show wpAny _ _ _ _ _ _
          refine wpAny_pure ?_
          refine wpAny_pure ⟨rfl, g3, t3, rfl, j3, fun b o q => ?_⟩
          have b0 : b < s.heap.objs.size := Heap.lt_size q
          refine mv.heap b o (fun z => ?_) (Heap.get?_push_of_some _ (Heap.get?_push_of_some _ q))
          rcases List.mem_cons.mp z with z | z
          · exact Nat.ne_of_lt b0 z
          · have z := List.mem_singleton.mp z
            rw [sz1] at z
            exact Nat.ne_of_lt (Nat.lt_succ_of_lt b0) z
        · rw [List.mem_singleton.mp hb, sz1]
          exact Nat.lt_succ_self _
      · cases r2 with
        | error e => exact hr2
        | ok fl2 =>
          cases fl2 with
          | ret r =>
            obtain ⟨rfl, g, tk, rfl, j, hk⟩ := hr2
            repeat (any_goals (first | assumption | wp_step))
            exact fin _ _ j hk
          | _ => exact hr2.elim
    | _ => exact hr.elim
end
end Dv
namespace Dv
open PySem PySem.Spec L2 PyProof.Rows

/-! ### the keys of a dict that stays as it is -/
def Itn (K : G) (d : Addr) (o : Obj) (xs : List (NestedKey × Addr × V)) : It :=
  ⟨fun i H => H d = some (.frz o (NdO K d xs)) ∧ i < xs.length, fun i H x H' => H' = H ∧ ∃ p, xs[i]? = some p ∧ x = .ref p.2.1, fun i H => H d = some (.frz o (NdO K d xs)) ∧ xs.length ≤ i⟩
section
variable {X : Cx} {pins : List (Addr × Obj)} {σ : L2.St} {H : Hp} {s : Shared} {d : Addr} {o : Obj}
theorem frz_nd {xs : List (NestedKey × Addr × V)} (I : Inv X pins σ H s) (h : H d = some (.frz o (NdO X.g d xs))) :
    (d == sysModules) = false ∧ s.heap.get? d = some o ∧ o.ExactDict ∧ ∃ (es : Array DictEntry) (ep : Nat), o.data = .dict es ep ∧ es.size = xs.length ∧ ∀ (i : Nat) p, xs[i]? = some p → ∃ en, es[i]? = some en ∧ en.key = .ref p.2.1 := by
  obtain ⟨g1, ⟨nm, _, o2, es, ep, ys, q1, q2, q3, q4, q5, _⟩, _, _⟩ := I.hok d _ h
  rw [g1] at q1
  cases q1
  have l0 : xs.length = ys.length := Paired.length q4
  refine ⟨nm, g1, q2, es, ep, q3, ?_, fun i p hp => ?_⟩
  · rw [← Array.length_toList, q5, List.length_map, l0]
  · obtain ⟨y, hy, r1, r2, _⟩ := paired_get q4 hp
    refine ⟨entryOfKey (nestedKind X.prog X.w) y, ?_, by rw [r2]; rfl⟩
    rw [← Array.getElem?_toList, q5, List.getElem?_map, hy]
    rfl
end
section
variable {P : Program} {w : World} {K : PySem.W.Frag} {tg : Expr} {d : Addr} {o : Obj} {es : Array DictEntry} {ep : Nat}
theorem turn_nd {xs : List (NestedKey × Addr × V)} (it : Addr) (dd : o.data = .dict es ep) : Turn P w K tg (Itn ⟨P, w, K⟩ d o xs) [it] it (fun i g => g.IsKeyIter it d i xs.length ep) where
  mem := List.mem_singleton.mpr rfl
  obj := fun i g st b hb => by
    obtain rfl := List.mem_singleton.mp hb
    obtain ⟨q, e1, _, e2⟩ := st
    refine ⟨q, e1, fun v z => ?_⟩
    rw [e2] at z
    cases z
  keep := fun i g g' st k => st.at fun q e => k it (List.mem_singleton.mpr rfl) q e
  item := by
    intro X e1 e2 e3 c i pins s σ H E I own st go
    subst e1 e2 e3
    obtain ⟨hd, lt⟩ := go
    obtain ⟨f0, f1, _, f3, f4, f5⟩ := own it (List.mem_singleton.mpr rfl)
    obtain ⟨_, at0, _, es2, ep2, d2, sz, ent⟩ := frz_nd I hd
    obtain ⟨rfl, rfl⟩ := dict_ep dd d2
    obtain ⟨en, he, hk⟩ := ent i _ (List.getElem?_eq_getElem lt)
    refine next_key_item st at0 d2 sz he fun g st1 sb => ?_
    have I1 : Inv X pins σ H { s with heap := g } := I.turned (t' := s.toks) (fun b q hb z => (sb.2 b hb).trans z) f0 f1 f3 f4 f5
    obtain ⟨q, q1, q2, q3⟩ := id st1
    refine ⟨en.key, rfl, go_of (s := { s with heap := g }) q1 q2 q3 (by decide) ⟨.ref (xs[i]).2.1, H, I1, hk, ⟨rfl, _, List.getElem?_eq_getElem lt, rfl⟩, st1, fun b hb => (own b hb).1⟩⟩
  done := by
    intro X e1 e2 e3 c i pins s σ H E I own st go
    subst e1 e2 e3
    obtain ⟨hd, le⟩ := go
    obtain ⟨f0, f1, _, f3, f4, f5⟩ := own it (List.mem_singleton.mpr rfl)
    obtain ⟨_, at0, _, es2, ep2, d2, sz, _⟩ := frz_nd I hd
    obtain ⟨rfl, rfl⟩ := dict_ep dd d2
    exact next_key_end (I.ok.hd c) st at0 d2 sz le fun g eb => ⟨rfl, I.turned (t' := s.toks) (fun b q hb z => eb b q hb z) f0 f1 f3 f4 f5⟩
  self := fun A i s Q E st q => by
    refine wpAny_pyIter_slot st.typeIs F.slot_dict_keyiterator_iter (wpAny_call_entry F.slot_dict_keyiterator_iter st.typeIs F.entry_dict_keyiterator_iter ?_ (F.args_dict_keyiterator_iter_1 _))
    show wpAny _ A.in1 (ret (Value.ref it)) _ _ _
    exact wpAny_pure ⟨_, rfl, "dict_keyiterator", _, st.typeIs, F.slot_dict_keyiterator_next.lookup, q⟩
end
section
variable {X : Cx} {tg e : Expr} {td : TE}
def iKeysD (K : G) (td : TE) : TI := fun σ H R => td σ H fun x H1 => ∃ d o, x = .ref d ∧ ((∃ kv, H1 d = some (.frz o (.dK kv)) ∧ R (Itk d o kv) H1) ∨ ∃ xs, H1 d = some (.frz o (NdO K d xs)) ∧ R (Itn K d o xs) H1)
theorem pi_keysD (he : PE X e td) : PI X tg e (iKeysD X.g td) := by
  refine ⟨fun pins s σ H R I h => ?_⟩
  refine thn (he.run pins s σ H _ I h) fun u s1 ⟨x, H1, I1, rx, d, o, ex, q⟩ => ?_
  subst ex
  cases rx
  rcases q with ⟨kv, hd, q⟩ | ⟨xs, hd, q⟩
  · obtain ⟨nm, at0, ok, es, ep, vs, dd, sz, _, _⟩ := I1.frzK hd
    refine iter_keys nm at0 ok dd (pi_one (tk := s1.toks) I1 _ (turn_keys _ dd) ⟨_, Heap.get?_push_size _ rfl, rfl, ?_⟩ q)
    rw [sz]
    rfl
  · obtain ⟨nm, at0, ok, es, ep, dd, sz, _⟩ := frz_nd I1 hd
    refine iter_keys nm at0 ok dd (pi_one (tk := s1.toks) I1 _ (turn_nd (P := X.prog) (w := X.w) (K := X.K) _ dd) ⟨_, Heap.get?_push_size _ rfl, rfl, ?_⟩ q)
    rw [sz]
    rfl
end
end Dv
namespace Dv
open PySem PySem.Spec L2 PyProof.Rows

/-! ### the order of data -/
theorem lt_trans' {x y z : D} (h1 : W.dataLt y x = false) (h2 : W.dataLt z y = false) : W.dataLt z x = false := by
  cases h : W.dataLt z x with
  | false => rfl
  | true =>
    rcases lex_negTrans (O := PyProof.Rows.itemOrd) _ (W.keyToks y) _ h with k | k
    · exact absurd (h2.symm.trans k) Bool.false_ne_true
    · exact absurd (h1.symm.trans k) Bool.false_ne_true
theorem lt_total' (x y : D) : W.dataLt x y = false ∨ W.dataLt y x = false := by
  cases h : W.dataLt x y with
  | false => exact .inl rfl
  | true =>
    cases h' : W.dataLt y x with
    | false => exact .inr rfl
    | true => exact absurd ((lex_irrefl (O := PyProof.Rows.itemOrd) _).symm.trans (lex_trans (O := PyProof.Rows.itemOrd) _ _ _ h h')) Bool.false_ne_true
theorem lt_eqv {x y : D} (al : W.alike x y = true) (h1 : W.dataLt x y = false) (h2 : W.dataLt y x = false) : PyData.eqv x y = true := by
  have e : W.keyToks x = W.keyToks y := lex_total (O := PyProof.Rows.itemOrd) _ _ h1 h2
  cases q : PyData.eqv x y with
  | true => rfl
  | false =>
    have z := (W.toks_eqv x y al).2 q [] [.inl 0]
    rw [e, W.lex_pre] at z
    have z2 : lexLt PyProof.Rows.itemOrd (W.keyToks y) (W.keyToks y) = false := lex_irrefl _
    rw [z2] at z
    exact absurd z.symm (by decide)
abbrev dle (x y : D) : Bool := W.dataLe false id x y
theorem dle_trans (x y z : D) (h1 : dle x y = true) (h2 : dle y z = true) : dle x z = true := by
  have a1 : (!W.dataLt y x) = true := h1
  have a2 : (!W.dataLt z y) = true := h2
  rw [Bool.not_eq_true'] at a1 a2
  show (!W.dataLt z x) = true
  rw [lt_trans' a1 a2]
  rfl
theorem dle_total (x y : D) : (dle x y || dle y x) = true := by
  show (!W.dataLt y x || !W.dataLt x y) = true
  rcases lt_total' x y with h | h <;> rw [h] <;> simp
/-- lists of the same data are put in order alike -/
theorem srt_eq {xs ys : List D} (p : xs.Perm ys) (anti : ∀ x ∈ xs, ∀ y ∈ xs, W.dataLt x y = false → W.dataLt y x = false → x = y) : srtD xs = srtD ys := by
  unfold srtD
  refine List.Perm.eq_of_pairwise (le := fun a b => dle a b = true) (fun a b ha hb h1 h2 => ?_) (List.pairwise_mergeSort dle_trans dle_total xs) (List.pairwise_mergeSort dle_trans dle_total ys) (((List.mergeSort_perm xs _).trans p).trans (List.mergeSort_perm ys _).symm)
  have ma : a ∈ xs := (List.mergeSort_perm xs _).mem_iff.mp ha
  have mb : b ∈ xs := p.mem_iff.mpr ((List.mergeSort_perm ys _).mem_iff.mp hb)
  have h1 : (!W.dataLt b a) = true := h1
  have h2 : (!W.dataLt a b) = true := h2
  rw [Bool.not_eq_true'] at h1 h2
  exact anti a ma b mb h2 h1
/-! ### keys -/
def uqK (ks : List Key) : List Key := ks.foldl addK []
theorem scal_key {d : D} (h : scal d = true) : ∃ k, d = keyD k := by
  cases d with
  | int i => exact ⟨.inl i, rfl⟩
  | str x => exact ⟨.inr x, rfl⟩
  | _ => cases h
theorem scals : ∀ {xs : List D}, xs.all scal = true → ∃ ks : List Key, xs = ks.map keyD
  | [], _ => ⟨[], rfl⟩
  | x :: xs, h => by
    rw [List.all_cons, Bool.and_eq_true] at h
    obtain ⟨k, rfl⟩ := scal_key h.1
    obtain ⟨ks, rfl⟩ := scals h.2
    exact ⟨k :: ks, rfl⟩
theorem uq_fold : ∀ (ks acc : List Key), (ks.map keyD).foldl (fun acc x => if (acc.any fun y => PyData.eqv y x) = true then acc else x :: acc) (acc.map keyD) = (ks.foldl addK acc).map keyD
  | [], acc => rfl
  | k :: ks, acc => by
    rw [List.map_cons, List.foldl_cons, List.foldl_cons]
    have e : ((acc.map keyD).any fun y => PyData.eqv y (keyD k)) = acc.any fun j => decide (j = k) := by
      rw [List.any_map]
      congr 1
      funext j
      exact eqv_keyD j k
    rw [e]
    have e2 : (if (acc.any fun j => decide (j = k)) = true then acc.map keyD else keyD k :: acc.map keyD) = (addK acc k).map keyD := by
      unfold addK
      split <;> rfl
    rw [e2]
    exact uq_fold ks _
theorem uqD_keys (ks : List Key) : uqD (ks.map keyD) = (uqK ks).map keyD := uq_fold ks []
theorem addK_len (L : List Key) (k : Key) : (addK L k).length ≤ L.length + 1 := by
  unfold addK
  split
  · omega
  · rw [List.length_cons]; omega
theorem uqK_len (ks : List Key) : (uqK ks).length ≤ ks.length := by
  have go : ∀ (ks acc : List Key), (ks.foldl addK acc).length ≤ acc.length + ks.length := by
    intro ks
    induction ks with
    | nil => intro acc; exact Nat.le_refl _
    | cons k ks ih =>
      intro acc
      have a := ih (addK acc k)
      have b := addK_len acc k
      rw [List.foldl_cons, List.length_cons]
      omega
  have := go ks []
  rw [List.length_nil, Nat.zero_add] at this
  exact this
theorem uqK_next {ks : List Key} {i : Nat} {k : Key} (h : ks[i]? = some k) : uqK (ks.take (i + 1)) = addK (uqK (ks.take i)) k := by
  unfold uqK
  rw [List.take_add_one, h, List.foldl_append]
  rfl
theorem rel_key {k : Key} {u : Value} (r : RelV (kV k) u) : keyIs k u = true := by
  cases k with
  | inl i =>
    obtain ⟨t, e⟩ := (show ∃ t, u = Value.int i t from r)
    subst e
    exact keyIs_int i t
  | inr x =>
    obtain ⟨t, e⟩ := (show ∃ t, u = Value.str x t from r)
    subst e
    exact keyIs_str x t
end Dv
namespace Dv
open PySem PySem.Spec L2 PyProof.Rows

def SetSO (w : World) (a : Addr) (L : List Key) : HO := .ext fun g => SetS w g a L
section
variable {P : Program} {w : World} {A : Around} {E : Value → Shared → Prop} {s : Shared} {a : Addr} {L : List Key}
theorem setSO_new {H : Hp} {g : Heap} (R : SetS w g a L) : ObjOk P w H g a (SetSO w a L) := by
  have ⟨o, _, _, _, h, _⟩ := R
  exact ⟨R, ⟨o, h⟩, fun _ _ p k => SetS.keep p k⟩
theorem setS_none {g : Heap} (h : g.get? a = some (mtS w)) : SetS w g a [] :=
  ⟨_, #[], 0, _, h, ⟨rfl, rfl, rfl⟩, rfl, (fun e he => by simp at he), List.Perm.refl _, List.nodup_nil, by decide, rfl, List.Pairwise.nil, by
    show _ ∨ (!w.params.followText "set-order") = true
    cases w.params.followText "set-order"
    · exact .inr rfl
    · exact .inl rfl⟩
theorem keys_at : ∀ {ks : List Key} {us : List Value} {i : Nat} {u : Value}, Vals (ks.map kV) us → us[i]? = some u → ∃ k, ks[i]? = some k ∧ keyIs k u = true
  | [], _, i, u, r, h => by
    cases r
    simp at h
  | k :: ks, _, i, u, r, h => by
    cases r with
    | cons r1 r2 =>
      cases i with
      | zero =>
        simp only [List.getElem?_cons_zero, Option.some.injEq] at h
        subst h
        exact ⟨k, rfl, rel_key r1⟩
      | succ i =>
        simp only [List.getElem?_cons_succ] at h ⊢
        exact keys_at r2 h
/-- the elements one after the other -/
theorem add_keys {S : Addr} {ks : List Key} {us : Array Value} (r : Vals (ks.map kV) us.toList) (few : ks.length < 4000) (i : Nat) (v : Value) (A1 : Around) (s1 : Shared) (E : Value → Shared → Prop) (Q : Bool → Shared → Prop)
    (hi : i < us.size) (hv : us[i]? = some v) (j : SetS w s1.heap S (uqK (ks.take i))) (q : ∀ (b : Bool) g tk, s1.toks ≤ tk → Heap.SameBut S s1.heap g → SetS w g S (uqK (ks.take (i + 1))) → Q b { s1 with heap := g, toks := tk }) :
    wpAny (model P w) A1 (setAdd S v) Q E s1 := by
  rw [← Array.getElem?_toList] at hv
  obtain ⟨k, h1, h2⟩ := keys_at r hv
  unfold setAdd
  refine wpAny_holding (wpAny_bind ((mixKind P w).pyHash (k := k) h2 ?_))
  refine st_add (s := { s1 with toks := s1.toks + 1 }) h2 j ?_ fun b g sb z => q b g _ (Nat.le_succ _) sb (by rw [uqK_next h1]; exact z)
  have l1 := uqK_len (ks.take i)
  have l2 := List.length_take_le i ks
  have l3 : scanBound = 4096 := rfl
  have l4 : (ks.take i).length ≤ ks.length := by rw [List.length_take]; exact Nat.min_le_right _ _
  omega
end
section
variable {X : Cx}
theorem cr_set : CallR X (.type "set") (fun xs H Q => X.calm = true ∧ ∃ (ks : List Key) (a : Addr), xs = [.ref a] ∧ (Rd H a (.lst (ks.map kV)) ∨ SqT X.K H a (ks.map kV)) ∧ ks.length < 4000 ∧ ∀ p, H p = none → Q (.ref p) (upd H p (SetSO X.w p (uqK ks)))) := by
  intro pins s σ H xs us Q I r h
  obtain ⟨calm, ks, a, rfl, src, few, q⟩ := h
  rw [Vals.ref1 r]
  have fin : ∀ (n : Nat) g tk, n = ks.length → SetS X.w g s.heap.objs.size (uqK (ks.take n)) → (∀ b o, s.heap.get? b = some o → g.get? b = some o) → EP X pins σ Q (.ref s.heap.objs.size) { s with heap := g, toks := tk } := fun n g tk e j k => by
    rw [e, List.take_length] at j
    exact ⟨.ref _, upd H s.heap.objs.size (SetSO X.w s.heap.objs.size (uqK ks)), I.laid (t' := tk) k (Nat.le_refl _) (setSO_new j), rfl, q _ I.fresh⟩
  have sz : ∀ {its : List Value}, Vals (ks.map kV) its → its.toArray.size = ks.length := fun r => by
    have := r.length
    rw [List.length_map] at this
    rw [List.size_toArray, this]
  rcases src with src | src
  · obtain ⟨_, its, n, rv, _, e⟩ := Inv.lstR I src
    exact made_list (I.ok.hd calm) ⟨_, e, rfl, n, rfl⟩ (fun i g => SetS X.w g s.heap.objs.size (uqK (ks.take i))) (fun g h _ => setS_none h) (fun i g g' j k => j.keep fun o => k _ o (Nat.le_refl _))
      (fun i v A1 s1 E1 Q1 _ hi hv j z => add_keys (us := its.toArray) rv few i v A1 s1 E1 Q1 hi hv j z) fun g tk j k => fin _ g tk (sz rv) j k
  · obtain ⟨its, rv, pl, _⟩ := I.tuple src
    exact made_tuple (I.ok.hd calm) pl (fun i g => SetS X.w g s.heap.objs.size (uqK (ks.take i))) (fun g h _ => setS_none h) (fun i g g' j k => j.keep fun o => k _ o (Nat.le_refl _))
      (fun i v A1 s1 E1 Q1 _ hi hv j z => add_keys (us := its.toArray) rv few i v A1 s1 E1 Q1 hi hv j z) fun g tk j k => fin _ g tk (sz rv) j k
end
/-! ### sorted of such a set -/
section
variable {P : Program} {w : World} {A : Around} {E : Value → Shared → Prop} {s : Shared} {a : Addr} {L : List Key}
theorem each_key (s : Shared) : ∀ (vs : List Value), (∀ v ∈ vs, keyIs (kOf (0, v)) v = true) → W.EachIs (fun v d => ∃ k, d = keyD k ∧ keyIs k v = true) vs (vs.map fun v => keyD (kOf (0, v)))
  | [], _ => .nil
  | v :: vs, h => .cons ⟨_, rfl, h v List.mem_cons_self⟩ (each_key s vs fun u hu => h u (List.mem_cons_of_mem _ hu))
theorem key_reads {g : Heap} {k : Key} {v : Value} (h : keyIs k v = true) : Reads g v (keyD k) [] := by
  rcases keyIs_shape h with ⟨i, t, rfl, rfl⟩ | ⟨x, t, rfl, rfl⟩
  · exact .int _ _
  · exact .str _ _
theorem each_keys : ∀ {vs : List Value} {ds : List D}, W.EachIs (fun v d => ∃ k, d = keyD k ∧ keyIs k v = true) vs ds → ∃ M : List Key, ds = M.map keyD ∧ Vals (M.map kV) vs
  | _, _, .nil => ⟨[], rfl, .nil⟩
  | _, _, .cons ⟨k, e, h⟩ t => by
    obtain ⟨M, e2, r⟩ := each_keys t
    exact ⟨k :: M, by rw [e, e2]; rfl, .cons (relV_key h) r⟩
theorem sorted_keys (R : SetS w s.heap a L) (nh : A.handled = none) (hu : A.units + 64 < cLine) (al : ∀ x ∈ L.map keyD, ∀ y ∈ L.map keyD, W.alike x y = true) {Q : Value → Shared → Prop}
    (q : ∀ s' p (out : Array Value) (c : Nat) (M : List Key), (∀ b o, s.heap.get? b = some o → s'.heap.get? b = some o) → s'.gens = s.gens → s'.os = s.os → s.heap.objs.size ≤ p → s'.heap.get? p = some (seqObj "list" out c) → Vals (M.map kV) out.toList →
      M.map keyD = srtD (L.map keyD) → Q (.ref p) s') : wpAny (model P w) A (call (.builtin "sorted") [.ref a]) Q E s := by
  obtain ⟨o, es, ep, t, ho, hx, hd, g, pm, nd, lb, hf, hr, hl⟩ := R
  have e0 : es.size = L.length := by rw [← pm.length_eq, List.length_map, Array.length_toList]
  refine Calls.call_function_entry kind_sorted plain_sorted entry_sorted (args_sorted1 (.ref a)) ?_
  unfold Builtin.«sorted»
  refine wpAny_bind (m := checkCount "sorted" 1 1 _) (wpAny_pure ?_)
  refine wpAny_bind (m := collect (.ref a)) (collect_set (A := A.in1) nh ⟨o, ho, hx.1, hd⟩ hf (by rw [e0]; exact lb) hr hl fun s1 vs k1 hz g1 o1 pv => ?_)
  have lv : vs.length = L.length := by rw [pv.length_eq, List.length_map, Array.length_toList, e0]
  have small : vs.length ≤ sizeLine := by rw [lv, sizeLine_eq]; have : scanBound = 4096 := rfl; omega
  have good : ∀ v ∈ vs, keyIs (kOf (0, v)) v = true := fun v hv => by
    obtain ⟨e, he, z⟩ := List.mem_map.mp (pv.mem_iff.mp hv)
    have h := (g e he).1
    rw [← z]
    exact h
  have pk : (vs.map fun v => kOf (0, v)).Perm L := by
    have z := pv.map fun v => kOf (0, v)
    rw [List.map_map] at z
    exact z.trans pm
  have pd : (vs.map fun v => keyD (kOf (0, v))).Perm (L.map keyD) := by
    have z := pk.map keyD
    rw [List.map_map] at z
    exact z
  refine wpAny_bind (m := newList vs) (wpAny_newList ?_ small)
  have oL : (s1.heap.push (seqObj "list" vs.toArray 0)).get? s1.heap.objs.size = some (seqObj "list" vs.toArray 0) := Heap.get?_push_size _ rfl
  have ek := each_key s vs good
  refine wpAny_bind (wpAny_holding (W.list_sort_data (s := { s1 with heap := s1.heap.push (seqObj "list" vs.toArray 0) }) (enc := id) (bs := vs.map fun v => keyD (kOf (0, v))) oL ek
    (ek.mono fun v d ⟨k, e, h⟩ => ⟨[], by rw [e]; exact key_reads h, by simp⟩) (by rw [List.map_id]; exact fun x hx y hy => al x (pd.mem_iff.mp hx) y (pd.mem_iff.mp hy))
    (.inr fun d hd => ?_) (by rw [List.length_map]; exact small) (fun b hb => ?_) fun out lo eo => ?_))
  · rw [List.map_id] at hd
    obtain ⟨v, _, rfl⟩ := List.mem_map.mp hd
    cases kOf (0, v) with
    | inl i => exact ⟨(by intro z; cases z), fun xs z => by cases z⟩
    | inr x => exact ⟨(by intro z; cases z), fun xs z => by cases z⟩
  · obtain ⟨v, _, rfl⟩ := List.mem_map.mp hb
    have : (id (keyD (kOf (0, v)))).depth = 0 := by
      cases kOf (0, v) <;> rfl
    rw [this]
    have h8 : A.in1.units ≤ A.units + 8 := by simp [Around.in1]
    omega
  · obtain ⟨M, e1, r⟩ := each_keys eo
    have es : srtD (vs.map fun v => keyD (kOf (0, v))) = srtD (L.map keyD) := srt_eq pd fun x hx y hy h1 h2 => by
      obtain ⟨v, _, rfl⟩ := List.mem_map.mp hx
      obtain ⟨u, _, rfl⟩ := List.mem_map.mp hy
      have z := lt_eqv (al _ (pd.mem_iff.mp hx) _ (pd.mem_iff.mp hy)) h1 h2
      rw [eqv_keyD, decide_eq_true_eq] at z
      rw [z]
    obtain ⟨c, hc⟩ := sortedHeap_at (vs := vs) (out := out.toArray) oL
    refine wpAny_pure ⟨_, rfl, q _ s1.heap.objs.size out.toArray c M (fun b u z => ?_) g1 o1 hz hc r (by rw [← e1]; exact es)⟩
    have z2 := k1 b u z
    have lt := Heap.lt_size z2
    show (sortedHeap (s1.heap.push (seqObj "list" vs.toArray 0)) _ vs out.toArray).get? b = some u
    rw [sortedHeap_old (Nat.ne_of_lt lt) (by rw [size_push']; exact Nat.lt_succ_of_lt lt)]
    exact Heap.get?_push_of_some _ z2
end
section
variable {X : Cx}
theorem cr_srt : CallR X (.builtin "sorted") (fun xs H Q => X.calm = true ∧ X.A.units + 64 < cLine ∧ ∃ (a : Addr) (L : List Key), xs = [.ref a] ∧ H a = some (SetSO X.w a L) ∧ (∀ x ∈ L.map keyD, ∀ y ∈ L.map keyD, W.alike x y = true) ∧
    ∀ (M : List Key) p, M.map keyD = srtD (L.map keyD) → H p = none → Q (.ref p) (upd H p (.lst (M.map kV)))) := by
  intro pins s σ H xs us Q I r h
  obtain ⟨calm, hu, a, L, rfl, ha, al, q⟩ := h
  have R : SetS X.w s.heap a L := (I.hok a _ ha).1
  rw [Vals.ref1 r]
  refine sorted_keys R (I.ok.hd calm) hu al fun s1 p out c M k g o hp hg rv hs => ?_
  have few : (M.map kV).length ≤ sizeLine := by
    obtain ⟨_, _, _, _, _, _, _, _, _, _, lb, _⟩ := R
    have l1 := congrArg List.length hs
    unfold srtD at l1
    rw [List.length_map, List.length_mergeSort, List.length_map] at l1
    rw [List.length_map, l1, sizeLine_eq]
    have : scanBound = 4096 := rfl
    omega
  have hn : H p = none := I.hok.fresh hp
  have J : Inv X pins σ (upd H p (.lst (M.map kV))) { s with heap := s1.heap, gens := s1.gens, drawn := s1.drawn, toks := s1.toks } :=
    I.call (ch := []) (Un.laid k hp hn) (I.hok.laid k hp ⟨few, out.toList, c, rv, hg⟩) (by rw [g]; exact I.bare) (fun _ z => nomatch z)
  have e : s1 = { s with heap := s1.heap, gens := s1.gens, drawn := s1.drawn, toks := s1.toks } := by
    cases s1
    cases s
    cases o
    rfl
  rw [e]
  exact ⟨.ref p, _, J, rfl, q M p hs hn⟩
end
end Dv
namespace Dv
open PySem PySem.Spec L2

/-! ### a def's names -/
def visB (sc : Scope) (x : Str) : Bool := match sc.names.lookup x with
  | some .local => true
  | some .cell => true
  | some .free => true
  | _ => false
def locB (sc : Scope) (x : Str) : Bool := match sc.names.lookup x with
  | some .local => true
  | some .cell => true
  | _ => false
def glB (sc : Scope) (x : Str) : Bool := match sc.names.lookup x with
  | some .globalImplicit => true
  | _ => false
structure Ct (N : List Str) (sc : Scope) (k : Nat) (B : List Str) (X : Cx) : Prop where
  hN : X.N = N
  nd : N.Nodup
  calm : X.calm = true
  vis : ∀ x, visB sc x = true → Vis X.env.scope x
  loc : ∀ x, locB sc x = true → Loc X.env.scope x ∧ (X.fn x = true ∨ X.env.scope.names.lookup x = some .local)
  lcl : ∀ x, sc.names.lookup x = some .local → X.env.scope.names.lookup x = some .local
  fre : ∀ x, sc.names.lookup x = some .cell ∨ sc.names.lookup x = some .free → X.env.scope.names.lookup x = some .cell ∨ X.env.scope.names.lookup x = some .free
  gl : ∀ x, glB sc x = true → Gl X x
  room : Room k X.A
  units : X.A.units + 64 < cLine
  blt : ∀ x ∈ B, X.mg x = none
  own : PassesOwn (model X.prog X.w) X.A X.env X.xe
section
variable {N : List Str} {sc : Scope} {k : Nat} {B : List Str} {X : Cx} {Φ : Nat → Fn} {pos : Pos}
theorem c_o {e : Expr} {ir : IE} (h : PE X e (tE X.g Φ ir)) (n : late ir = false := by rfl) : PE X e (tO X.g Φ ir) :=
  h.mono fun σ H Q ⟨env, d, env', R, ev, q⟩ => ⟨env, d, env', R, ev, fun v H' R' tr t => q v H' R' tr (.mk n t)⟩
theorem c_v (c : Ct N sc k B X) (i : Nat) {x : Str} (hi : N[i]? = some x := by rfl) (hv : visB sc x = true := by rfl) (hd : (x == ("__debug__" : Str)) = false := by decide) (hcd : (x == ("__classdict__" : Str)) = false := by decide) :
    PE X (.Name x pos) (tE X.g Φ (.v i)) :=
  (pe_var (by rw [c.hN]; exact hi) (c.vis x hv) hd hcd).mono fun σ H Q ⟨env, d, env', R, ev, q⟩ => by
    unfold evE getV at ev
    cases h : sl env i with
    | none => rw [h] at ev; cases ev
    | some p =>
      obtain ⟨f, d'⟩ := p
      rw [h] at ev
      cases f with
      | imm =>
        cases ev
        obtain ⟨v, e1, t⟩ := R.ok i _ _ h
        exact ⟨v, e1, q v H R (Tr.refl) t⟩
      | _ => cases ev
theorem c_pl (c : Ct N sc k B X) (i : Nat) {x : Str} (hi : N[i]? = some x := by rfl) (hv : visB sc x = true := by rfl) (hd : (x == ("__debug__" : Str)) = false := by decide) (hcd : (x == ("__classdict__" : Str)) = false := by decide) :
    PE X (.Name x pos) (tO X.g Φ (.pl i)) :=
  (pe_var (by rw [c.hN]; exact hi) (c.vis x hv) hd hcd).mono fun σ H Q ⟨env, d, env', R, ev, q⟩ => by
    unfold evE getP at ev
    cases h : sl env i with
    | none => rw [h] at ev; cases ev
    | some p =>
      obtain ⟨f, d'⟩ := p
      rw [h] at ev
      obtain ⟨v, e1, t⟩ := R.ok i _ _ h
      have e2 : env' = env := by cases f <;> cases ev <;> rfl
      subst e2
      exact ⟨v, e1, q v H R (Tr.refl) e1⟩
theorem pe_any {e : Expr} {t u : TE} (h : PE X e t) (m : ∀ (pins : List (Addr × Obj)) (s : Shared) (σ : L2.St) (H : Hp) (Q : VK), Inv X pins σ H s → u σ H Q → t σ H (fun v H' => ∃ H2, (∀ s', Inv X pins σ H' s' → Inv X pins σ H2 s') ∧ Q v H2)) : PE X e u :=
  ⟨fun pins s σ H Q I q => thn (h.run pins s σ H _ I (m pins s σ H Q I q)) fun u s' ⟨v, H', I', r, H2, f, q2⟩ => ⟨v, H2, f s' I', r, q2⟩⟩
theorem ownA_frz {env : En} {σ : L2.St} {i : Nat} {d : D} {a : Addr} (hs : sl env i = some (.own, d)) {b : Addr} (h : ownA (env.set i (some (.imm, d))) σ b) : ownA env σ b := by
  obtain ⟨j, f, e, h1, h2, h3⟩ := h
  by_cases hj : i = j
  · subst hj
    rw [sl_set_eq (sl_lt hs)] at h1
    cases h1
    rcases h2 with h2 | h2 <;> cases h2
  · rw [sl_set_ne hj] at h1
    exact ⟨j, f, e, h1, h2, h3⟩
theorem frz_slot {K : G} {env : En} {σ : L2.St} {H : Hp} {i : Nat} {d : D} (R : Rep K env σ H) (h : sl env i = some (.own, d)) : ∃ a u, σ[i]? = some (some (.ref a)) ∧ H a = some u ∧ Frzb u ∧ ∀ o, Rep K (env.set i (some (.imm, d))) σ (upd H a (.frz o u)) ∧ Tr env σ H (env.set i (some (.imm, d))) σ (upd H a (.frz o u)) ∧ T K (upd H a (.frz o u)) d (.ref a) := by
  obtain ⟨a, e1, m, u, hu, fu⟩ := R.at h (by decide) (by decide)
  refine ⟨a, u, e1, hu, fu, fun o => ?_⟩
  have p := per_upd (o := .frz o u) hu fu.nimm
  have tt := m.frozen hu p
  have R2 : Rep K (env.set i (some (.imm, d))) σ (upd H a (.frz o u)) := by
    refine ⟨by rw [List.length_set]; exact R.len, fun j f e hj => ?_, fun j l f g e e' b hne hj hf hl hg hx es => ?_⟩
    · by_cases hij : i = j
      · subst hij
        rw [sl_set_eq (sl_lt h)] at hj
        cases hj
        exact ⟨_, e1, tt⟩
      · rw [sl_set_ne hij] at hj
        obtain ⟨w, ew, k⟩ := R.ok j f e hj
        refine ⟨w, ew, ?_⟩
        have kp : ∀ (m' : Mt K H e w), (f ≠ .imm) → (f ≠ .ext) → Mt K (upd H a (.frz o u)) e w := fun m' h1 h2 => by
          obtain ⟨b, ob, rfl, hb, _⟩ := m'.ref
          refine m'.keep p fun o' ho => ?_
          rw [upd_ne]
          · exact ho
          · rintro rfl
            exact R.apart i j .own f d e b hij h (.inl rfl) hj h1 h2 e1 ew
        cases f with
        | imm => exact T.mono p _ _ k
        | own => exact kp k (by decide) (by decide)
        | par => exact kp k (by decide) (by decide)
        | len => exact kp k (by decide) (by decide)
        | ext => exact Xt.mono p k
    · by_cases hij : i = j
      · subst hij
        rw [sl_set_eq (sl_lt h)] at hj
        cases hj
        rcases hf with hf | hf <;> cases hf
      · rw [sl_set_ne hij] at hj
        by_cases hil : i = l
        · subst hil
          rw [sl_set_eq (sl_lt h)] at hl
          cases hl
          exact absurd rfl hg
        · rw [sl_set_ne hil] at hl
          exact R.apart j l f g e e' b hne hj hf hl hg hx es
  refine ⟨R2, ?_, tt⟩
  refine ⟨fun b o' hb nb => ?_, p, fun b o' hb => ?_, fun b hb => .inl (ownA_frz (a := a) h hb), fun j e hj => ?_, fun j e hj => ?_, fun j e hj => ?_⟩
  · rw [upd_ne]
    · exact hb
    · rintro rfl
      exact nb ⟨i, .own, d, h, .inl rfl, e1⟩
  · by_cases hba : b = a
    · subst hba; exact ⟨_, upd_same⟩
    · exact ⟨o', by rw [upd_ne hba]; exact hb⟩
  · refine ⟨?_, rfl⟩
    rw [sl_set_ne]
    · exact hj
    · rintro rfl; rw [h] at hj; cases hj
  · refine ⟨e, ?_, rfl⟩
    rw [sl_set_ne]
    · exact hj
    · rintro rfl; rw [h] at hj; cases hj
  · by_cases hij : i = j
    · subst hij
      rw [sl_set_eq (sl_lt h)] at hj
      cases hj
    · rw [sl_set_ne hij] at hj
      exact hj
theorem c_fz (c : Ct N sc k B X) (i : Nat) {x : Str} (hi : N[i]? = some x := by rfl) (hv : visB sc x = true := by rfl) (hd : (x == ("__debug__" : Str)) = false := by decide) (hcd : (x == ("__classdict__" : Str)) = false := by decide) :
    PE X (.Name x pos) (tE X.g Φ (.fz i)) := by
  refine ⟨fun pins s σ H Q I ⟨env, d, env', R, ev, q⟩ => ?_⟩
  unfold evE at ev
  cases h : sl env i with
  | none => rw [h] at ev; cases ev
  | some p =>
    obtain ⟨f, d'⟩ := p
    rw [h] at ev
    cases f with
    | imm =>
      cases ev
      obtain ⟨v, e1, t⟩ := R.ok i _ _ h
      exact (pe_var (X := X) (by rw [c.hN]; exact hi) (c.vis x hv) hd hcd).run pins s σ H _ I ⟨v, e1, q v H R Tr.refl t⟩
    | own =>
      cases ev
      obtain ⟨a, u, e1, hu, fu, fin⟩ := frz_slot R h
      refine thn ((pe_var (X := X) (by rw [c.hN]; exact hi) (c.vis x hv) hd hcd).run pins s σ H (fun v H' => v = .ref a ∧ H' = H) I ⟨.ref a, e1, rfl, rfl⟩) fun w s' ⟨v, H', I', rv, e2, e3⟩ => ?_
      subst e2 e3
      obtain ⟨o, I2⟩ := inv_freeze I' hu fu
      obtain ⟨R2, t2, tt⟩ := fin o
      exact ⟨.ref a, _, I2, rv, q _ _ R2 t2 tt⟩
    | _ => cases ev

theorem c_int {i : Int} {j} : PE X (.Constant (.int i) j pos) (tE X.g Φ (.int i)) := pe_int.mono fun σ H Q ⟨env, d, env', R, ev, q⟩ => by
  cases ev; exact q _ _ R Tr.refl T.int
theorem c_bool {b : Bool} {j} : PE X (.Constant (.bool b) j pos) (tE X.g Φ (.bool b)) := pe_bl.mono fun σ H Q ⟨env, d, env', R, ev, q⟩ => by
  cases ev; exact q _ _ R Tr.refl T.bool
theorem c_non {j} : PE X (.Constant .none j pos) (tE X.g Φ .non) := pe_non.mono fun σ H Q ⟨env, d, env', R, ev, q⟩ => by
  cases ev; exact q _ _ R Tr.refl T.non
theorem c_str {x : Str} {j} : PE X (.Constant (.str x) j pos) (tE X.g Φ (.str x)) := pe_str.mono fun σ H Q ⟨env, d, env', R, ev, q⟩ => by
  cases ev; exact q _ _ R Tr.refl T.str

/-! ### two operands -/
def rD (K : G) (g : D → D → Option D) : R2 := fun x y H Q => ∃ dx dy dz, Vw K H dx x ∧ Vw K H dy y ∧ g dx dy = some dz ∧ ∀ z H', Same H H' → T K H' dz z → Q z H'
theorem Op2R.r {f : Value → Value → Sem Value} {g : D → D → Option D} (h : Op2R X f g) : OpR X f (rD X.g g) := fun pins s σ H x y v u Q I rx ry ⟨dx, dy, dz, hx, hy, e, q⟩ =>
  thn (h pins s σ H x y v u dx dy dz I rx ry hx hy e) fun w s' ⟨z, H', I', r, sm, t⟩ => ⟨z, H', I', r, q z H' sm t⟩
theorem IxD.r {g : D → D → Option D} (h : ∀ (value slice : Expr) (pins : List (Addr × Obj)) (s : Shared) (σ : L2.St) (H : Hp) (x y : V) (v u : Value) (dx dy dz : D), Inv X pins σ H s → RelV x v → RelV y u → Vw X.g H dx x → Vw X.g H dy y → g dx dy = some dz →
  subscripted slice false v u = operate [v, u] (getItem v u) → wpAny (model X.prog X.w) X.A (PyProof.Rows.subscriptTail value slice v u) (EP X pins σ fun z H' => Same H H' ∧ T X.g H' dz z) X.xe s) : IxR X (rD X.g g) := fun va sc pins s σ H x y v u Q I rx ry ⟨dx, dy, dz, hx, hy, e, q⟩ hs =>
  thn (h va sc pins s σ H x y v u dx dy dz I rx ry hx hy e hs) fun w s' ⟨z, H', I', r, sm, t⟩ => ⟨z, H', I', r, q z H' sm t⟩
/-- two operands, read late -/
theorem two_o {K : G} {ia ib ir : IE} {g : D → D → Option D} {σ : L2.St} {H : Hp} {Q : VK} (he : ∀ e, evE Φ ir e = (evE Φ ia e).bind fun p => (evE Φ ib p.2).bind fun q => (rd ia q.2 p.1).bind fun x => (rd ib q.2 q.1).bind fun y => (g x y).map (·, q.2))
    (h : tE K Φ ir σ H Q) : tOp (rD K g) (tO K Φ ia) (tO K Φ ib) σ H Q := by
  obtain ⟨env, d, env', R, ev, q⟩ := h
  rw [he] at ev
  obtain ⟨⟨da, e1⟩, h1, ev⟩ := Option.bind_eq_some_iff.mp ev
  obtain ⟨⟨db, e2⟩, h2, ev⟩ := Option.bind_eq_some_iff.mp ev
  obtain ⟨x, h3, ev⟩ := Option.bind_eq_some_iff.mp ev
  obtain ⟨y, h4, ev⟩ := Option.bind_eq_some_iff.mp ev
  obtain ⟨z, h5, ev⟩ := Option.map_eq_some_iff.mp ev
  cases ev
  refine ⟨env, da, e1, R, h1, fun v H1 R1 t1 o1 => ⟨e1, db, e2, R1, h2, fun u H2 R2 t2 o2 => ⟨x, y, _, (o1.mono t2.per).rd (Per.refl _) R2 h3, o2.rd (Per.refl _) R2 h4, h5, fun z H' sm t => q z H' (R2.same sm) ((t1.trans t2).trans (Tr.same sm)) t⟩⟩⟩
theorem c_bin {op : Operator} {o : Op2} {a b : Expr} {ia ib : IE} (ho : Op2R X (binaryOp op) (op2 o)) (ha : PE X a (tO X.g Φ ia)) (hb : PE X b (tO X.g Φ ib)) : PE X (.BinOp a op b pos) (tE X.g Φ (.op o ia ib)) :=
  (pe_op ho.r ha hb).mono fun σ H Q h => two_o (g := op2 o) (fun e => rfl) h
theorem c_cmp {op : CmpOp} {o : Cm} {a b : Expr} {ia ib : IE} (ho : Op2R X (compareOp op) fun x y => (cmp2 o x y).map PyData.bool) (ha : PE X a (tO X.g Φ ia)) (hb : PE X b (tO X.g Φ ib)) (hm : behindInMarks op b = false := by first | exact nomark _ | rfl) : PE X (.Compare a [op] [b] pos) (tE X.g Φ (.cmp o ia ib)) :=
  (pe_cmpR ho.r ha hb hm).mono fun σ H Q h => two_o (ir := .cmp o ia ib) (g := fun x y => (cmp2 o x y).map PyData.bool) (fun e => by
    show ((evE Φ ia e).bind fun p => (evE Φ ib p.2).bind fun q => (rd ia q.2 p.1).bind fun x => (rd ib q.2 q.1).bind fun y => (cmp2 o x y).map fun c => (PyData.bool c, q.2)) = _
    simp only [Option.map_map, Function.comp_def]) h
theorem c_idx {a b : Expr} {ia ib : IE} (c : Ct N sc k B X) (ha : PE X a (tO X.g Φ ia)) (hb : PE X b (tO X.g Φ ib)) (hs : PlainIx b := by intro _ _; rfl) : PE X (.Subscript a b pos) (tE X.g Φ (.idx ia ib)) :=
  (pe_ix (IxD.r (g := idxD) (i_idx c.units)) ha hb hs).mono fun σ H Q h => two_o (g := idxD) (fun e => rfl) h
/-- tests -/
theorem t_of {K : G} {ir : IE} {σ : L2.St} {H : Hp} {Q : Bool → Hp → Prop} (h : tT K Φ ir σ H Q) : tE K Φ ir σ H fun v H' => ∃ b, v = .bl b ∧ Q b H' := by
  obtain ⟨env, b, env', R, ev, q⟩ := h
  exact ⟨env, .bool b, env', R, ev, fun v H' R' tr t => ⟨b, by unfold T at t; exact t, q H' R' tr⟩⟩
theorem c_tv {e : Expr} {ir : IE} (h : PE X e (tE X.g Φ ir)) (he : ∀ whole, isTrue e X.env whole = (do let v ← whole; standAt e.pos; holding [v] (truthy v)) := by intro _; rfl) : PT X e (tT X.g Φ ir) :=
  (pt_val h he).mono fun σ H Q q => t_of q
theorem c_tcmp {op : CmpOp} {o : Cm} {a b : Expr} {ia ib : IE} (ho : Op2R X (compareOp op) fun x y => (cmp2 o x y).map PyData.bool) (ha : PE X a (tO X.g Φ ia)) (hb : PE X b (tO X.g Φ ib)) (hm : behindInMarks op b = false := by first | exact nomark _ | rfl) : PT X (.Compare a [op] [b] pos) (tT X.g Φ (.cmp o ia ib)) :=
  (pt_cmpR ho.r ha hb hm).mono fun σ H Q h => two_o (ir := .cmp o ia ib) (g := fun x y => (cmp2 o x y).map PyData.bool) (fun e => by
    show ((evE Φ ia e).bind fun p => (evE Φ ib p.2).bind fun q => (rd ia q.2 p.1).bind fun x => (rd ib q.2 q.1).bind fun y => (cmp2 o x y).map fun c => (PyData.bool c, q.2)) = _
    simp only [Option.map_map, Function.comp_def]) (t_of h)
theorem chain_o {K : G} {o o' : Cm} {ia ib ic : IE} {σ : L2.St} {H : Hp} {Q : VK} (h : tE K Φ (.chain o o' ia ib ic) σ H Q) : tChain (rD K fun x y => (cmp2 o x y).map PyData.bool) (rD K fun x y => (cmp2 o' x y).map PyData.bool) (tO K Φ ia) (tO K Φ ib) (tO K Φ ic) σ H Q := by
  obtain ⟨env, d, env', R, ev, q⟩ := h
  unfold evE at ev
  obtain ⟨⟨da, e1⟩, h1, ev⟩ := Option.bind_eq_some_iff.mp ev
  obtain ⟨⟨db, e2⟩, h2, ev⟩ := Option.bind_eq_some_iff.mp ev
  obtain ⟨x, h3, ev⟩ := Option.bind_eq_some_iff.mp ev
  obtain ⟨y, h4, ev⟩ := Option.bind_eq_some_iff.mp ev
  obtain ⟨t, h5, ev⟩ := Option.bind_eq_some_iff.mp ev
  refine ⟨env, da, e1, R, h1, fun v H1 R1 t1 o1 => ⟨e1, db, e2, R1, h2, fun u H2 R2 t2 o2 => ⟨x, y, .bool t, (o1.mono t2.per).rd (Per.refl _) R2 h3, o2.rd (Per.refl _) R2 h4, by show (cmp2 o x y).map _ = _; rw [h5]; rfl, fun z H3 sm t3 => ?_⟩⟩⟩
  have ez : z = .bl t := by unfold T at t3; exact t3
  refine ⟨t, ez, ?_⟩
  have R3 := R2.same sm
  have tr3 := (t1.trans t2).trans (Tr.same sm)
  cases t with
  | false =>
    rw [if_neg (by decide)] at ev ⊢
    cases ev
    exact q _ _ R3 tr3 T.bool
  | true =>
    rw [if_pos rfl] at ev ⊢
    obtain ⟨⟨dc, e3⟩, h6, ev⟩ := Option.bind_eq_some_iff.mp ev
    obtain ⟨y', h7, ev⟩ := Option.bind_eq_some_iff.mp ev
    obtain ⟨z', h8, ev⟩ := Option.bind_eq_some_iff.mp ev
    obtain ⟨t', h9, ev⟩ := Option.map_eq_some_iff.mp ev
    cases ev
    exact ⟨e2, dc, e3, R3, h6, fun w H4 R4 t4 o4 => ⟨y', z', .bool t', ((o2.mono (same_per sm)).mono t4.per).rd (Per.refl _) R4 h7, o4.rd (Per.refl _) R4 h8, by show (cmp2 o' y' z').map _ = _; rw [h9]; rfl, fun z H5 sm2 tz => q z H5 (R4.same sm2) ((tr3.trans t4).trans (Tr.same sm2)) tz⟩⟩
theorem c_chain {op op' : CmpOp} {o o' : Cm} {a b c : Expr} {ia ib ic : IE} (ho : Op2R X (compareOp op) fun x y => (cmp2 o x y).map PyData.bool) (ho' : Op2R X (compareOp op') fun x y => (cmp2 o' x y).map PyData.bool) (ha : PE X a (tO X.g Φ ia)) (hb : PE X b (tO X.g Φ ib)) (hc : PE X c (tO X.g Φ ic))
    (hm : lastMarks [op, op'] [b, c] = false := by with_unfolding_all rfl) : PE X (.Compare a [op, op'] [b, c] pos) (tE X.g Φ (.chain o o' ia ib ic)) :=
  (pe_chain ho.r ho'.r ha hb hc hm).mono fun σ H Q h => chain_o h
theorem c_tchain {op op' : CmpOp} {o o' : Cm} {a b c : Expr} {ia ib ic : IE} (ho : Op2R X (compareOp op) fun x y => (cmp2 o x y).map PyData.bool) (ho' : Op2R X (compareOp op') fun x y => (cmp2 o' x y).map PyData.bool) (ha : PE X a (tO X.g Φ ia)) (hb : PE X b (tO X.g Φ ib)) (hc : PE X c (tO X.g Φ ic))
    (hm : lastMarks [op, op'] [b, c] = false := by with_unfolding_all rfl) : PT X (.Compare a [op, op'] [b, c] pos) (tT X.g Φ (.chain o o' ia ib ic)) :=
  (pt_chain ho.r ho'.r ha hb hc hm).mono fun σ H Q h => chain_o (t_of h)

/-! ### not, and, or, neg, if -/
theorem c_neg {a : Expr} {ia : IE} (ha : PE X a (tE X.g Φ ia)) : PE X (.UnaryOp .USub a pos) (tE X.g Φ (.neg ia)) :=
  (pe_un un_neg ha).mono fun σ H Q ⟨env, d, env', R, ev, q⟩ => by
    unfold evE at ev
    obtain ⟨⟨da, e1⟩, h1, ev⟩ := Option.bind_eq_some_iff.mp ev
    obtain ⟨z, h2, ev⟩ := Option.map_eq_some_iff.mp ev
    cases ev
    refine ⟨env, da, e1, R, h1, fun v H1 R1 t1 o1 => ?_⟩
    change negD da = some d at h2
    unfold negD at h2
    split at h2
    · cases h2
      unfold T at o1
      exact ⟨_, o1, q _ _ R1 t1 T.int⟩
    · cases h2
theorem c_not {a : Expr} {ia : IE} (ha : PE X a (tE X.g Φ ia)) : PE X (.UnaryOp .Not a pos) (tE X.g Φ (.not ia)) :=
  (pe_not ha).mono fun σ H Q ⟨env, d, env', R, ev, q⟩ => by
    unfold evE at ev
    obtain ⟨⟨da, e1⟩, h1, ev⟩ := Option.bind_eq_some_iff.mp ev
    refine ⟨env, da, e1, R, h1, fun v H1 R1 t1 o1 => ?_⟩
    cases da with
    | bool b =>
      cases ev
      unfold T at o1
      exact ⟨_, o1, q _ _ R1 t1 T.bool⟩
    | _ => cases ev
theorem c_tnot {a : Expr} {ia : IE} (ha : PT X a (tT X.g Φ ia)) : PT X (.UnaryOp .Not a pos) (tT X.g Φ (.not ia)) :=
  (pt_not ha).mono fun σ H Q ⟨env, b, env', R, ev, q⟩ => by
    unfold evE at ev
    obtain ⟨⟨da, e1⟩, h1, ev⟩ := Option.bind_eq_some_iff.mp ev
    cases da with
    | bool b' =>
      cases ev
      exact ⟨env, b', _, R, h1, fun H1 R1 t1 => q _ R1 t1⟩
    | _ => cases ev
theorem c_one {op} {a : Expr} {t : TE} (h : PE X a t) : PE X (.BoolOp op [a] pos) t := pe_one h
theorem c_and {a b : Expr} {rest : List Expr} {ia ib : IE} (ha : PE X a (tE X.g Φ ia)) (hb : PE X (.BoolOp .And (b :: rest) pos) (tE X.g Φ ib)) : PE X (.BoolOp .And (a :: b :: rest) pos) (tE X.g Φ (.and ia ib)) :=
  (pe_and ha hb).mono fun σ H Q ⟨env, d, env', R, ev, q⟩ => by
    unfold evE at ev
    obtain ⟨⟨da, e1⟩, h1, ev⟩ := Option.bind_eq_some_iff.mp ev
    refine ⟨env, da, e1, R, h1, fun v H1 R1 t1 o1 => ?_⟩
    cases da with
    | bool c =>
      refine ⟨c, by unfold T at o1; exact o1, ?_⟩
      cases c with
      | true => rw [if_pos rfl]; exact ⟨e1, d, env', R1, ev, fun w H2 R2 t2 o2 => q w H2 R2 (t1.trans t2) o2⟩
      | false => rw [if_neg (by decide)]; cases ev; exact q _ _ R1 t1 T.bool
    | _ => cases ev
theorem c_or {a b : Expr} {rest : List Expr} {ia ib : IE} (ha : PE X a (tE X.g Φ ia)) (hb : PE X (.BoolOp .Or (b :: rest) pos) (tE X.g Φ ib)) : PE X (.BoolOp .Or (a :: b :: rest) pos) (tE X.g Φ (.or ia ib)) :=
  (pe_or ha hb).mono fun σ H Q ⟨env, d, env', R, ev, q⟩ => by
    unfold evE at ev
    obtain ⟨⟨da, e1⟩, h1, ev⟩ := Option.bind_eq_some_iff.mp ev
    refine ⟨env, da, e1, R, h1, fun v H1 R1 t1 o1 => ?_⟩
    cases da with
    | bool c =>
      refine ⟨c, by unfold T at o1; exact o1, ?_⟩
      cases c with
      | false => rw [if_neg (by decide)]; exact ⟨e1, d, env', R1, ev, fun w H2 R2 t2 o2 => q w H2 R2 (t1.trans t2) o2⟩
      | true => rw [if_pos rfl]; cases ev; exact q _ _ R1 t1 T.bool
    | _ => cases ev
theorem c_tand1 {a : Expr} {t : TT} (ha : PT X a t) : PW X (.BoolOp .And [a] pos) t := pw_and1 ha
theorem c_tor1 {a : Expr} {t : TT} (ha : PT X a t) : PW X (.BoolOp .Or [a] pos) t := pw_or1 ha
theorem _root_.L2.PW.mono {e : Expr} {t u : TT} (h : PW X e t) (m : ∀ σ H Q, u σ H Q → t σ H Q) : PW X e u := ⟨fun wh pins s σ H Q I q => h.run wh pins s σ H Q I (m σ H Q q)⟩
theorem c_tand {a b : Expr} {rest : List Expr} {ia ib : IE} (ha : PT X a (tT X.g Φ ia)) (hb : PW X (.BoolOp .And (b :: rest) pos) (tT X.g Φ ib)) : PW X (.BoolOp .And (a :: b :: rest) pos) (tT X.g Φ (.and ia ib)) :=
  (pw_and ha hb).mono fun σ H Q ⟨env, d, env', R, ev, q⟩ => by
    unfold evE at ev
    obtain ⟨⟨da, e1⟩, h1, ev⟩ := Option.bind_eq_some_iff.mp ev
    cases da with
    | bool c =>
      refine ⟨env, c, e1, R, h1, fun H1 R1 t1 => ?_⟩
      cases c with
      | true => rw [if_pos rfl]; exact ⟨e1, d, env', R1, ev, fun H2 R2 t2 => q H2 R2 (t1.trans t2)⟩
      | false => rw [if_neg (by decide)]; cases ev; exact q _ R1 t1
    | _ => cases ev
theorem c_tor {a b : Expr} {rest : List Expr} {ia ib : IE} (ha : PT X a (tT X.g Φ ia)) (hb : PW X (.BoolOp .Or (b :: rest) pos) (tT X.g Φ ib)) : PW X (.BoolOp .Or (a :: b :: rest) pos) (tT X.g Φ (.or ia ib)) :=
  (pw_or ha hb).mono fun σ H Q ⟨env, d, env', R, ev, q⟩ => by
    unfold evE at ev
    obtain ⟨⟨da, e1⟩, h1, ev⟩ := Option.bind_eq_some_iff.mp ev
    cases da with
    | bool c =>
      refine ⟨env, c, e1, R, h1, fun H1 R1 t1 => ?_⟩
      cases c with
      | false => rw [if_neg (by decide)]; exact ⟨e1, d, env', R1, ev, fun H2 R2 t2 => q H2 R2 (t1.trans t2)⟩
      | true => rw [if_pos rfl]; cases ev; exact q _ R1 t1
    | _ => cases ev
theorem c_ite {c a b : Expr} {ic ia ib : IE} (hc : PT X c (tT X.g Φ ic)) (ha : PE X a (tE X.g Φ ia)) (hb : PE X b (tE X.g Φ ib)) : PE X (.IfExp c a b pos) (tE X.g Φ (.ite ic ia ib)) :=
  (pe_ifExp hc ha hb).mono fun σ H Q ⟨env, d, env', R, ev, q⟩ => by
    unfold evE at ev
    obtain ⟨⟨da, e1⟩, h1, ev⟩ := Option.bind_eq_some_iff.mp ev
    cases da with
    | bool b =>
      refine ⟨env, b, e1, R, h1, fun H1 R1 t1 => ?_⟩
      cases b with
      | true => rw [if_pos rfl]; exact ⟨e1, d, env', R1, ev, fun w H2 R2 t2 o2 => q w H2 R2 (t1.trans t2) o2⟩
      | false => rw [if_neg (by decide)]; exact ⟨e1, d, env', R1, ev, fun w H2 R2 t2 o2 => q w H2 R2 (t1.trans t2) o2⟩
    | _ => cases ev
end
end Dv
namespace Dv
open PySem PySem.Spec L2

section
variable {N : List Str} {sc : Scope} {k : Nat} {B : List Str} {X : Cx} {Φ : Nat → Fn} {pos : Pos}
/-! ### arguments -/
theorem tA_nil : PA X [] (tA X.g Φ []) := pa_nil.mono fun σ H Q ⟨env, ds, env', R, ev, q⟩ => by
  cases ev
  exact q [] H R Tr.refl trivial
theorem a_nil : PA X [] (tA X.g Φ []) := tA_nil
theorem a_cons {e : Expr} {es : List Expr} {ia : IE} {is : List IE} (ha : PE X e (tO X.g Φ ia)) (hr : PA X es (tA X.g Φ is)) (hs : starEach (e :: es) X.env = (false, eval e X.env) :: starEach es X.env := by rfl) : PA X (e :: es) (tA X.g Φ (ia :: is)) :=
  (pa_cons ha hr hs).mono fun σ H Q ⟨env, ds, env', R, ev, q⟩ => by
    unfold evEs at ev
    obtain ⟨⟨da, e1⟩, h1, ev⟩ := Option.bind_eq_some_iff.mp ev
    obtain ⟨⟨dr, e2⟩, h2, ev⟩ := Option.map_eq_some_iff.mp ev
    cases ev
    exact ⟨env, da, e1, R, h1, fun v H1 R1 t1 o1 => ⟨e1, dr, e2, R1, h2, fun vs H2 R2 t2 o2 => q (v :: vs) H2 R2 (t1.trans t2) ⟨o1.mono t2.per, o2⟩⟩⟩
theorem OpdA.length {K : G} {σ : L2.St} {H : Hp} : ∀ {es : List IE} {ds : List D} {vs : List V}, OpdA K σ H es ds vs → vs.length = es.length ∧ ds.length = es.length
  | [], [], [], _ => ⟨rfl, rfl⟩
  | _ :: _, _ :: _, _ :: _, h => by
    have := OpdA.length h.2
    simp [this]
def allV (es : List IE) : Bool := es.all fun e => !late e
theorem allV_mem {es : List IE} (h : allV es = true) : ∀ e ∈ es, late e = false := fun e he => by
  have := List.all_eq_true.mp h e he
  simpa using this
theorem few_line {n : Nat} (h : decide (n ≤ 1000) = true) : n ≤ sizeLine := Nat.le_trans (of_decide_eq_true h) (by decide)
theorem none_of_tr {env env' : En} {σ σ' : L2.St} {H H' : Hp} {a : Addr} (t : Tr env σ H env' σ' H') (h : H' a = none) : H a = none := by
  cases q : H a with
  | none => rfl
  | some o =>
    obtain ⟨o', h'⟩ := t.dom a o q
    rw [h] at h'; cases h'
theorem c_tup {es : List Expr} {is : List IE} {x1} (ha : PA X es (tA X.g Φ is)) (hl : allV is = true := by rfl) (hz : decide (is.length ≤ 1000) = true := by rfl) : PE X (.Tuple es x1 pos) (tE X.g Φ (.tup is)) :=
  (pe_tup ha).mono fun σ H Q ⟨env, d, env', R, ev, q⟩ => by
    unfold evE at ev
    obtain ⟨⟨ds, e1⟩, h1, ev⟩ := Option.map_eq_some_iff.mp ev
    cases ev
    refine ⟨env, ds, e1, R, h1, fun vs H1 R1 t1 o1 => ⟨by rw [o1.length.1]; exact few_line hz, fun p hn => ?_⟩⟩
    exact q _ _ (R1.new hn) (t1.trans (Tr.new hn)) (.tup (.inl (.inl upd_same)) (TA.mono (per_new hn) _ _ (TA.of_opdA (allV_mem hl) o1)))
theorem f_lst {es : List Expr} {is : List IE} (ha : PA X es (tA X.g Φ is)) (hl : allV is = true := by rfl) (hz : decide (is.length ≤ 1000) = true := by rfl) : PE X (.List es pos) (tF X.g Φ (.lst is)) :=
  (pe_lst ha).mono fun σ H Q ⟨env, d, env', R, ev, q⟩ => by
    change (evEs Φ is env).map _ = _ at ev
    obtain ⟨⟨ds, e1⟩, h1, ev⟩ := Option.map_eq_some_iff.mp ev
    cases ev
    refine ⟨env, ds, e1, R, h1, fun vs H1 R1 t1 o1 => ⟨by rw [o1.length.1]; exact few_line hz, fun p hn => ?_⟩⟩
    exact q _ _ (R1.new hn) (t1.trans (Tr.new hn)) ⟨p, vs, rfl, upd_same, TA.mono (per_new hn) _ _ (TA.of_opdA (allV_mem hl) o1)⟩ (none_of_tr t1 hn) (R1.notIn hn)
theorem c_frz {e : Expr} {ir : IE} (h : PE X e (tF X.g Φ ir)) (hq : ∀ env, evF Φ ir env = evE Φ ir env := by intro _; rfl) : PE X e (tE X.g Φ ir) := pe_frz h fun env d env' ev => by rw [hq]; exact ev
/-- [..] * n -/
theorem f_rep {a b : Expr} {is : List IE} {ib : IE} (ha : PE X a (tF X.g Φ (.lst is))) (hb : PE X b (tE X.g Φ ib)) : PE X (.BinOp a .Mult b pos) (tF X.g Φ (.rep is ib)) :=
  (pe_op op_rep ha hb).mono fun σ H Q ⟨env, d, env', R, ev, q⟩ => by
    change (evEs Φ is env).bind _ = _ at ev
    obtain ⟨⟨ds, e1⟩, h1, ev⟩ := Option.bind_eq_some_iff.mp ev
    obtain ⟨⟨db, e2⟩, h2, ev⟩ := Option.bind_eq_some_iff.mp ev
    obtain ⟨z, h3, ev⟩ := Option.map_eq_some_iff.mp ev
    cases ev
    refine ⟨env, .list ds, e1, R, by show (evEs Φ is env).map _ = _; rw [h1]; rfl, fun l H1 R1 t1 m1 n1 ni1 => ⟨e1, db, e2, R1, h2, fun v H2 R2 t2 o2 => ?_⟩⟩
    obtain ⟨vs, hl, t⟩ : ∃ vs, H1 l = some (.lst vs) ∧ TA X.g H1 ds vs := by
      obtain ⟨b, vs, e, hb, t⟩ := m1
      cases e
      exact ⟨vs, hb, t⟩
    have hl2 : H2 l = some (.lst vs) := t2.frm _ _ hl fun ⟨i, f, d, h1, h2, h3⟩ => ni1 i f d h1 (by rcases h2 with rfl | rfl <;> decide) (by rcases h2 with rfl | rfl <;> decide) h3
    have t' : TA X.g H2 ds vs := TA.mono t2.per _ _ t
    change repD ds db = some d at h3
    cases db with
    | int n =>
      change (if _ then _ else _) = _ at h3
      split at h3
      · rename_i hz
        cases h3
        rw [Bool.and_eq_true] at hz
        have hz2 := hz.2
        replace hz2 := smallI_of hz2
        unfold T at o2
        have hl3 : (List.replicate n.toNat ds).flatten.length = ds.length * n.toNat := by simp [Nat.mul_comm]
        have rep : ∀ (m : Nat) (H : Hp), TA X.g H ds vs → TA X.g H (List.replicate m ds).flatten (List.replicate m vs).flatten := fun m H t => by
          induction m with
          | zero => exact .nil
          | succ m ih => rw [List.replicate_succ, List.replicate_succ, List.flatten_cons, List.flatten_cons]; exact t.append ih
        refine ⟨l, n, vs, rfl, o2, hl2, by omega, by omega, by rw [← t.length]; exact szOk_le hz.1, fun p hn => ?_⟩
        exact q _ _ (R2.new hn) ((t1.trans t2).trans (Tr.new hn)) ⟨p, _, rfl, upd_same, TA.mono (per_new hn) _ _ (rep _ _ t')⟩ (none_of_tr (t1.trans t2) hn) (R2.notIn hn)
      · cases h3
    | _ => cases h3

/-! ### slices, isinstance, built-in functions -/
def tOpt (K : G) (Φ : Nat → Fn) (o : Option IE) : L2.St → Hp → (Option Int → Hp → Prop) → Prop := fun σ H Q => ∃ env i env', Rep K env σ H ∧ evO Φ o env = some (i, env') ∧ ∀ H', Rep K env' σ H' → Tr env σ H env' σ H' → Q i H'
theorem po_mono {o : Option Expr} {t u : L2.St → Hp → (Option Int → Hp → Prop) → Prop} (h : PO X o t) (m : ∀ σ H Q, u σ H Q → t σ H Q) : PO X o u := ⟨fun pins s σ H Q I q => h.run pins s σ H Q I (m σ H Q q)⟩
theorem o_non : PO X none (tOpt X.g Φ none) := po_mono po_none fun σ H Q ⟨env, i, env', R, ev, q⟩ => by
  cases ev
  exact q _ R Tr.refl
theorem o_som {e : Expr} {ir : IE} (h : PE X e (tE X.g Φ ir)) : PO X (some e) (tOpt X.g Φ (some ir)) := po_mono (po_some h) fun σ H Q ⟨env, i, env', R, ev, q⟩ => by
  unfold evO at ev
  obtain ⟨⟨d, e1⟩, h1, ev⟩ := Option.bind_eq_some_iff.mp ev
  refine ⟨env, d, e1, R, h1, fun v H1 R1 t1 o1 => ?_⟩
  cases d with
  | int j =>
    cases ev
    unfold T at o1
    exact ⟨j, o1, q _ R1 t1⟩
  | _ => cases ev
theorem c_cut {a : Expr} {lo hi : Option Expr} {ia : IE} {il ih : Option IE} {p2 : Pos} (ha : PE X a (tO X.g Φ ia)) (hl : PO X lo (tOpt X.g Φ il)) (hh : PO X hi (tOpt X.g Φ ih)) : PE X (.Subscript a (.Slice lo hi none p2) pos) (tE X.g Φ (.cut ia il ih)) :=
  (pe_slice i_cut ha hl hh).mono fun σ H Q ⟨env, d, env', R, ev, q⟩ => by
    unfold evE at ev
    obtain ⟨⟨da, e1⟩, h1, ev⟩ := Option.bind_eq_some_iff.mp ev
    obtain ⟨⟨l, e2⟩, h2, ev⟩ := Option.bind_eq_some_iff.mp ev
    obtain ⟨⟨u, e3⟩, h3, ev⟩ := Option.bind_eq_some_iff.mp ev
    obtain ⟨x, h4, ev⟩ := Option.bind_eq_some_iff.mp ev
    obtain ⟨z, h5, ev⟩ := Option.map_eq_some_iff.mp ev
    cases ev
    exact ⟨env, da, e1, R, h1, fun v H1 R1 t1 o1 => ⟨e1, l, e2, R1, h2, fun H2 R2 t2 => ⟨e2, u, e3, R2, h3, fun H3 R3 t3 => ⟨x, _, ((o1.mono t2.per).mono t3.per).rd (Per.refl _) R3 h4, h5, fun z H' sm t => q z H' (R3.same sm) (((t1.trans t2).trans t3).trans (Tr.same sm)) t⟩⟩⟩⟩
def BltR' (X : Cx) (b : Blt) : List V → Hp → VK → Prop := fun xs H Q => ∃ ds d, VwA X.g H ds xs ∧ blt b ds = some d ∧ ∀ z H', Same H H' → T X.g H' d z → Q z H'
theorem BltR.call {f : Value} {b : Blt} (h : BltR X f b) : CallR X f (BltR' X b) := fun pins s σ H xs us Q I r ⟨ds, d, hv, e, q⟩ => thn (h pins s σ H xs us ds d I r hv e) fun w s' ⟨z, H', I', r', sm, t⟩ => ⟨z, H', I', r', q z H' sm t⟩
theorem blt_o {b : Blt} {is : List IE} {σ : L2.St} {H : Hp} {Q : VK} (h : tE X.g Φ (.blt b is) σ H Q) : tCB (BltR' X b) (tA X.g Φ is) σ H Q := by
  obtain ⟨env, d, env', R, ev, q⟩ := h
  unfold evE at ev
  obtain ⟨⟨ds, e1⟩, h1, ev⟩ := Option.bind_eq_some_iff.mp ev
  obtain ⟨xs, h2, ev⟩ := Option.bind_eq_some_iff.mp ev
  obtain ⟨z, h3, ev⟩ := Option.map_eq_some_iff.mp ev
  cases ev
  exact ⟨env, ds, e1, R, h1, fun vs H1 R1 t1 o1 => ⟨xs, _, o1.rd (Per.refl _) R1 h2, h3, fun z H' sm t => q z H' (R1.same sm) (t1.trans (Tr.same sm)) t⟩⟩
theorem c_blt (c : Ct N sc k B X) {x : Str} {p : Pos} {e : Expr} {es : List Expr} {id : String} {b : Blt} {is : List IE} (h : BltR X (.builtin id) b) (ha : PA X (e :: es) (tA X.g Φ is)) (hg : glB sc x = true := by rfl) (hm : x ∈ B := by decide) (hv : bootBuiltins x = some (.builtin id) := by first | rfl | decide +kernel) (hn : x ≠ "__name__" := by decide) (hdb : (x == ("__debug__" : Str)) = false := by decide)
    (he : starEach (e :: es) X.env = (false, eval e X.env) :: starEach es X.env := by rfl) (hpl : (backTo pos (starEach es X.env)).any (·.1) = false := by rfl) : PE X (.Call (.Name x p) (e :: es) [] pos) (tE X.g Φ (.blt b is)) :=
  (pe_callB h.call (c.gl x hg) (c.blt x hm) hv ha hn hdb he hpl).mono fun σ H Q q => blt_o q
theorem c_bty (c : Ct N sc k B X) {x : Str} {p : Pos} {e : Expr} {es : List Expr} {id : String} {b : Blt} {is : List IE} (h : BltR X (.type id) b) (ha : PA X (e :: es) (tA X.g Φ is)) (hg : glB sc x = true := by rfl) (hm : x ∈ B := by decide) (hv : bootBuiltins x = some (.type id) := by first | rfl | decide +kernel) (hn : x ≠ "__name__" := by decide) (hdb : (x == ("__debug__" : Str)) = false := by decide)
    (he : starEach (e :: es) X.env = (false, eval e X.env) :: starEach es X.env := by rfl) (hpl : (backTo pos (starEach es X.env)).any (·.1) = false := by rfl) : PE X (.Call (.Name x p) (e :: es) [] pos) (tE X.g Φ (.blt b is)) :=
  (pe_callTy h.call (c.gl x hg) (c.blt x hm) hv ha hn hdb he hpl).mono fun σ H Q q => blt_o q
/-- list(..), a new list -/
theorem f_list (c : Ct N sc k B X) {x : Str} {p : Pos} {e : Expr} {es : List Expr} {is : List IE} (ha : PA X (e :: es) (tA X.g Φ is)) (hg : glB sc x = true := by rfl) (hm : x ∈ B := by decide) (hv : bootBuiltins x = some (.type "list") := by first | rfl | decide +kernel) (hn : x ≠ "__name__" := by decide) (hdb : (x == ("__debug__" : Str)) = false := by decide)
    (he : starEach (e :: es) X.env = (false, eval e X.env) :: starEach es X.env := by rfl) (hpl : (backTo pos (starEach es X.env)).any (·.1) = false := by rfl) : PE X (.Call (.Name x p) (e :: es) [] pos) (tF X.g Φ (.blt .list is)) := by
  have hc : CallR X (.type "list") (fun xs H Q => ∃ ds d, VwA X.g H ds xs ∧ listD ds = some d ∧ ∀ l zs es, H l = none → d = .list es → TA X.g H es zs → Q (.ref l) (upd H l (.lst zs))) :=
    fun pins s σ H xs us Q I r ⟨ds, d, hv, e, q⟩ => thn (b_listF I r hv e) fun w s' ⟨z, H', I', r', l, zs, es, e1, hn, e2, e3, t⟩ => ⟨z, H', I', r', by subst e1 e2; exact q l zs es hn e3 t⟩
  refine (pe_callTy hc (c.gl x hg) (c.blt x hm) hv ha hn hdb he hpl).mono fun σ H Q h => ?_
  obtain ⟨env, d, env', R, ev, q⟩ := h
  change (evEs Φ is env).bind _ = _ at ev
  obtain ⟨⟨ds, e1⟩, h1, ev⟩ := Option.bind_eq_some_iff.mp ev
  obtain ⟨xs, h2, ev⟩ := Option.bind_eq_some_iff.mp ev
  obtain ⟨z, h3, ev⟩ := Option.map_eq_some_iff.mp ev
  cases ev
  refine ⟨env, ds, e1, R, h1, fun vs H1 R1 t1 o1 => ⟨xs, _, o1.rd (Per.refl _) R1 h2, h3, fun l zs es hn e2 t => ?_⟩⟩
  subst e2
  exact q l _ (R1.new hn) (t1.trans (Tr.new hn)) ⟨l, zs, rfl, upd_same, TA.mono (per_new hn) _ _ t⟩ (none_of_tr t1 hn) (R1.notIn hn)
end
end Dv
namespace Dv
open PySem PySem.Spec L2
section
variable {K : G} {env env' : En} {σ : L2.St} {H H' : Hp} {a : Addr} {d d' : D} {i : Nat} {f : Fl}
theorem setC_of {env env' : En} {i : Nat} {d : D} (h : setC env i d = some env') : ∃ f d0, sl env i = some (f, d0) ∧ (f = .own ∨ f = .par) ∧ env' = env.set i (some (f, d)) := by
  unfold setC at h
  split at h
  · rename_i d0 h0; cases h; exact ⟨_, _, h0, .inl rfl, rfl⟩
  · rename_i d0 h0; cases h; exact ⟨_, _, h0, .inr rfl, rfl⟩
  · cases h
theorem getO_of {env : En} {i : Nat} {d : D} (h : getO env i = some d) : ∃ f, sl env i = some (f, d) ∧ (f = .own ∨ f = .par) := by
  unfold getO at h
  split at h
  · rename_i d0 h0; cases h; exact ⟨_, h0, .inl rfl⟩
  · rename_i d0 h0; cases h; exact ⟨_, h0, .inr rfl⟩
  · cases h
theorem ownA_set {env : En} {σ : L2.St} {i : Nat} {d d0 : D} {f : Fl} (hs : sl env i = some (f, d0)) {b : Addr} : ownA (env.set i (some (f, d))) σ b ↔ ownA env σ b := by
  constructor
  · rintro ⟨j, g, e, h1, h2, h3⟩
    by_cases hj : i = j
    · subst hj
      rw [sl_set_eq (sl_lt hs)] at h1
      cases h1
      exact ⟨i, f, d0, hs, h2, h3⟩
    · rw [sl_set_ne hj] at h1
      exact ⟨j, g, e, h1, h2, h3⟩
  · rintro ⟨j, g, e, h1, h2, h3⟩
    by_cases hj : i = j
    · subst hj
      rw [hs] at h1
      cases h1
      exact ⟨i, f, d, sl_set_eq (sl_lt hs), h2, h3⟩
    · exact ⟨j, g, e, by rw [sl_set_ne hj]; exact h1, h2, h3⟩
/-- the object of a slot changes -/
theorem Rep.ch {o u : HO} (R : Rep K env σ H) (hs : sl env i = some (f, d)) (hf : f = .own ∨ f = .par) (es : σ[i]? = some (some (.ref a))) (hu : H a = some u) (nu : ¬ ImmO u) (e : H' = upd H a o) (m : Mt K H' d' (.ref a)) :
    Rep K (env.set i (some (f, d'))) σ H' ∧ Tr env σ H (env.set i (some (f, d'))) σ H' := by
  subst e
  have p := per_upd (o := o) hu nu
  have hf1 : f ≠ .imm := by rcases hf with rfl | rfl <;> decide
  have hf2 : f ≠ .ext := by rcases hf with rfl | rfl <;> decide
  refine ⟨⟨by rw [List.length_set]; exact R.len, fun j g e hj => ?_, fun j l g g' e e' b hne hj hg hl hg1 hg2 hes => ?_⟩, fun b o' hb nb => ?_, p, fun b o' hb => ?_, fun b hb => .inl ((ownA_set hs).mp hb), fun j e hj => ⟨?_, rfl⟩, fun j e hj => ?_, fun j e hj => ?_⟩
  · by_cases hij : i = j
    · subst hij
      rw [sl_set_eq (sl_lt hs)] at hj
      cases hj
      refine ⟨_, es, ?_⟩
      rcases hf with rfl | rfl <;> exact m
    · rw [sl_set_ne hij] at hj
      obtain ⟨w, ew, k⟩ := R.ok j g e hj
      refine ⟨w, ew, ?_⟩
      have kp : ∀ (m' : Mt K H e w), (g ≠ .imm) → (g ≠ .ext) → Mt K (upd H a o) e w := fun m' h1 h2 => by
        obtain ⟨b, ob, rfl, hb, _⟩ := m'.ref
        refine m'.keep p fun o' ho => ?_
        rw [upd_ne]
        · exact ho
        · rintro rfl
          exact R.apart i j f g d e b hij hs hf hj h1 h2 es ew
      cases g with
      | imm => exact T.mono p _ _ k
      | own => exact kp k (by decide) (by decide)
      | par => exact kp k (by decide) (by decide)
      | len => exact kp k (by decide) (by decide)
      | ext => exact Xt.mono p k
  · have key : ∀ {j g e}, sl (env.set i (some (f, d'))) j = some (g, e) → ∃ e0, sl env j = some (g, e0) := fun {j g e} h => by
      by_cases hij : i = j
      · subst hij
        rw [sl_set_eq (sl_lt hs)] at h
        cases h
        exact ⟨d, hs⟩
      · rw [sl_set_ne hij] at h
        exact ⟨e, h⟩
    obtain ⟨e0, hj⟩ := key hj
    obtain ⟨e1, hl⟩ := key hl
    exact R.apart j l g g' _ _ b hne hj hg hl hg1 hg2 hes
  · rw [upd_ne]
    · exact hb
    · rintro rfl
      exact nb ⟨i, f, d, hs, hf, es⟩
  · by_cases hba : b = a
    · subst hba; exact ⟨_, upd_same⟩
    · exact ⟨o', by rw [upd_ne hba]; exact hb⟩
  · rw [sl_set_ne]
    · exact hj
    · rintro rfl; rw [hs] at hj; cases hj; rcases hf with hf | hf <;> cases hf
  · by_cases hij : i = j
    · subst hij
      rw [hs] at hj
      cases hj
      exact ⟨d', sl_set_eq (sl_lt hs), rfl⟩
    · exact ⟨e, by rw [sl_set_ne hij]; exact hj, rfl⟩
  · by_cases hij : i = j
    · subst hij
      rw [sl_set_eq (sl_lt hs)] at hj
      cases hj
      rcases hf with hf | hf <;> cases hf
    · rw [sl_set_ne hij] at hj
      exact hj
theorem Rep.chAt (R : Rep K env σ H) (hs : sl env i = some (f, d)) (hf : f = .own ∨ f = .par) (es : σ[i]? = some (some (.ref a))) (c : ChAt K H a d' H') (hc : setC env i d' = some env') : Rep K env' σ H' ∧ Tr env σ H env' σ H' := by
  obtain ⟨o, e, m, fo⟩ := c
  obtain ⟨f', d0, h1, h2, h3⟩ := setC_of hc
  rw [hs] at h1
  cases h1
  obtain ⟨b, es', _, u, hu, fu⟩ := R.at hs (by rcases hf with rfl | rfl <;> decide) (by rcases hf with rfl | rfl <;> decide)
  rw [es] at es'; cases es'
  subst h3
  exact R.ch hs hf es hu fu.nimm e m
end
section
variable {N : List Str} {sc : Scope} {k : Nat} {B : List Str} {X : Cx} {Φ : Nat → Fn} {pos : Pos}
theorem sl_val {K : G} {env : En} {σ : L2.St} {H : Hp} (R : Rep K env σ H) {i : Nat} {p : Fl × D} (h : sl env i = some p) : ∃ v, σ[i]? = some (some v) := by
  obtain ⟨f, d⟩ := p
  obtain ⟨v, e, _⟩ := R.ok i f d h
  exact ⟨v, e⟩
theorem c_ow (c : Ct N sc k B X) (i : Nat) {x : Str} (hi : N[i]? = some x := by rfl) (hv : visB sc x = true := by rfl) (hd : (x == ("__debug__" : Str)) = false := by decide) (hcd : (x == ("__classdict__" : Str)) = false := by decide) :
    PE X (.Name x pos) (tO X.g Φ (.ow i)) :=
  (pe_var (by rw [c.hN]; exact hi) (c.vis x hv) hd hcd).mono fun σ H Q ⟨env, d, env', R, ev, q⟩ => by
    unfold evE at ev
    obtain ⟨y, h, e⟩ := Option.map_eq_some_iff.mp ev
    cases e
    obtain ⟨f, h1, _⟩ := getO_of h
    obtain ⟨v, e1⟩ := sl_val R h1
    exact ⟨v, e1, q v H R (Tr.refl) e1⟩
theorem c_le (c : Ct N sc k B X) (i : Nat) {x : Str} (hi : N[i]? = some x := by rfl) (hv : visB sc x = true := by rfl) (hd : (x == ("__debug__" : Str)) = false := by decide) (hcd : (x == ("__classdict__" : Str)) = false := by decide) :
    PE X (.Name x pos) (tO X.g Φ (.le i)) :=
  (pe_var (by rw [c.hN]; exact hi) (c.vis x hv) hd hcd).mono fun σ H Q ⟨env, d, env', R, ev, q⟩ => by
    unfold evE at ev
    obtain ⟨y, h, e⟩ := Option.map_eq_some_iff.mp ev
    cases e
    unfold getP at h
    cases h1 : sl env i with
    | none => rw [h1] at h; cases h
    | some p =>
      obtain ⟨v, e1⟩ := sl_val R h1
      exact ⟨v, e1, q v H R (Tr.refl) e1⟩
theorem getX_of {env : En} {i : Nat} {ds : List D} (h : getX env i = some ds) : sl env i = some (.ext, .list ds) := by
  unfold getX at h
  split at h
  · rename_i ds' h'
    cases h
    exact h'
  · cases h
theorem c_ex (c : Ct N sc k B X) (i : Nat) {x : Str} (hi : N[i]? = some x := by rfl) (hv : visB sc x = true := by rfl) (hd : (x == ("__debug__" : Str)) = false := by decide) (hcd : (x == ("__classdict__" : Str)) = false := by decide) :
    PE X (.Name x pos) (tO X.g Φ (.ex i)) :=
  (pe_var (by rw [c.hN]; exact hi) (c.vis x hv) hd hcd).mono fun σ H Q ⟨env, d, env', R, ev, q⟩ => by
    unfold evE at ev
    obtain ⟨y, h, e⟩ := Option.map_eq_some_iff.mp ev
    cases e
    obtain ⟨v, e1⟩ := sl_val R (getX_of h)
    exact ⟨v, e1, q v H R (Tr.refl) e1⟩
theorem Rep.ext {K : G} {env : En} {σ : L2.St} {H : Hp} (R : Rep K env σ H) {i : Nat} {ds : List D} (h : getX env i = some ds) {v : V} (e : σ[i]? = some (some v)) : ∃ a vs, v = .ref a ∧ SqL K.K H a vs ∧ TA K H ds vs := by
  obtain ⟨w, ew, q⟩ := R.ok i _ _ (getX_of h)
  rw [e] at ew; cases ew
  obtain ⟨ds', a, vs, e1, e2, s, t⟩ := q
  cases e1
  refine ⟨a, vs, e2, ?_, t⟩
  rcases s with ⟨o, s⟩ | s
  · exact .inl (.inr ⟨o, s⟩)
  · exact .inr s
theorem c_lenX (c : Ct N sc k B X) (i : Nat) {x : Str} {p px : Pos} {y : Str} (hi : N[i]? = some y := by rfl) (hv : visB sc y = true := by rfl) (hg : glB sc x = true := by rfl) (hm : x ∈ B := by decide) (hb : bootBuiltins x = some (.builtin "len") := by first | rfl | decide +kernel) (hn : x ≠ "__name__" := by decide) (hdb : (x == ("__debug__" : Str)) = false := by decide)
    (hd : (y == ("__debug__" : Str)) = false := by decide) (hcd : (y == ("__classdict__" : Str)) = false := by decide) : PE X (.Call (.Name x p) [.Name y px] [] pos) (tE X.g Φ (.lenX i)) := by
  refine (pe_callB call_len (c.gl x hg) (c.blt x hm) hb (pa_cons (pe_var (by rw [c.hN]; exact hi) (c.vis y hv) hd hcd) pa_nil) hn hdb).mono fun σ H Q ⟨env, d, env', R, ev, q⟩ => ?_
  unfold evE at ev
  obtain ⟨ds, h, e⟩ := Option.map_eq_some_iff.mp ev
  cases e
  obtain ⟨v, e1⟩ := sl_val R (getX_of h)
  obtain ⟨a, vs, rfl, s, t⟩ := R.ext h e1
  exact ⟨_, e1, _, vs.length, rfl, .inl ⟨vs, s, rfl⟩, q _ _ R Tr.refl (by rw [t.length]; exact T.int)⟩
theorem c_idxX (c : Ct N sc k B X) (i : Nat) {px : Pos} {y : Str} {b : Expr} {ib : IE} (hb : PE X b (tE X.g Φ ib)) (hi : N[i]? = some y := by rfl) (hv : visB sc y = true := by rfl) (hd : (y == ("__debug__" : Str)) = false := by decide) (hcd : (y == ("__classdict__" : Str)) = false := by decide) (hs : PlainIx b := by intro _ _; rfl) :
    PE X (.Subscript (.Name y px) b pos) (tE X.g Φ (.idxX i ib)) := by
  refine (pe_ix ix_list (pe_var (by rw [c.hN]; exact hi) (c.vis y hv) hd hcd) hb hs).mono fun σ H Q ⟨env, d, env', R, ev, q⟩ => ?_
  unfold evE at ev
  obtain ⟨ds0, h0, ev⟩ := Option.bind_eq_some_iff.mp ev
  obtain ⟨⟨db, e1⟩, h1, ev⟩ := Option.bind_eq_some_iff.mp ev
  obtain ⟨ds, h2, ev⟩ := Option.bind_eq_some_iff.mp ev
  obtain ⟨v, e2⟩ := sl_val R (getX_of h0)
  refine ⟨v, e2, env, db, e1, R, h1, fun u H1 R1 t1 o1 => ?_⟩
  obtain ⟨a, vs, rfl, s, t⟩ := R1.ext h2 e2
  cases db with
  | int j =>
    obtain ⟨z, h3, h4⟩ := Option.map_eq_some_iff.mp ev
    cases h4
    obtain ⟨n, h5, h6⟩ := Option.bind_eq_some_iff.mp h3
    obtain ⟨w, hw, tw⟩ := t.get h6
    unfold T at o1
    refine ⟨a, vs, j, w, rfl, o1, s, ?_, q _ _ R1 t1 tw⟩
    unfold atI
    rw [← t.length, h5]
    exact hw
  | _ => cases ev
/-! ### isinstance -/
def tyN : Ty → String
  | .tup => "tuple"
  | .list => "list"
  | .int => "int"
  | .bool => "bool"
  | .str => "str"
def dtN : D → String
  | .none => "NoneType"
  | .bool _ => "bool"
  | .int _ => "int"
  | .str _ => "str"
  | .list _ => "list"
  | .tuple _ => "tuple"
  | .dict _ => "dict"
theorem kit_all : ∀ t : Ty, kitB "NoneType" (tyN t) = some false ∧ kitB "bool" (tyN t) = some (isTy t (.bool true)) ∧ kitB "int" (tyN t) = some (isTy t (.int 0)) ∧ kitB "str" (tyN t) = some (isTy t (.str ⟨#[]⟩)) ∧ kitB "list" (tyN t) = some (isTy t (.list [])) ∧ kitB "tuple" (tyN t) = some (isTy t (.tuple []))
  | .tup => by decide +kernel
  | .list => by decide +kernel
  | .int => by decide +kernel
  | .bool => by decide +kernel
  | .str => by decide +kernel
theorem isTy_bool {t : Ty} {b : Bool} : isTy t (.bool b) = isTy t (.bool true) := by cases t <;> rfl
theorem isTy_int {t : Ty} {b : Int} : isTy t (.int b) = isTy t (.int 0) := by cases t <;> rfl
theorem isTy_str {t : Ty} {b : Str} : isTy t (.str b) = isTy t (.str ⟨#[]⟩) := by cases t <;> rfl
theorem isTy_list {t : Ty} {b : List D} : isTy t (.list b) = isTy t (.list []) := by cases t <;> rfl
theorem isTy_tup {t : Ty} {b : List D} : isTy t (.tuple b) = isTy t (.tuple []) := by cases t <;> rfl
theorem isi_v {K : G} {H : Hp} {t : Ty} {d : D} {x : V} (hx : T K H d x) (hd : ∀ kvs, d ≠ .dict kvs) : TyX K.K H x (.type (dtN d)) ∧ kitB (dtN d) (tyN t) = some (isTy t d) := by
  obtain ⟨h1, h2, h3, h4, h5, h6⟩ := kit_all t
  cases d with
  | none => unfold T at hx; subst hx; exact ⟨.base .non, by rw [show dtN .none = "NoneType" from rfl, h1]; cases t <;> rfl⟩
  | bool b => unfold T at hx; subst hx; exact ⟨.base (.bl b), by rw [isTy_bool]; exact h2⟩
  | int b => unfold T at hx; subst hx; exact ⟨.base (.int b), by rw [isTy_int]; exact h3⟩
  | str b => unfold T at hx; subst hx; exact ⟨.base (.str b), by rw [isTy_str]; exact h4⟩
  | list b =>
    unfold T at hx
    obtain ⟨a, vs, rfl, ⟨o, s⟩, _⟩ := hx
    exact ⟨.base (.frz s), by rw [isTy_list]; exact h5⟩
  | tuple b =>
    unfold T at hx
    obtain ⟨a, vs, rfl, s, _⟩ := hx
    refine ⟨?_, by rw [isTy_tup]; exact h6⟩
    rcases s with (s | ⟨o, s⟩) | ⟨o, its, n, s, hc, _⟩
    · exact .base (.tup s)
    · exact .fTuple s
    · exact .kTuple s hc
  | dict b => exact absurd rfl (hd b)
theorem c_isi (c : Ct N sc k B X) {x y : Str} {p px : Pos} {a : Expr} {ia : IE} {t : Ty} (ha : PE X a (tE X.g Φ ia)) (hg : glB sc x = true := by rfl) (hm : x ∈ B := by decide) (hg2 : glB sc y = true := by rfl) (hm2 : y ∈ B := by decide) (hb : bootBuiltins x = some (.builtin "isinstance") := by first | rfl | decide +kernel) (hn : x ≠ "__name__" := by decide) (hdb : (x == ("__debug__" : Str)) = false := by decide)
    (hb2 : bootBuiltins y = some (.type (tyN t)) := by first | rfl | decide +kernel) (hn2 : y ≠ "__name__" := by decide) (hdb2 : (y == ("__debug__" : Str)) = false := by decide) (he : starEach [a, .Name y px] X.env = (false, eval a X.env) :: starEach [.Name y px] X.env := by rfl) :
    PE X (.Call (.Name x p) [a, .Name y px] [] pos) (tE X.g Φ (.isi ia t)) := by
  refine (pe_callB call_isi (c.gl x hg) (c.blt x hm) hb (pa_cons ha (pa_cons (pe_bltn (v := .ty (tyN t)) (c.gl y hg2) (c.blt y hm2) hb2 rfl hn2 hdb2) pa_nil) he) hn hdb he).mono fun σ H Q ⟨env, d, env', R, ev, q⟩ => ?_
  unfold evE at ev
  obtain ⟨⟨da, e1⟩, h1, ev⟩ := Option.bind_eq_some_iff.mp ev
  refine ⟨env, da, e1, R, h1, fun v H1 R1 t1 o1 => ?_⟩
  have hd : (∀ kvs, da ≠ .dict kvs) ∧ d = .bool (isTy t da) ∧ env' = e1 := by
    cases da with
    | dict kvs => cases ev
    | _ => cases ev; exact ⟨fun _ => nofun, rfl, rfl⟩
  obtain ⟨hd, rfl, rfl⟩ := hd
  obtain ⟨ty, kb⟩ := isi_v (t := t) o1 hd
  exact ⟨v, _, _, _, _, rfl, .ty _, ty, kit_ty kb, q _ _ R1 t1 T.bool⟩

/-! ### methods -/
def tyOk : D → String → Bool
  | .str _, "str" => true
  | .list _, "list" => true
  | .dict _, "dict" => true
  | _, _ => false
theorem vw_ty {pins : List (Addr × Obj)} {σ : L2.St} {H : Hp} {s : Shared} {d : D} {x : V} {v : Value} {n : String} (I : Inv X pins σ H s) (r : RelV x v) (h : Vw X.g H d x) (t : tyOk d n = true) :
    s.TypeIs v n ∧ ∀ a, v = .ref a → ∃ ob, s.heap.get? a = some ob ∧ ob.dict = none := by
  unfold tyOk at t
  split at t
  · rw [h.str] at r
    obtain ⟨t, rfl⟩ := r
    exact ⟨typeIs_str s _ t, fun _ e => nomatch e⟩
  · obtain ⟨a, vs, rfl, ha, _⟩ := h.list
    cases r
    obtain ⟨z, its, m, rv, hl, e⟩ := Inv.lstR I ha
    exact ⟨⟨_, e, rfl⟩, fun a' e' => by cases e'; exact ⟨_, e, rfl⟩⟩
  · obtain ⟨a, rfl, h⟩ := h
    cases r
    have z : ∃ o, s.heap.get? a = some o ∧ o.ExactDict := by
      rcases h with ⟨kv, q, _⟩ | ⟨zs, q, _⟩
      · obtain ⟨_, _, _, _, o, _, _, e, ex, _⟩ := (show ObjOk X.prog X.w H s.heap a (.dK kv) from q.ok I.hok)
        exact ⟨o, e, ex⟩
      · obtain ⟨a1, a2, o, es, ep, ys, b1, b2, _⟩ := (show ObjOk X.prog X.w H s.heap a (NdO X.g a zs) from q.ok I.hok).1
        exact ⟨o, b1, b2⟩
    obtain ⟨o, e, ex⟩ := z
    exact ⟨⟨o, e, ex.1⟩, fun a' e' => by cases e'; exact ⟨o, e, ex.2.1⟩⟩
  · cases t
def metN : Met → String
  | .index => "list"
  | .get => "dict"
  | .join => "str"
  | .endswith => "str"
def muN : Mu → String
  | .setdefault => "dict"
  | _ => "list"
theorem metTy_ok {m : Met} {x : D} (h : metTy m x = true) : tyOk x (metN m) = true := by
  cases m <;> cases x <;> first | rfl | cases h
theorem muTy_ok {m : Mu} {x : D} (h : muTy m x = true) : tyOk x (muN m) = true := by
  cases m <;> cases x <;> first | rfl | cases h
theorem c_met {o e : Expr} {es : List Expr} {name : Str} {apos cpos : Pos} {id : String} {m : Met} {io : IE} {is : List IE} (h : MetR X id m) (pa : PlainAttrs (metN m)) (slot : Slot (metN m) name id) (hty : typeOf (.builtin id) = pure (.type "method_descriptor"))
    (ho : PE X o (tO X.g Φ io)) (ha : PA X (e :: es) (tA X.g Φ is)) (hl : allV is = true := by rfl)
    (hbase : attributeBase o name X.env (eval o X.env) = eval o X.env := by rfl)
    (hfew : ((backTo cpos (starEach (e :: es) X.env)).all (fun x => !x.1) && (backToKw cpos (keywordEach [] X.env)).all (fun x => x.1.isSome)
      && decide ((e :: es).length + ([] : List Keyword).length + (if ([] : List Keyword).isEmpty then 0 else 1) < 30)) = true := by rfl)
    (hline : (apos.endLine == cpos.line) = true := by rfl) (hs : starEach (e :: es) X.env = (false, eval e X.env) :: starEach es X.env := by rfl) (hplain : (backTo cpos (starEach es X.env)).any (·.1) = false := by rfl) :
    PE X (.Call (.Attribute o name apos) (e :: es) [] cpos) (tE X.g Φ (.met m io is)) := by
  refine ⟨fun pins s σ H Q I ⟨env, d, env', R, ev, q⟩ => ?_⟩
  unfold evE at ev
  obtain ⟨⟨da, e1⟩, h1, ev⟩ := Option.bind_eq_some_iff.mp ev
  obtain ⟨x0, h0, ev⟩ := Option.bind_eq_some_iff.mp ev
  split at ev
  · rename_i ht
    obtain ⟨⟨ds, e2⟩, h2, ev⟩ := Option.bind_eq_some_iff.mp ev
    obtain ⟨x, h3, ev⟩ := Option.bind_eq_some_iff.mp ev
    obtain ⟨z, h5, ev⟩ := Option.map_eq_some_iff.mp ev
    cases ev
    refine wpAny_Call_method_late hbase hfew hline rfl (thn (ho.run pins s σ H (fun v H1 => Rep X.g e1 σ H1 ∧ Tr env σ H e1 σ H1 ∧ Opd X.g io σ H1 da v) I ⟨env, da, e1, R, h1, fun v H1 R1 t1 o1 => ⟨R1, t1, o1⟩⟩) fun v s1 ⟨xv, H1, I1, r1, R1, t1, o1⟩ => ?_)
    obtain ⟨g1, g2⟩ := vw_ty I1 r1 (o1.rd (Per.refl _) R1 h0) (metTy_ok ht)
    refine ⟨_, id, pa, slot, hty, g1, g2, ?_⟩
    have hA := ha.run cpos pins s1 σ H1 (fun vs H2 => Rep X.g e2 σ H2 ∧ Tr e1 σ H1 e2 σ H2 ∧ OpdA X.g σ H2 is ds vs) I1 ⟨e1, ds, e2, R1, h2, fun vs H2 R2 t2 o2 => ⟨R2, t2, o2⟩⟩
    rw [hs] at hA ⊢
    refine Calls.callWith_builtin (by show (false || (backTo cpos (starEach es X.env)).any (·.1)) = false; rw [hplain] <;> rfl) (Calls.evalArgs_plain ?_)
    refine thn hA fun us s2 ⟨vs, H2, I2, r2, R2, t2, o2⟩ => ?_
    refine thn (h pins s2 σ H2 xv vs v us x ds _ I2 r1 r2 ((o1.mono t2.per).rd (Per.refl _) R2 h3) (TA.of_opdA (allV_mem hl) o2) h5) fun w s3 ⟨zv, H3, I3, r3, sm, tz⟩ => ?_
    exact ⟨zv, H3, I3, r3, q zv H3 (R2.same sm) ((t1.trans t2).trans (Tr.same sm)) tz⟩
  · cases ev
/-- a method that changes its receiver -/
theorem mu_run {o : Expr} {name : Str} {id : String} {m : Mu} {i : Nat} {is : List IE} (h : MuR X id m) {pins : List (Addr × Obj)} {s2 : Shared} {σ : L2.St} {H2 : Hp} {Q : VK} {e2 env' : En} {ds : List D} {x d d' : D} {xv : V} {v : Value} {vs : List V} {us : List Value}
    (I2 : Inv X pins σ H2 s2) (r1 : RelV xv v) (r2 : Vals vs us) (R2 : Rep X.g e2 σ H2) (ox : σ[i]? = some (some xv)) (t : TA X.g H2 ds vs) (h3 : getO e2 i = some x) (h4 : mutD m x ds = some (d, d')) (h5 : setC e2 i d' = some env')
    (q : ∀ z H', Rep X.g env' σ H' → Tr e2 σ H2 env' σ H' → T X.g H' d z → Q z H') : wpAny (model X.prog X.w) X.A (call (.builtin id) (v :: us)) (EP X pins σ Q) X.xe s2 := by
  obtain ⟨f, h6, hf⟩ := getO_of h3
  obtain ⟨a, es, mm, u, hu, fu⟩ := R2.at h6 (by rcases hf with rfl | rfl <;> decide) (by rcases hf with rfl | rfl <;> decide)
  rw [ox] at es; cases es
  cases r1
  refine thn (h pins s2 σ H2 a vs us x ds d d' I2 r2 mm t h4) fun w s3 ⟨zv, H3, I3, r3, ch, tz⟩ => ?_
  obtain ⟨R3, t3⟩ := R2.chAt h6 hf ox ch h5
  exact ⟨zv, H3, I3, r3, q zv H3 R3 t3 tz⟩
theorem c_mu {o e : Expr} {es : List Expr} {name : Str} {apos cpos : Pos} {id : String} {m : Mu} {i : Nat} {is : List IE} (h : MuR X id m) (pa : PlainAttrs (muN m)) (slot : Slot (muN m) name id) (hty : typeOf (.builtin id) = pure (.type "method_descriptor"))
    (ho : PE X o (tO X.g Φ (.ow i))) (ha : PA X (e :: es) (tA X.g Φ is)) (hl : allV is = true := by rfl)
    (hbase : attributeBase o name X.env (eval o X.env) = eval o X.env := by rfl)
    (hfew : ((backTo cpos (starEach (e :: es) X.env)).all (fun x => !x.1) && (backToKw cpos (keywordEach [] X.env)).all (fun x => x.1.isSome)
      && decide ((e :: es).length + ([] : List Keyword).length + (if ([] : List Keyword).isEmpty then 0 else 1) < 30)) = true := by rfl)
    (hline : (apos.endLine == cpos.line) = true := by rfl) (hs : starEach (e :: es) X.env = (false, eval e X.env) :: starEach es X.env := by rfl) (hplain : (backTo cpos (starEach es X.env)).any (·.1) = false := by rfl) :
    PE X (.Call (.Attribute o name apos) (e :: es) [] cpos) (tE X.g Φ (.mu m i is)) := by
  refine ⟨fun pins s σ H Q I ⟨env, d, env', R, ev, q⟩ => ?_⟩
  unfold evE at ev
  obtain ⟨x0, h0, ev⟩ := Option.bind_eq_some_iff.mp ev
  split at ev
  · rename_i ht
    obtain ⟨⟨ds, e2⟩, h2, ev⟩ := Option.bind_eq_some_iff.mp ev
    obtain ⟨x, h3, ev⟩ := Option.bind_eq_some_iff.mp ev
    obtain ⟨⟨d1, d2⟩, h4, ev⟩ := Option.bind_eq_some_iff.mp ev
    obtain ⟨e3, h5, ev⟩ := Option.map_eq_some_iff.mp ev
    cases ev
    obtain ⟨f0, h6, hf0⟩ := getO_of h0
    refine wpAny_Call_method_late hbase hfew hline rfl (thn (ho.run pins s σ H (fun v H1 => Rep X.g env σ H1 ∧ Tr env σ H env σ H1 ∧ σ[i]? = some (some v)) I ⟨env, .none, env, R, by unfold evE; rw [h0]; rfl, fun v H1 R1 t1 o1 => ⟨R1, t1, o1⟩⟩) fun v s1 ⟨xv, H1, I1, r1, R1, t1, o1⟩ => ?_)
    obtain ⟨w, ew, kw⟩ := R1.ok i _ _ h6
    rw [o1] at ew; cases ew
    obtain ⟨g1, g2⟩ := vw_ty I1 r1 (kw.vw (by rcases hf0 with rfl | rfl <;> decide)) (muTy_ok ht)
    refine ⟨_, id, pa, slot, hty, g1, g2, ?_⟩
    have hA := ha.run cpos pins s1 σ H1 (fun vs H2 => Rep X.g e2 σ H2 ∧ Tr env σ H1 e2 σ H2 ∧ OpdA X.g σ H2 is ds vs) I1 ⟨env, ds, e2, R1, h2, fun vs H2 R2 t2 o2 => ⟨R2, t2, o2⟩⟩
    rw [hs] at hA ⊢
    refine Calls.callWith_builtin (by show (false || (backTo cpos (starEach es X.env)).any (·.1)) = false; rw [hplain] <;> rfl) (Calls.evalArgs_plain ?_)
    refine thn hA fun us s2 ⟨vs, H2, I2, r2, R2, t2, o2⟩ => ?_
    exact mu_run (o := o) (name := name) (is := is) h I2 r1 r2 R2 o1 (TA.of_opdA (allV_mem hl) o2) h3 h4 h5 fun z H' R' t' tz => q z H' R' ((t1.trans t2).trans t') tz
  · cases ev
theorem c_mu0 {o : Expr} {name : Str} {apos cpos : Pos} {id : String} {m : Mu} {i : Nat} (h : MuR X id m) (pa : PlainAttrs (muN m)) (slot : Slot (muN m) name id) (hty : typeOf (.builtin id) = pure (.type "method_descriptor"))
    (ho : PE X o (tO X.g Φ (.ow i)))
    (hbase : attributeBase o name X.env (eval o X.env) = eval o X.env := by rfl)
    (hline : (apos.endLine == cpos.line) = true := by rfl) :
    PE X (.Call (.Attribute o name apos) [] [] cpos) (tE X.g Φ (.mu m i [])) := by
  refine ⟨fun pins s σ H Q I ⟨env, d, env', R, ev, q⟩ => ?_⟩
  unfold evE at ev
  obtain ⟨x0, h0, ev⟩ := Option.bind_eq_some_iff.mp ev
  split at ev
  · rename_i ht
    obtain ⟨⟨ds, e2⟩, h2, ev⟩ := Option.bind_eq_some_iff.mp ev
    obtain ⟨x, h3, ev⟩ := Option.bind_eq_some_iff.mp ev
    obtain ⟨⟨d1, d2⟩, h4, ev⟩ := Option.bind_eq_some_iff.mp ev
    obtain ⟨e3, h5, ev⟩ := Option.map_eq_some_iff.mp ev
    cases ev
    cases h2
    obtain ⟨f0, h6, hf0⟩ := getO_of h0
    refine wpAny_Call_method0_late hbase hline (thn (ho.run pins s σ H (fun v H1 => Rep X.g env σ H1 ∧ Tr env σ H env σ H1 ∧ σ[i]? = some (some v)) I ⟨env, .none, env, R, by unfold evE; rw [h0]; rfl, fun v H1 R1 t1 o1 => ⟨R1, t1, o1⟩⟩) fun v s1 ⟨xv, H1, I1, r1, R1, t1, o1⟩ => ?_)
    obtain ⟨w, ew, kw⟩ := R1.ok i _ _ h6
    rw [o1] at ew; cases ew
    obtain ⟨g1, g2⟩ := vw_ty I1 r1 (kw.vw (by rcases hf0 with rfl | rfl <;> decide)) (muTy_ok ht)
    refine ⟨_, id, pa, slot, hty, g1, g2, Calls.callWith_builtin rfl (PySem.evalArgs_none ?_)⟩
    exact mu_run (o := o) (name := name) (is := []) h I1 r1 .nil R1 o1 .nil h3 h4 h5 fun z H' R' t' tz => q z H' R' (t1.trans t') tz
  · cases ev
end
end Dv
namespace Dv
open PySem PySem.Spec L2

/-! ### what a def promises -/
structure ArgsOk (K : G) (H : Hp) (as : List (Fl × D)) (vs : List V) : Prop where
  len : as.length = vs.length
  ok : ∀ (i : Nat) f d, as[i]? = some (f, d) → ∃ v, vs[i]? = some v ∧ SlOk K H f d v
  np : ∀ (i : Nat) f d, as[i]? = some (f, d) → f ≠ .par
  apart : ∀ (i j : Nat) f g d e a, i ≠ j → as[i]? = some (f, d) → (f = .own ∨ f = .par) → as[j]? = some (g, e) → g ≠ .imm → g ≠ .ext → vs[i]? = some (.ref a) → vs[j]? ≠ some (.ref a)
def argA (as : List (Fl × D)) (vs : List V) (b : Addr) : Prop := ∃ (i : Nat) (d : D), as[i]? = some (.own, d) ∧ vs[i]? = some (.ref b)
def OutsOk (K : G) (H : Hp) : List (Fl × D) → List V → List D → Prop
  | [], [], [] => True
  | p :: as, v :: vs, ds => if p.1 = .own then (∃ d r, ds = d :: r ∧ Mt K H d v ∧ OutsOk K H as vs r) else OutsOk K H as vs ds
  | _, _, _ => False
def RsOk (K : G) (H H' : Hp) (r : Bool × D) (v : V) : Prop := if r.1 = true then (∃ a, v = .ref a ∧ Mt K H' r.2 (.ref a) ∧ H a = none) else T K H' r.2 v
def spF (K : G) (F : Fn) : Sp := fun vs H Q _ => ∃ as r outs, F as = some (r, outs) ∧ ArgsOk K H as vs ∧ ∀ v H', Per H H' → (∀ b o, H b = some o → ¬ argA as vs b → H' b = some o) → (∀ b o, H b = some o → ∃ o', H' b = some o') →
  OutsOk K H' as vs outs → RsOk K H H' r v → Q v H'

section
variable {K : G} {env env' : En} {σ : L2.St} {H H' : Hp}
theorem argsC_ok (R : Rep K env σ H) : ∀ {es : List IE} {ds : List D} {vs : List V} {as : List (Fl × D)}, OpdA K σ H es ds vs → argsC es ds env = some as →
    as.length = vs.length ∧ as.length = es.length ∧ ∀ (i : Nat) f d, as[i]? = some (f, d) → ∃ v e, vs[i]? = some v ∧ es[i]? = some e ∧ SlOk K H f d v ∧ (f ≠ .par) ∧ ((f ≠ .imm ∧ f ≠ .ext) → ∃ j g, (e = .ow j ∧ f = .own ∧ (g = .own ∨ g = .par) ∨ e = .le j ∧ f = .len ∧ g ≠ .imm ∧ g ≠ .ext) ∧ sl env j = some (g, d) ∧ σ[j]? = some (some v))
  | [], [], [], as, _, h => by
    cases h
    exact ⟨rfl, rfl, fun i f d h => by simp at h⟩
  | e :: es, x :: ds, v :: vs, as, o, h => by
    unfold argsC at h
    obtain ⟨r, h1, h2⟩ := Option.bind_eq_some_iff.mp h
    obtain ⟨l1, l2, ih⟩ := argsC_ok R o.2 h1
    have key : ∃ p : Fl × D, as = p :: r ∧ SlOk K H p.1 p.2 v ∧ p.1 ≠ .par ∧ ((p.1 ≠ .imm ∧ p.1 ≠ .ext) → ∃ j g, (e = .ow j ∧ p.1 = .own ∧ (g = .own ∨ g = .par) ∨ e = .le j ∧ p.1 = .len ∧ g ≠ .imm ∧ g ≠ .ext) ∧ sl env j = some (g, p.2) ∧ σ[j]? = some (some v)) := by
      have plain : late e = false → as = (Fl.imm, x) :: r → ∃ p : Fl × D, as = p :: r ∧ SlOk K H p.1 p.2 v ∧ p.1 ≠ .par ∧ ((p.1 ≠ .imm ∧ p.1 ≠ .ext) → ∃ j g, (e = .ow j ∧ p.1 = .own ∧ (g = .own ∨ g = .par) ∨ e = .le j ∧ p.1 = .len ∧ g ≠ .imm ∧ g ≠ .ext) ∧ sl env j = some (g, p.2) ∧ σ[j]? = some (some v)) := fun hl ha =>
        ⟨(.imm, x), ha, o.1.else hl, (by intro hh; cases hh), fun hh => absurd rfl hh.1⟩
      cases e with
      | ow j =>
        obtain ⟨d, h3, h4⟩ := Option.map_eq_some_iff.mp h2
        subst h4
        obtain ⟨f, h5, hf⟩ := getO_of h3
        obtain ⟨w, ew, k⟩ := R.ok j f d h5
        have ov : σ[j]? = some (some v) := o.1
        rw [ov] at ew; cases ew
        refine ⟨(.own, d), rfl, ?_, (by intro hh; cases hh), fun _ => ⟨j, f, .inl ⟨rfl, rfl, hf⟩, h5, ov⟩⟩
        rcases hf with rfl | rfl <;> exact k
      | le j =>
        have ov : σ[j]? = some (some v) := o.1
        dsimp only at h2
        cases hs : sl env j with
        | none => rw [hs] at h2; cases h2
        | some q =>
          obtain ⟨f, d⟩ := q
          rw [hs] at h2
          obtain ⟨w, ew, k⟩ := R.ok j f d hs
          rw [ov] at ew; cases ew
          cases f with
          | imm => cases h2; exact ⟨_, rfl, k, (by intro hh; cases hh), fun hh => absurd rfl hh.1⟩
          | ext => cases h2
          | own => cases h2; exact ⟨_, rfl, k, (by intro hh; cases hh), fun _ => ⟨j, _, .inr ⟨rfl, rfl, by decide, by decide⟩, hs, ov⟩⟩
          | par => cases h2; exact ⟨_, rfl, k, (by intro hh; cases hh), fun _ => ⟨j, _, .inr ⟨rfl, rfl, by decide, by decide⟩, hs, ov⟩⟩
          | len => cases h2; exact ⟨_, rfl, k, (by intro hh; cases hh), fun _ => ⟨j, _, .inr ⟨rfl, rfl, by decide, by decide⟩, hs, ov⟩⟩
      | ex j =>
        have ov : σ[j]? = some (some v) := o.1
        obtain ⟨ds', h3, h4⟩ := Option.map_eq_some_iff.mp h2
        subst h4
        obtain ⟨w, ew, k⟩ := R.ok j _ _ (getX_of h3)
        rw [ov] at ew; cases ew
        exact ⟨_, rfl, k, (by intro hh; cases hh), fun hh => absurd rfl hh.2⟩
      | pl j => cases h2
      | _ => cases h2; exact plain rfl rfl
    obtain ⟨p, rfl, k1, k2, k3⟩ := key
    refine ⟨by simp [l1], by simp [l2], fun i f d h => ?_⟩
    cases i with
    | zero =>
      simp at h
      subst h
      exact ⟨v, e, by simp, by simp, k1, k2, k3⟩
    | succ i =>
      simp at h
      obtain ⟨w, e', h1, h2, h3⟩ := ih i f d h
      exact ⟨w, e', by simpa using h1, by simpa using h2, h3⟩
  | [], _ :: _, _, _, _, h => by cases h
  | _ :: _, [], _, _, _, h => by cases h
  | [], [], _ :: _, _, o, _ => o.elim
  | _ :: _, _ :: _, [], _, o, _ => o.elim
theorem nth_inj {es : List IE} {l : List Nat} : True := trivial
/-- the slots that are given away stand apart -/
theorem ows_at : ∀ {es : List IE} {i j : Nat} {n : Nat}, (ows es).Nodup → es[i]? = some (.ow n) → es[j]? = some (.ow n) → i = j
  | [], i, j, n, _, h, _ => by simp at h
  | e :: es, i, j, n, nd, h1, h2 => by
    have mem : ∀ {k : Nat}, es[k]? = some (.ow n) → n ∈ ows es := fun {k} h => by
      clear h1 h2 nd
      induction es generalizing k with
      | nil => simp at h
      | cons e' es ih =>
        cases k with
        | zero => simp at h; subst h; simp [ows]
        | succ k =>
          have := ih (k := k) (by simpa using h)
          cases e' <;> simp [ows, this]
    cases i with
    | zero =>
      simp at h1
      subst h1
      cases j with
      | zero => rfl
      | succ j =>
        have := mem (k := j) (by simpa using h2)
        simp [ows] at nd
        exact absurd this nd.1
    | succ i =>
      cases j with
      | zero =>
        simp at h2
        subst h2
        have := mem (k := i) (by simpa using h1)
        simp [ows] at nd
        exact absurd this nd.1
      | succ j =>
        have nd' : (ows es).Nodup := by
          cases e <;> simp [ows] at nd <;> first | exact nd | exact nd.2
        exact congrArg (· + 1) (ows_at (n := n) nd' (by simpa using h1) (by simpa using h2))
theorem ow_mem : ∀ {es : List IE} {n : Nat}, n ∈ ows es ↔ ∃ i : Nat, es[i]? = some (.ow n)
  | [], n => by simp [ows]
  | e :: es, n => by
    constructor
    · intro h
      have : e = .ow n ∨ n ∈ ows es := by
        cases e <;> simp [ows] at h <;> first | exact .inr h | (rcases h with rfl | h; exact .inl rfl; exact .inr h)
      rcases this with rfl | h
      · exact ⟨0, by simp⟩
      · obtain ⟨i, hi⟩ := ow_mem.mp h
        exact ⟨i + 1, by simpa using hi⟩
    · rintro ⟨i, hi⟩
      cases i with
      | zero => simp at hi; subst hi; simp [ows]
      | succ i =>
        have := ow_mem.mpr ⟨i, (by simpa using hi : es[i]? = some (.ow n))⟩
        cases e <;> simp [ows, this]
theorem le_mem : ∀ {es : List IE} {n : Nat} {i : Nat}, es[i]? = some (.le n) → n ∈ les es
  | [], n, i, h => by simp at h
  | e :: es, n, i, h => by
    cases i with
    | zero => simp at h; subst h; simp [les]
    | succ i =>
      have := le_mem (es := es) (i := i) (by simpa using h)
      cases e <;> simp [les, this]
theorem args_ok (R : Rep K env σ H) {es : List IE} {ds : List D} {vs : List V} {as : List (Fl × D)} (o : OpdA K σ H es ds vs) (h : argsC es ds env = some as) (ap : apartOk es = true) : ArgsOk K H as vs := by
  obtain ⟨l1, l2, k⟩ := argsC_ok R o h
  unfold apartOk at ap
  rw [Bool.and_eq_true, decide_eq_true_eq, List.all_eq_true] at ap
  refine ⟨l1, fun i f d hi => ?_, fun i f d hi => ?_, fun i j f g d e a hij hi hf hj hg hx ha hb => ?_⟩
  · obtain ⟨v, e, h1, _, h3, _⟩ := k i f d hi
    exact ⟨v, h1, h3⟩
  · obtain ⟨v, e, _, _, _, h3, _⟩ := k i f d hi
    exact h3
  · obtain ⟨v, e1, q1, q2, q3, q4, q5⟩ := k i f d hi
    obtain ⟨w, e2, p1, p2, p3, p4, p5⟩ := k j g e hj
    rw [ha] at q1; cases q1
    rw [hb] at p1; cases p1
    have hfo : f = .own := by
      rcases hf with rfl | rfl
      · rfl
      · exact absurd rfl q4
    subst hfo
    obtain ⟨n, g1, c1, s1, t1⟩ := q5 ⟨by decide, by decide⟩
    obtain ⟨m, g2, c2, s2, t2⟩ := p5 ⟨hg, hx⟩
    rcases c1 with ⟨rfl, _, hg1⟩ | ⟨_, hh, _⟩
    · have hne : n ≠ m := by
        rintro rfl
        rcases c2 with ⟨rfl, _, _⟩ | ⟨rfl, _, _⟩
        · exact hij (ows_at ap.1 q2 p2)
        · have := of_decide_eq_true (ap.2 n (le_mem p2))
          exact this (ow_mem.mpr ⟨i, q2⟩)
      have hg2 : g2 ≠ .imm ∧ g2 ≠ .ext := by
        rcases c2 with ⟨_, _, h⟩ | ⟨_, _, h⟩
        · rcases h with rfl | rfl <;> exact ⟨by decide, by decide⟩
        · exact h
      exact R.apart n m g1 g2 d e a hne s1 hg1 s2 hg2.1 hg2.2 t1 t2
    · cases hh
/-- what stands in the slots behind a call -/
theorem back_ok (R : Rep K env σ H) : ∀ {es : List IE} {ds : List D} {vs : List V} {as : List (Fl × D)} {outs : List D} {e1 e2 : En}, OpdA K σ H es ds vs → argsC es ds env = some as → OutsOk K H' as vs outs → backC es outs e1 = some e2 →
    e2.length = e1.length ∧ (∀ j f d', sl e2 j = some (f, d') → (j ∉ ows es ∧ sl e1 j = some (f, d')) ∨ (j ∈ ows es ∧ (f = .own ∨ f = .par) ∧ (∃ d, sl e1 j = some (f, d)) ∧ ∃ v, σ[j]? = some (some v) ∧ Mt K H' d' v)) ∧
    (∀ j f d, sl e1 j = some (f, d) → ∃ d', sl e2 j = some (f, d') ∧ (j ∉ ows es → d' = d))
  | [], [], [], as, outs, e1, e2, o, h, hou, hb => by
    cases h
    cases outs with
    | nil =>
      cases hb
      exact ⟨rfl, fun j f d' h => .inl ⟨by simp [ows], h⟩, fun j f d h => ⟨d, h, fun _ => rfl⟩⟩
    | cons => exact hou.elim
  | e :: es, x :: ds, v :: vs, as, outs, e1, e2, o, h, hou, hb => by
    unfold argsC at h
    obtain ⟨r, h1, h2⟩ := Option.bind_eq_some_iff.mp h
    have plain : (∀ n, e ≠ .ow n) → ∀ p : Fl × D, p.1 ≠ .own → as = p :: r → e2.length = e1.length ∧ (∀ j f d', sl e2 j = some (f, d') → (j ∉ ows (e :: es) ∧ sl e1 j = some (f, d')) ∨ (j ∈ ows (e :: es) ∧ (f = .own ∨ f = .par) ∧ (∃ d, sl e1 j = some (f, d)) ∧ ∃ v, σ[j]? = some (some v) ∧ Mt K H' d' v)) ∧
        (∀ j f d, sl e1 j = some (f, d) → ∃ d', sl e2 j = some (f, d') ∧ (j ∉ ows (e :: es) → d' = d)) := fun hn p hp ha => by
      subst ha
      unfold OutsOk at hou
      rw [if_neg hp] at hou
      have e3 : ows (e :: es) = ows es := by cases e <;> first | rfl | exact absurd rfl (hn _)
      have e4 : backC (e :: es) outs e1 = backC es outs e1 := by cases e <;> first | rfl | exact absurd rfl (hn _)
      rw [e4] at hb
      rw [e3]
      exact back_ok R o.2 h1 hou hb
    cases e with
    | ow n =>
      obtain ⟨d, h3, h4⟩ := Option.map_eq_some_iff.mp h2
      subst h4
      unfold OutsOk at hou
      rw [if_pos rfl] at hou
      obtain ⟨d', r', e5, m, hou⟩ := hou
      subst e5
      unfold backC at hb
      obtain ⟨e3, h5, hb⟩ := Option.bind_eq_some_iff.mp hb
      obtain ⟨f0, d0, h6, hf0, rfl⟩ := setC_of h5
      obtain ⟨b1, b2, b3⟩ := back_ok R o.2 h1 hou hb
      have ov : σ[n]? = some (some v) := o.1
      refine ⟨by rw [b1, List.length_set], fun j f dj hj => ?_, fun j f dj hj => ?_⟩
      · rcases b2 j f dj hj with ⟨c1, c2⟩ | ⟨c1, c2, ⟨c3, c4⟩, c5⟩
        · by_cases hnj : n = j
          · subst hnj
            rw [sl_set_eq (sl_lt h6)] at c2
            cases c2
            exact .inr ⟨by simp [ows], hf0, ⟨d0, h6⟩, v, ov, m⟩
          · rw [sl_set_ne hnj] at c2
            exact .inl ⟨by simp [ows, c1, Ne.symm hnj], c2⟩
        · refine .inr ⟨by simp [ows, c1], c2, ?_, c5⟩
          by_cases hnj : n = j
          · subst hnj
            rw [sl_set_eq (sl_lt h6)] at c4
            cases c4
            exact ⟨d0, h6⟩
          · rw [sl_set_ne hnj] at c4
            exact ⟨c3, c4⟩
      · by_cases hnj : n = j
        · subst hnj
          rw [h6] at hj; cases hj
          obtain ⟨d2, h7, _⟩ := b3 n _ d' (sl_set_eq (sl_lt h6))
          exact ⟨d2, h7, fun hh => absurd (by simp [ows]) hh⟩
        · obtain ⟨d2, h7, h8⟩ := b3 j f dj (by rw [sl_set_ne hnj]; exact hj)
          exact ⟨d2, h7, fun hh => h8 fun hm => hh (by simp [ows, hm])⟩
    | le n =>
      dsimp only at h2
      cases hs : sl env n with
      | none => rw [hs] at h2; cases h2
      | some q =>
        obtain ⟨f, d⟩ := q
        rw [hs] at h2
        cases f <;> first | (cases h2; done) | (cases h2; exact plain (fun _ => nofun) _ (by intro hh; cases hh) rfl)
    | ex n =>
      obtain ⟨ds', h3, h4⟩ := Option.map_eq_some_iff.mp h2
      subst h4
      exact plain (fun _ => nofun) _ (by intro hh; cases hh) rfl
    | pl n => cases h2
    | _ => cases h2; exact plain (fun _ => nofun) _ (by intro hh; cases hh) rfl
  | [], _ :: _, _, _, _, _, _, _, h, _, _ => by cases h
  | _ :: _, [], _, _, _, _, _, _, h, _, _ => by cases h
  | [], [], _ :: _, _, _, _, _, o, _, _, _ => o.elim
  | _ :: _, _ :: _, [], _, _, _, _, o, _, _, _ => o.elim
/-- behind a call -/
theorem rep_call (R : Rep K env σ H) {es : List IE} {ds : List D} {vs : List V} {as : List (Fl × D)} {outs : List D} (o : OpdA K σ H es ds vs) (h : argsC es ds env = some as) (hb : backC es outs env = some env')
    (p : Per H H') (fr : ∀ b o, H b = some o → ¬ argA as vs b → H' b = some o) (dm : ∀ b o, H b = some o → ∃ o', H' b = some o') (ou : OutsOk K H' as vs outs) : Rep K env' σ H' ∧ Tr env σ H env' σ H' := by
  obtain ⟨l1, l2, k⟩ := argsC_ok R o h
  obtain ⟨b1, b2, b3⟩ := back_ok R o h ou hb
  have argO : ∀ b, argA as vs b → ∃ n g d, n ∈ ows es ∧ sl env n = some (g, d) ∧ (g = .own ∨ g = .par) ∧ σ[n]? = some (some (.ref b)) := fun b ⟨i, d, h1, h2⟩ => by
    obtain ⟨v, e, q1, q2, q3, q4, q5⟩ := k i .own d h1
    rw [h2] at q1; cases q1
    obtain ⟨n, g, c, s, t⟩ := q5 ⟨by decide, by decide⟩
    rcases c with ⟨rfl, _, hg⟩ | ⟨_, hh, _⟩
    · exact ⟨n, g, d, ow_mem.mpr ⟨i, q2⟩, s, hg, t⟩
    · cases hh
  have own : ∀ b, ownA env' σ b → ownA env σ b := fun b ⟨j, f, d, h1, h2, h3⟩ => by
    rcases b2 j f d h1 with ⟨_, c2⟩ | ⟨_, _, ⟨d0, c4⟩, _⟩
    · exact ⟨j, f, d, c2, h2, h3⟩
    · exact ⟨j, f, d0, c4, h2, h3⟩
  refine ⟨⟨by rw [b1]; exact R.len, fun j f d hj => ?_, fun i j f g d e a hij hi hf hj hg hx ha => ?_⟩, fun b o' hb nb => ?_, p, dm, fun b hb => .inl (own b hb), fun j d hj => ?_, fun j d hj => ?_, fun j d hj => ?_⟩
  · rcases b2 j f d hj with ⟨c1, c2⟩ | ⟨c1, c2, c3, v, c5, c6⟩
    · obtain ⟨w, ew, kw⟩ := R.ok j f d c2
      refine ⟨w, ew, ?_⟩
      have kp : ∀ (m' : Mt K H d w), (f ≠ .imm) → (f ≠ .ext) → Mt K H' d w := fun m' h1 h2 => by
        obtain ⟨b, ob, rfl, hb, _⟩ := m'.ref
        refine m'.keep p fun o' ho => fr b o' ho fun har => ?_
        obtain ⟨n, g, dn, hn, s, hg, t⟩ := argO b har
        have hnj : n ≠ j := by
          rintro rfl; exact c1 hn
        exact R.apart n j g f dn d b hnj s hg c2 h1 h2 t ew
      cases f with
      | imm => exact T.mono p _ _ kw
      | own => exact kp kw (by decide) (by decide)
      | par => exact kp kw (by decide) (by decide)
      | len => exact kp kw (by decide) (by decide)
      | ext => exact Xt.mono p kw
    · refine ⟨v, c5, ?_⟩
      rcases c2 with rfl | rfl <;> exact c6
  · have key : ∀ {j f d}, sl env' j = some (f, d) → ∃ d0, sl env j = some (f, d0) := fun {j f d} h => by
      rcases b2 j f d h with ⟨_, c2⟩ | ⟨_, _, c4, _⟩
      · exact ⟨d, c2⟩
      · exact c4
    obtain ⟨d0, hi⟩ := key hi
    obtain ⟨e0, hj⟩ := key hj
    exact R.apart i j f g _ _ a hij hi hf hj hg hx ha
  · refine fr b o' hb fun har => nb ?_
    obtain ⟨n, g, dn, hn, s, hg, t⟩ := argO b har
    exact ⟨n, g, dn, s, hg, t⟩
  · obtain ⟨d', h1, h2⟩ := b3 j .len d hj
    have : j ∉ ows es := by
      rcases b2 j .len d' h1 with ⟨c1, _⟩ | ⟨_, c2, _⟩
      · exact c1
      · rcases c2 with c2 | c2 <;> cases c2
    rw [h2 this] at h1
    exact ⟨h1, rfl⟩
  · obtain ⟨d', h1, _⟩ := b3 j .par d hj
    exact ⟨d', h1, rfl⟩
  · rcases b2 j .len d hj with ⟨_, c2⟩ | ⟨_, c2, _⟩
    · exact c2
    · rcases c2 with c2 | c2 <;> cases c2
end
end Dv
namespace Dv
open PySem PySem.Spec L2

/-! ### calls -/
section
variable {N : List Str} {sc : Scope} {k : Nat} {B : List Str} {X : Cx} {Φ : Nat → Fn} {pos : Pos}
def tR (K : G) (Φ : Nat → Fn) (f : Nat) (is : List IE) : TE := fun σ H Q => ∃ env p as r env', Rep K env σ H ∧ evEs Φ is env = some p ∧ argsC is p.1 p.2 = some as ∧ Φ f as = some r ∧ backC is r.2 p.2 = some env' ∧
  ∀ v H', Rep K env' σ H' → Tr env σ H env' σ H' → (if r.1.1 = true then (∃ a, v = .ref a ∧ Mt K H' r.1.2 (.ref a) ∧ H a = none ∧ NotIn env' σ a) else T K H' r.1.2 v) → Q v H'
theorem r_call (c : Ct N sc k B X) {x : Str} {p : Pos} {e : Expr} {es : List Expr} {f j : Nat} {is : List IE} (hc : C8.Cal X.prog X.w X.K X.mg X.base j x (spF X.g (Φ f)) []) (ha : PA X (e :: es) (tA X.g Φ is)) (hj : j ≤ k := by decide) (ap : apartOk is = true := by decide) (hg : glB sc x = true := by rfl)
    (hdb : (x == ("__debug__" : Str)) = false := by decide) (he : starEach (e :: es) X.env = (false, eval e X.env) :: starEach es X.env := by rfl) (hpl : (backTo pos (starEach es X.env)).any (·.1) = false := by rfl) :
    PE X (.Call (.Name x p) (e :: es) [] pos) (tR X.g Φ f is) :=
  (C8.pe_c hc c.room hj (c.gl x hg) ha hdb he hpl).mono fun σ H Q ⟨env, p, as, r, env', R, h1, h2, h3, h4, q⟩ => by
    obtain ⟨ds, e1⟩ := p
    refine ⟨env, ds, e1, R, h1, fun vs H1 R1 t1 o1 => ?_⟩
    show spF X.g (Φ f) (vs ++ []) H1 Q C8.E0
    rw [List.append_nil]
    refine ⟨as, r.1, r.2, h3, args_ok R1 o1 h2 ap, fun v H' p fr dm ou rs => ?_⟩
    obtain ⟨R2, t2⟩ := rep_call R1 o1 h2 h4 p fr dm ou
    refine q v H' R2 (t1.trans t2) ?_
    unfold RsOk at rs
    by_cases hr : r.1.1 = true
    · rw [if_pos hr] at rs ⊢
      obtain ⟨a, e2, m, n⟩ := rs
      refine ⟨a, e2, m, none_of_tr t1 n, fun j g e h1 hg hx es => ?_⟩
      -- a slot that may be changed held its object ahead of the call
      obtain ⟨b2, b3⟩ := (back_ok R1 o1 h2 ou h4).2
      have : ∃ d0, sl e1 j = some (g, d0) := by
        rcases b2 j g e h1 with ⟨_, c2⟩ | ⟨_, _, c4, _⟩
        · exact ⟨e, c2⟩
        · exact c4
      obtain ⟨d0, hj⟩ := this
      exact R1.notIn n j g d0 hj hg hx es
    · rw [if_neg hr] at rs ⊢
      exact rs
theorem f_call {e : Expr} {f : Nat} {is : List IE} (h : PE X e (tR X.g Φ f is)) : PE X e (tF X.g Φ (.call f is)) :=
  h.mono fun σ H Q ⟨env, d, env', R, ev, q⟩ => by
    unfold evF at ev
    obtain ⟨p, h1, ev⟩ := Option.bind_eq_some_iff.mp ev
    obtain ⟨as, h2, ev⟩ := Option.bind_eq_some_iff.mp ev
    obtain ⟨r, h3, ev⟩ := Option.bind_eq_some_iff.mp ev
    split at ev
    · rename_i hr
      obtain ⟨e1, h4, ev⟩ := Option.map_eq_some_iff.mp ev
      cases ev
      refine ⟨env, p, as, r, env', R, h1, h2, h3, h4, fun v H' R' t' rs => ?_⟩
      rw [if_pos hr] at rs
      obtain ⟨a, rfl, m, n, ni⟩ := rs
      exact q a H' R' t' m n ni
    · cases ev
theorem c_call {e : Expr} {f : Nat} {is : List IE} (h : PE X e (tR X.g Φ f is)) : PE X e (tE X.g Φ (.call f is)) := by
  refine ⟨fun pins s σ H Q I ⟨env, d, env', R, ev, q⟩ => ?_⟩
  unfold evE at ev
  obtain ⟨p, h1, ev⟩ := Option.bind_eq_some_iff.mp ev
  obtain ⟨as, h2, ev⟩ := Option.bind_eq_some_iff.mp ev
  obtain ⟨r, h3, ev⟩ := Option.bind_eq_some_iff.mp ev
  obtain ⟨e1, h4, ev⟩ := Option.map_eq_some_iff.mp ev
  cases ev
  by_cases hr : r.1.1 = true
  · exact thn (h.run pins s σ H _ I ⟨env, p, as, r, env', R, h1, h2, h3, h4, fun v H' R' t' rs => by
      rw [if_pos hr] at rs
      obtain ⟨a, e2, m, n, ni⟩ := rs
      exact ⟨a, e2, R', t', m, n, ni⟩⟩) fun u s' z => frz_end z q
  · exact h.run pins s σ H Q I ⟨env, p, as, r, env', R, h1, h2, h3, h4, fun v H' R' t' rs => q v H' R' t' (by rw [if_neg hr] at rs; exact rs)⟩
end
/-! ### statements -/
/-- what comes back -/
def RtOk (K : G) (H : Hp) (e : En) (σ' : L2.St) (H' : Hp) (r : Bool × D) (v : V) : Prop := if r.1 = true then (∃ a, v = .ref a ∧ Mt K H' r.2 (.ref a) ∧ (H a = none ∨ ∃ i d, sl e i = some (.own, d) ∧ σ'[i]? = some (some (.ref a)))) else T K H' r.2 v
def OutOk (K : G) (env : En) (σ : L2.St) (H : Hp) (E : Ends) : Out → Prop
  | .nx e => ∀ σ' H', Rep K e σ' H' → Tr env σ H e σ' H' → E.nx σ' H'
  | .bk e => ∀ σ' H', Rep K e σ' H' → Tr env σ H e σ' H' → E.bk σ' H'
  | .ct e => ∀ σ' H', Rep K e σ' H' → Tr env σ H e σ' H' → E.ct σ' H'
  | .rt r e => ∀ v σ' H', Rep K e σ' H' → Tr env σ H e σ' H' → RtOk K H e σ' H' r v → E.rt v H'
def tS (K : G) (Φ : Nat → Fn) (ir : IS) : TS := fun E σ H => ∃ env o, Rep K env σ H ∧ evS Φ ir env = some o ∧ OutOk K env σ H E o
def tSs (K : G) (Φ : Nat → Fn) (ir : List IS) : TS := fun E σ H => ∃ env o, Rep K env σ H ∧ evSs Φ ir env = some o ∧ OutOk K env σ H E o
section
variable {K : G} {env env1 : En} {σ σ1 : L2.St} {H H1 : Hp}
theorem RtOk.back {e : En} {σ' : L2.St} {H' : Hp} {r : Bool × D} {v : V} (t : Tr env σ H env1 σ1 H1) (h : RtOk K H1 e σ' H' r v) : RtOk K H e σ' H' r v := by
  unfold RtOk at h ⊢
  by_cases hr : r.1 = true
  · rw [if_pos hr] at h ⊢
    obtain ⟨a, e1, m, n⟩ := h
    exact ⟨a, e1, m, n.imp (none_of_tr t) id⟩
  · rw [if_neg hr] at h ⊢; exact h
theorem OutOk.back {E : Ends} {o : Out} (t : Tr env σ H env1 σ1 H1) (h : OutOk K env σ H E o) : OutOk K env1 σ1 H1 E o := by
  cases o with
  | nx e => exact fun σ' H' R' t' => h σ' H' R' (t.trans t')
  | bk e => exact fun σ' H' R' t' => h σ' H' R' (t.trans t')
  | ct e => exact fun σ' H' R' t' => h σ' H' R' (t.trans t')
  | rt r e => exact fun v σ' H' R' t' rs => h v σ' H' R' (t.trans t') (rs.back t)
end
section
variable {N : List Str} {sc : Scope} {k : Nat} {B : List Str} {X : Cx} {Φ : Nat → Fn} {pos : Pos}
theorem s_nil : PSs X [] (tSs X.g Φ []) := pss_nil.mono fun E σ H ⟨env, o, R, ev, q⟩ => by
  unfold evSs at ev
  cases ev
  exact q σ H R Tr.refl
theorem s_cons {st : Stmt} {rest : List Stmt} {a : IS} {b : List IS} (h1 : PS X st (tS X.g Φ a)) (h2 : PSs X rest (tSs X.g Φ b)) : PSs X (st :: rest) (tSs X.g Φ (a :: b)) :=
  (pss_cons h1 h2).mono fun E σ H ⟨env, o, R, ev, q⟩ => by
    unfold evSs at ev
    obtain ⟨o1, h1, ev⟩ := Option.bind_eq_some_iff.mp ev
    refine ⟨env, o1, R, h1, ?_⟩
    cases o1 with
    | nx e => exact fun σ' H' R' t' => ⟨e, o, R', ev, q.back t'⟩
    | bk e => cases ev; exact q
    | ct e => cases ev; exact q
    | rt r e => cases ev; exact q
theorem s_pass : PS X (.Pass pos) (tS X.g Φ .pass) := ps_pass.mono fun E σ H ⟨env, o, R, ev, q⟩ => by
  unfold evS at ev
  cases ev
  exact q σ H R Tr.refl
theorem s_brk : PS X (.Break pos) (tS X.g Φ .brk) := ps_break.mono fun E σ H ⟨env, o, R, ev, q⟩ => by
  unfold evS at ev
  cases ev
  exact q σ H R Tr.refl
theorem s_cnt : PS X (.Continue pos) (tS X.g Φ .cnt) := ps_continue.mono fun E σ H ⟨env, o, R, ev, q⟩ => by
  unfold evS at ev
  cases ev
  exact q σ H R Tr.refl
theorem s_doc {x : Str} {j p2} : PS X (.Expr (.Constant (.str x) j pos) p2) (tS X.g Φ .pass) := ps_doc.mono fun E σ H ⟨env, o, R, ev, q⟩ => by
  unfold evS at ev
  cases ev
  exact q σ H R Tr.refl
theorem s_expr {e : Expr} {ir : IE} (h : PE X e (tE X.g Φ ir)) (hs : swapsWith e none pos.line X.env = pure false := by rfl) : PS X (.Expr e pos) (tS X.g Φ (.expr ir)) :=
  (ps_expr h hs).mono fun E σ H ⟨env, o, R, ev, q⟩ => by
    unfold evS at ev
    obtain ⟨⟨d, e1⟩, h1, ev⟩ := Option.map_eq_some_iff.mp ev
    cases ev
    exact ⟨env, d, e1, R, h1, fun v H' R' t' _ => q σ H' R' t'⟩
theorem s_ret {e : Expr} {ir : IE} (h : PE X e (tE X.g Φ ir)) : PS X (.Return (some e) pos) (tS X.g Φ (.ret ir)) :=
  (ps_ret h).mono fun E σ H ⟨env, o, R, ev, q⟩ => by
    unfold evS at ev
    obtain ⟨⟨d, e1⟩, h1, ev⟩ := Option.map_eq_some_iff.mp ev
    cases ev
    exact ⟨env, d, e1, R, h1, fun v H' R' t' t => q v σ H' R' t' (by unfold RtOk; rw [if_neg (by intro hh; cases hh)]; exact t)⟩
theorem s_retF {e : Expr} {ir : IE} (h : PE X e (tF X.g Φ ir)) : PS X (.Return (some e) pos) (tS X.g Φ (.retF ir)) :=
  (ps_ret h).mono fun E σ H ⟨env, o, R, ev, q⟩ => by
    unfold evS at ev
    obtain ⟨⟨d, e1⟩, h1, ev⟩ := Option.map_eq_some_iff.mp ev
    cases ev
    exact ⟨env, d, e1, R, h1, fun a H' R' t' m n _ => q (.ref a) σ H' R' t' (by unfold RtOk; rw [if_pos rfl]; exact ⟨a, rfl, m, .inl n⟩)⟩
theorem s_retN : PS X (.Return none pos) (tS X.g Φ .retN) := ps_retN.mono fun E σ H ⟨env, o, R, ev, q⟩ => by
  unfold evS at ev
  cases ev
  exact q .non σ H R Tr.refl (by unfold RtOk; rw [if_neg (by intro hh; cases hh)]; exact T.non)
theorem s_retO (c : Ct N sc k B X) (i : Nat) {x : Str} {px : Pos} (hi : N[i]? = some x := by rfl) (hv : visB sc x = true := by rfl) (hd : (x == ("__debug__" : Str)) = false := by decide) (hcd : (x == ("__classdict__" : Str)) = false := by decide) : PS X (.Return (some (.Name x px)) pos) (tS X.g Φ (.retO i)) :=
  (ps_ret (pe_var (by rw [c.hN]; exact hi) (c.vis x hv) hd hcd)).mono fun E σ H ⟨env, o, R, ev, q⟩ => by
    unfold evS at ev
    split at ev
    · rename_i d hs
      cases ev
      obtain ⟨a, e1, m, _⟩ := R.at hs (by decide) (by decide)
      exact ⟨.ref a, e1, q _ σ H R Tr.refl (by unfold RtOk; rw [if_pos rfl]; exact ⟨a, rfl, m, .inr ⟨i, d, hs, e1⟩⟩)⟩
    · cases ev
theorem s_if {c : Expr} {a b : List Stmt} {ic : IE} {ia ib : List IS} (hc : PT X c (tT X.g Φ ic)) (ha : PSs X a (tSs X.g Φ ia)) (hb : PSs X b (tSs X.g Φ ib)) : PS X (.If c a b pos) (tS X.g Φ (.ifs ic ia ib)) :=
  (ps_if hc ha hb).mono fun E σ H ⟨env, o, R, ev, q⟩ => by
    unfold evS testE at ev
    obtain ⟨⟨b, e1⟩, h1, ev⟩ := Option.bind_eq_some_iff.mp ev
    obtain ⟨⟨d, e2⟩, h2, h3⟩ := Option.bind_eq_some_iff.mp h1
    have hd : d = .bool b ∧ e2 = e1 := by
      cases d with
      | bool b' => cases h3; exact ⟨rfl, rfl⟩
      | _ => cases h3
    obtain ⟨rfl, rfl⟩ := hd
    refine ⟨env, b, e2, R, h2, fun H1 R1 t1 => ?_⟩
    cases b with
    | true => rw [if_pos rfl] at ev ⊢; exact ⟨e2, o, R1, ev, q.back t1⟩
    | false => rw [if_neg (by intro hh; cases hh)] at ev ⊢; exact ⟨e2, o, R1, ev, q.back t1⟩
/-! ### stores -/
theorem setV_of {env env' : En} {i : Nat} {f : Fl} {d : D} (h : setV env i f d = some env') : i < env.length ∧ env' = env.set i (some (f, d)) ∧ (∀ e, sl env i ≠ some (.len, e)) ∧ (∀ e, sl env i ≠ some (.par, e)) := by
  unfold setV at h
  split at h
  · cases h
  · cases h
  · cases h
  · rename_i x h1 h2 h3 h4
    cases h
    refine ⟨(List.getElem?_eq_some_iff.mp h4).1, rfl, fun e he => ?_, fun e he => ?_⟩
    · have := sl_get.mp he
      rw [h4] at this
      cases this
      exact h1 _ rfl
    · have := sl_get.mp he
      rw [h4] at this
      cases this
      exact h2 _ rfl
  · cases h
/-- a name is stored: what stands for ever -/
theorem Rep.stV {K : G} {env env' : En} {σ : L2.St} {H : Hp} (R : Rep K env σ H) {i : Nat} {d : D} {v : V} (h : setV env i .imm d = some env') (t : T K H d v) : Rep K env' (σ.set i (some v)) H ∧ Tr env σ H env' (σ.set i (some v)) H := by
  obtain ⟨hi, rfl, hl, hp⟩ := setV_of h
  have hi2 : i < σ.length := by rw [← R.len]; exact hi
  refine ⟨⟨by rw [List.length_set, List.length_set]; exact R.len, fun j f e hj => ?_, fun j l f g e e' a hjl hj hf hl' hg hx ha => ?_⟩, fun _ _ h _ => h, Per.refl H, fun _ o h => ⟨o, h⟩, fun a ha => .inl ?_, fun j e hj => ?_, fun j e hj => ⟨e, ?_⟩, fun j e hj => ?_⟩
  · by_cases hij : i = j
    · subst hij
      rw [sl_set_eq hi] at hj
      cases hj
      exact ⟨v, List.getElem?_set_self hi2, t⟩
    · rw [sl_set_ne hij] at hj
      rw [List.getElem?_set_ne hij]
      exact R.ok j f e hj
  · have n1 : i ≠ j := by
      rintro rfl
      rw [sl_set_eq hi] at hj; cases hj; rcases hf with hf | hf <;> cases hf
    have n2 : i ≠ l := by
      rintro rfl
      rw [sl_set_eq hi] at hl'; cases hl'; exact hg rfl
    rw [sl_set_ne n1] at hj
    rw [sl_set_ne n2] at hl'
    rw [List.getElem?_set_ne n1] at ha
    rw [List.getElem?_set_ne n2]
    exact R.apart j l f g e e' a hjl hj hf hl' hg hx ha
  · obtain ⟨j, f, e, h1, h2, h3⟩ := ha
    have n1 : i ≠ j := by
      rintro rfl
      rw [sl_set_eq hi] at h1; cases h1; rcases h2 with h2 | h2 <;> cases h2
    rw [sl_set_ne n1] at h1
    rw [List.getElem?_set_ne n1] at h3
    exact ⟨j, f, e, h1, h2, h3⟩
  · have n1 : i ≠ j := by
      rintro rfl
      exact hl _ hj
    rw [sl_set_ne n1, List.getElem?_set_ne n1]
    exact ⟨hj, rfl⟩
  · have n1 : i ≠ j := by
      rintro rfl
      exact hp _ hj
    rw [sl_set_ne n1, List.getElem?_set_ne n1]
    exact ⟨hj, rfl⟩
  · by_cases n1 : i = j
    · subst n1
      rw [sl_set_eq hi] at hj
      cases hj
    · rw [sl_set_ne n1] at hj
      exact hj
/-- .. a new object of one's own -/
theorem Rep.stF {K : G} {env env1 env' : En} {σ : L2.St} {H H1 : Hp} (t1 : Tr env σ H env1 σ H1) (R : Rep K env1 σ H1) {i : Nat} {d : D} {a : Addr} (h : setV env1 i .own d = some env') (m : Mt K H1 d (.ref a)) (n : H a = none) (ni : NotIn env1 σ a) :
    Rep K env' (σ.set i (some (.ref a))) H1 ∧ Tr env σ H env' (σ.set i (some (.ref a))) H1 := by
  obtain ⟨hi, rfl, hl, hp⟩ := setV_of h
  have hi2 : i < σ.length := by rw [← R.len]; exact hi
  refine ⟨⟨by rw [List.length_set, List.length_set]; exact R.len, fun j f e hj => ?_, fun j l f g e e' b hjl hj hf hl' hg hx ha => ?_⟩, t1.frm, t1.per, t1.dom, fun b ha => ?_, fun j e hj => ?_, fun j e hj => ?_, fun j e hj => ?_⟩
  · by_cases hij : i = j
    · subst hij
      rw [sl_set_eq hi] at hj
      cases hj
      exact ⟨_, List.getElem?_set_self hi2, m⟩
    · rw [sl_set_ne hij] at hj
      rw [List.getElem?_set_ne hij]
      exact R.ok j f e hj
  · by_cases n1 : i = j
    · subst n1
      rw [List.getElem?_set_self hi2] at ha
      cases ha
      have n2 : i ≠ l := hjl
      rw [sl_set_ne n2] at hl'
      rw [List.getElem?_set_ne n2]
      exact ni l g e' hl' hg hx
    · rw [sl_set_ne n1] at hj
      rw [List.getElem?_set_ne n1] at ha
      by_cases n2 : i = l
      · subst n2
        rw [List.getElem?_set_self hi2]
        intro e3
        cases e3
        exact ni j f e hj (by rcases hf with rfl | rfl <;> decide) (by rcases hf with rfl | rfl <;> decide) ha
      · rw [sl_set_ne n2] at hl'
        rw [List.getElem?_set_ne n2]
        exact R.apart j l f g e e' b hjl hj hf hl' hg hx ha
  · obtain ⟨j, f, e, h1, h2, h3⟩ := ha
    by_cases n1 : i = j
    · subst n1
      rw [List.getElem?_set_self hi2] at h3
      cases h3
      exact .inr n
    · rw [sl_set_ne n1] at h1
      rw [List.getElem?_set_ne n1] at h3
      exact t1.own b ⟨j, f, e, h1, h2, h3⟩
  · obtain ⟨h1, e1⟩ := t1.len j e hj
    have n1 : i ≠ j := by
      rintro rfl
      exact hl _ h1
    rw [sl_set_ne n1, List.getElem?_set_ne n1]
    exact ⟨h1, e1⟩
  · obtain ⟨d', h1, e1⟩ := t1.par j e hj
    have n1 : i ≠ j := by
      rintro rfl
      exact hp _ h1
    refine ⟨d', ?_⟩
    rw [sl_set_ne n1, List.getElem?_set_ne n1]
    exact ⟨h1, e1⟩
  · by_cases n1 : i = j
    · subst n1
      rw [sl_set_eq hi] at hj
      cases hj
    · rw [sl_set_ne n1] at hj
      exact t1.lnb j e hj
theorem s_asg (c : Ct N sc k B X) (i : Nat) {x : Str} {px : Pos} {e : Expr} {ir : IE} (h : PE X e (tE X.g Φ ir)) (hi : N[i]? = some x := by rfl) (hv : locB sc x = true := by rfl) (hs : swapsWith e (some (.Name x px)) pos.line X.env = pure false := by rfl) : PS X (.Assign [.Name x px] e pos) (tS X.g Φ (.asg i ir)) :=
  (ps_set (i := i) (by rw [c.hN]; exact c.nd) (by rw [c.hN]; exact hi) (c.loc x hv).1 h hs (c.loc x hv).2).mono fun E σ H ⟨env, o, R, ev, q⟩ => by
    unfold evS at ev
    obtain ⟨⟨d, e1⟩, h1, ev⟩ := Option.bind_eq_some_iff.mp ev
    obtain ⟨e2, h2, ev⟩ := Option.map_eq_some_iff.mp ev
    cases ev
    refine ⟨env, d, e1, R, h1, fun v H' R' t' t => ?_⟩
    obtain ⟨R2, t2⟩ := R'.stV h2 t
    exact q _ _ R2 (t'.trans t2)
theorem s_asgF (c : Ct N sc k B X) (i : Nat) {x : Str} {px : Pos} {e : Expr} {ir : IE} (h : PE X e (tF X.g Φ ir)) (hi : N[i]? = some x := by rfl) (hv : locB sc x = true := by rfl) (hs : swapsWith e (some (.Name x px)) pos.line X.env = pure false := by rfl) : PS X (.Assign [.Name x px] e pos) (tS X.g Φ (.asgF i ir)) :=
  (ps_set (i := i) (by rw [c.hN]; exact c.nd) (by rw [c.hN]; exact hi) (c.loc x hv).1 h hs (c.loc x hv).2).mono fun E σ H ⟨env, o, R, ev, q⟩ => by
    unfold evS at ev
    obtain ⟨⟨d, e1⟩, h1, ev⟩ := Option.bind_eq_some_iff.mp ev
    obtain ⟨e2, h2, ev⟩ := Option.map_eq_some_iff.mp ev
    cases ev
    refine ⟨env, d, e1, R, h1, fun a H' R' t' m n ni => ?_⟩
    obtain ⟨R2, t2⟩ := R'.stF t' h2 m n ni
    exact q _ _ R2 t2
end
end Dv
namespace Dv
open PySem PySem.Spec L2

/-! ### targets -/
mutual
def tgS : Tg → List Nat
  | .n i => [i]
  | .t l => tgSs l
def tgSs : List Tg → List Nat
  | [] => []
  | t :: ts => tgS t ++ tgSs ts
end
def gT (K : G) (tg : Tg) : TG := fun v σ H Q => ∃ env d env', Rep K env σ H ∧ T K H d v ∧ bindT tg d env = some env' ∧ ∀ σ', Rep K env' σ' H → Tr env σ H env' σ' H → σ'.length = σ.length → (∀ j, j ∉ tgS tg → σ'[j]? = σ[j]?) → Q σ' H
def gTs (K : G) (tgs : List Tg) : TGs := fun vs σ H Q => ∃ env ds env', Rep K env σ H ∧ TA K H ds vs ∧ bindTs tgs ds env = some env' ∧ ∀ σ', Rep K env' σ' H → Tr env σ H env' σ' H → σ'.length = σ.length → (∀ j, j ∉ tgSs tgs → σ'[j]? = σ[j]?) → Q σ' H
theorem _root_.L2.PG.mono {X : Cx} {e : Expr} {t u : TG} (h : PG X e t) (m : ∀ v σ H Q, u v σ H Q → t v σ H Q) : PG X e u := ⟨fun pins s σ H v w Q I r q => h.run pins s σ H v w Q I r (m v σ H Q q)⟩
theorem _root_.L2.PGs.mono {X : Cx} {e : List Expr} {t u : TGs} (h : PGs X e t) (m : ∀ v σ H Q, u v σ H Q → t v σ H Q) : PGs X e u := ⟨fun pins s σ H v w Q I r q => h.run pins s σ H v w Q I r (m v σ H Q q)⟩
section
variable {N : List Str} {sc : Scope} {k : Nat} {B : List Str} {X : Cx} {Φ : Nat → Fn} {pos : Pos}
theorem g_n (c : Ct N sc k B X) (i : Nat) {x : Str} (hi : N[i]? = some x := by rfl) (hv : locB sc x = true := by rfl) : PG X (.Name x pos) (gT X.g (.n i)) :=
  (pg_name (by rw [c.hN]; exact c.nd) (by rw [c.hN]; exact hi) (c.loc x hv).1 (c.loc x hv).2).mono fun v σ H Q ⟨env, d, env', R, t, h, q⟩ => by
    unfold bindT at h
    obtain ⟨R2, t2⟩ := R.stV h t
    exact q _ R2 t2 (by rw [List.length_set]) fun j hj => List.getElem?_set_ne (by rintro rfl; exact hj (by simp [tgS]))
theorem gs_nil : PGs X [] (gTs X.g []) := pgs_nil.mono fun vs σ H Q ⟨env, ds, env', R, t, h, q⟩ => by
  cases ds with
  | nil =>
    unfold bindTs at h
    cases h
    unfold TA at t
    exact ⟨t, q σ R Tr.refl rfl fun _ _ => rfl⟩
  | cons => cases h
theorem gs_cons {e : Expr} {es : List Expr} {t : Tg} {ts : List Tg} (h1 : PG X e (gT X.g t)) (h2 : PGs X es (gTs X.g ts)) (hs : (assignEach (e :: es) X.env).map (·.2) = assign e X.env :: (assignEach es X.env).map (·.2) := by rfl) : PGs X (e :: es) (gTs X.g (t :: ts)) :=
  (pgs_cons h1 h2 hs).mono fun vs σ H Q ⟨env, ds, env', R, tt, h, q⟩ => by
    cases ds with
    | nil => cases h
    | cons d ds =>
      unfold bindTs at h
      obtain ⟨e1, h1, h2⟩ := Option.bind_eq_some_iff.mp h
      unfold TA at tt
      obtain ⟨v, r, rfl, t1, t2⟩ := tt
      exact ⟨v, r, rfl, env, d, e1, R, t1, h1, fun σ' R' t' l' a' => ⟨e1, ds, env', R', t2, h2, fun σ2 R2 t3 l2 a2 => q σ2 R2 (t'.trans t3) (l2.trans l') fun j hj => (a2 j fun hm => hj (by simp [tgSs, hm])).trans (a' j fun hm => hj (by simp [tgSs, hm]))⟩⟩
theorem bindTs_len : ∀ {ts : List Tg} {ds : List D} {e e' : En}, bindTs ts ds e = some e' → ds.length = ts.length
  | [], [], _, _, _ => rfl
  | t :: ts, d :: ds, e, e', h => by
    unfold bindTs at h
    obtain ⟨e1, _, h2⟩ := Option.bind_eq_some_iff.mp h
    simp [bindTs_len h2]
  | [], _ :: _, _, _, h => by cases h
  | _ :: _, [], _, _, h => by cases h
theorem g_t (c : Ct N sc k B X) {es : List Expr} {m : Nat} {ts : List Tg} (h : PGs X es (gTs X.g ts)) (hn : (assignEach es X.env).length = ts.length := by rfl) (hst : (assignEach es X.env).findIdx? (·.1) = none := by rfl) : PG X (.Tuple es m pos) (gT X.g (.t ts)) :=
  (pg_tup c.calm h hn hst).mono fun v σ H Q ⟨env, d, env', R, t, hb, q⟩ => by
    cases d with
    | tuple ds =>
      unfold bindT at hb
      unfold T at t
      obtain ⟨a, vs, rfl, s, ta⟩ := t
      exact ⟨a, vs, rfl, s, by rw [← ta.length, bindTs_len hb], env, ds, env', R, ta, hb, q⟩
    | _ => cases hb
theorem s_asgT {tg e : Expr} {ir : IE} {t : Tg} (he : PE X e (tE X.g Φ ir)) (hg : PG X tg (gT X.g t)) (hs : swapsWithSole [tg] e pos.line X.env = pure false := by rfl) (hw : swappedStores [tg] e X.env = pure none := by rfl)
    (h1 : (assignEach [tg] X.env).map (·.2) = [assign tg X.env] := by rfl) : PS X (.Assign [tg] e pos) (tS X.g Φ (.asgT t ir)) :=
  (ps_asg he hg hs hw h1).mono fun E σ H ⟨env, o, R, ev, q⟩ => by
    unfold evS at ev
    obtain ⟨⟨d, e1⟩, h1, ev⟩ := Option.bind_eq_some_iff.mp ev
    obtain ⟨e2, h2, ev⟩ := Option.map_eq_some_iff.mp ev
    cases ev
    exact ⟨env, d, e1, R, h1, fun v H' R' t' tv => ⟨e1, d, e2, R', tv, h2, fun σ2 R2 t2 _ _ => q σ2 H' R2 (t'.trans t2)⟩⟩
theorem s_par (c : Ct N sc k B X) (i j : Nat) {x y : Str} {a b : Expr} {ia ib : IE} {px py pt : Pos} {kt k2 pt2} (ha : PE X a (tE X.g Φ ia)) (hb : PE X b (tE X.g Φ ib)) (hi : N[i]? = some x := by rfl) (hj : N[j]? = some y := by rfl) (hij : i ≠ j := by decide)
    (hx : sc.names.lookup x = some .local := by rfl) (hy : sc.names.lookup y = some .local := by rfl) (hsa : starEach [a, b] X.env = (false, eval a X.env) :: starEach [b] X.env := by rfl) (hsb : starEach [b] X.env = (false, eval b X.env) :: starEach [] X.env := by rfl)
    (hw : swappedStores [.Tuple [.Name x px, .Name y py] kt pt] (.Tuple [a, b] k2 pt2) X.env = pure (some [x, y]))
    (hs : swapsWithSole [.Tuple [.Name x px, .Name y py] kt pt] (.Tuple [a, b] k2 pt2) pos.line X.env = pure false := by rfl) :
    PS X (.Assign [.Tuple [.Name x px, .Name y py] kt pt] (.Tuple [a, b] k2 pt2) pos) (tS X.g Φ (.par i j ia ib)) :=
  (ps_par (i := i) (j := j) c.calm (by rw [c.hN]; exact c.nd) (by rw [c.hN]; exact hi) (by rw [c.hN]; exact hj) hij (c.lcl x hx) (c.lcl y hy) (pa_cons ha (pa_cons hb pa_nil hsb) hsa) hw hs).mono fun E σ H ⟨env, o, R, ev, q⟩ => by
    unfold evS at ev
    obtain ⟨⟨da, e1⟩, h1, ev⟩ := Option.bind_eq_some_iff.mp ev
    obtain ⟨⟨db, e2⟩, h2, ev⟩ := Option.bind_eq_some_iff.mp ev
    obtain ⟨e3, h3, ev⟩ := Option.bind_eq_some_iff.mp ev
    obtain ⟨e4, h4, ev⟩ := Option.map_eq_some_iff.mp ev
    cases ev
    refine ⟨env, da, e1, R, h1, fun v H1 R1 t1 o1 => ⟨e1, db, e2, R1, h2, fun w H2 R2 t2 o2 => ⟨v, w, rfl, ?_⟩⟩⟩
    obtain ⟨R3, t3⟩ := R2.stV h3 (T.mono t2.per _ _ o1)
    obtain ⟨R4, t4⟩ := R3.stV h4 o2
    exact q _ _ R4 (((t1.trans t2).trans t3).trans t4)
/-! ### places -/
theorem set_ok {pins : List (Addr × Obj)} {s : Shared} {σ : L2.St} {H : Hp} {a : Addr} {i v : V} {iv u : Value} {dx dk dv dy : D} (hu : X.A.units + 64 < cLine) (I : Inv X pins σ H s) (m : Mt X.g H dx (.ref a)) (ti : T X.g H dk i) (tv : T X.g H dv v) (ri : RelV i iv) (rv : RelV v u) (h : putD dx dk dv = some dy) :
    wpAny (model X.prog X.w) X.A (setItem (.ref a) iv u) (fun _ s' => ∃ H', Inv X pins σ H' s' ∧ ChAt X.g H a dy H') X.xe s := by
  unfold putD at h
  split at h
  · obtain ⟨j, hj, e⟩ := Option.map_eq_some_iff.mp h
    subst e
    obtain ⟨vs, hl, t⟩ := m.list
    unfold T at ti
    exact set_list pins s σ H (.ref a) i v (.ref a) iv u _ I rfl ri rv ⟨a, vs, _, j, rfl, ti, hl, by rw [← t.length]; exact hj, ch_list hl (t.set tv j)⟩
  · split at h
    · rename_i kvs hk
      cases h
      rw [Bool.and_eq_true] at hk
      obtain ⟨b, e, hd, hl, at'⟩ := dict_at I m.vw ti.vw hk.1
      cases e
      obtain ⟨o0, ho0, fo⟩ := m.frzb
      have mu : Mut (H a) := by
        rw [ho0]
        cases o0 <;> first | exact trivial | exact fo.elim
      refine DkAt.put (σ := σ) (pins := pins) at' hd (szOk_le hk.2) mu (fun b e => by rw [ho0] at e; cases e; exact fo) (by omega) ri rv tv I fun o s' I' fo' hh => ⟨_, I', o, rfl, ?_, fo'⟩
      have p := per_upd (o := o) ho0 fo.nimm
      refine ⟨a, rfl, ?_⟩
      rcases hh with ⟨kv, rfl, t⟩ | ⟨xs, rfl, t⟩
      · exact .inl ⟨kv, upd_same, TK.mono p _ _ t⟩
      · exact .inr ⟨xs, upd_same, TN.mono p _ _ t⟩
    · cases h
  · cases h
/-- the slot's object, as it is -/
theorem Rep.own {K : G} {env : En} {σ : L2.St} {H : Hp} (R : Rep K env σ H) {i : Nat} {d : D} (h : getO env i = some d) : ∃ f a, sl env i = some (f, d) ∧ (f = .own ∨ f = .par) ∧ σ[i]? = some (some (.ref a)) ∧ Mt K H d (.ref a) := by
  obtain ⟨f, h1, hf⟩ := getO_of h
  obtain ⟨a, e, m, _⟩ := R.at h1 (by rcases hf with rfl | rfl <;> decide) (by rcases hf with rfl | rfl <;> decide)
  exact ⟨f, a, h1, hf, e, m⟩
theorem s_put (c : Ct N sc k B X) (i : Nat) {x : Str} {px tp : Pos} {ke e : Expr} {ik ia : IE} (hk : PE X ke (tE X.g Φ ik)) (he : PE X e (tE X.g Φ ia)) (hi : N[i]? = some x := by rfl) (hv : visB sc x = true := by rfl) (hd : (x == ("__debug__" : Str)) = false := by decide) (hcd : (x == ("__classdict__" : Str)) = false := by decide)
    (ha : ∀ v, assign (.Subscript (.Name x px) ke tp) X.env v = (do
      let ov ← holding [v] (eval (.Name x px) X.env)
      let iv ← holding [v, ov] (eval ke X.env)
      standAt tp
      holding [v, ov, iv] (setItem ov iv v)
      release [v, ov, iv] []) := by intro _; rfl)
    (hs : swapsWithSole [.Subscript (.Name x px) ke tp] e pos.line X.env = pure false := by rfl) (hw : swappedStores [.Subscript (.Name x px) ke tp] e X.env = pure none := by rfl)
    (h1 : (assignEach [.Subscript (.Name x px) ke tp] X.env).map (·.2) = [assign (.Subscript (.Name x px) ke tp) X.env] := by rfl) : PS X (.Assign [.Subscript (.Name x px) ke tp] e pos) (tS X.g Φ (.put i ik ia)) := by
  have hset : PSet X (fun o iv v H Q => ∃ a dx dk dv dy, o = .ref a ∧ Mt X.g H dx (.ref a) ∧ T X.g H dk iv ∧ T X.g H dv v ∧ putD dx dk dv = some dy ∧ ∀ H', ChAt X.g H a dy H' → Q H') :=
    fun pins s σ H o i v ov iv u Q I ro ri rv ⟨a, dx, dk, dv, dy, e, m, ti, tv, h, q⟩ => by
      subst e
      cases ro
      exact thn (set_ok c.units I m ti tv ri rv h) fun _ s' ⟨H', I', ch⟩ => ⟨H', I', q H' ch⟩
  refine (ps_asg he (pg_sub (pe_var (by rw [c.hN]; exact hi) (c.vis x hv) hd hcd) hk hset ha) hs hw h1).mono fun E σ H ⟨env, o, R, ev, q⟩ => ?_
  unfold evS at ev
  obtain ⟨⟨da, e1⟩, g1, ev⟩ := Option.bind_eq_some_iff.mp ev
  obtain ⟨dx0, g0, ev⟩ := Option.bind_eq_some_iff.mp ev
  obtain ⟨⟨dk, e2⟩, g2, ev⟩ := Option.bind_eq_some_iff.mp ev
  obtain ⟨dx, g3, ev⟩ := Option.bind_eq_some_iff.mp ev
  obtain ⟨dy, g4, ev⟩ := Option.bind_eq_some_iff.mp ev
  obtain ⟨e3, g5, ev⟩ := Option.map_eq_some_iff.mp ev
  cases ev
  refine ⟨env, da, e1, R, g1, fun v H1 R1 t1 o1 => ?_⟩
  obtain ⟨f, a, _, _, es, _⟩ := R1.own g0
  refine ⟨.ref a, es, e1, dk, e2, R1, g2, fun w H2 R2 t2 o2 => ?_⟩
  obtain ⟨f2, a2, h6, hf, es2, m⟩ := R2.own g3
  rw [es] at es2; cases es2
  refine ⟨a, dx, dk, da, dy, rfl, m, o2, T.mono t2.per _ _ o1, g4, fun H3 ch => ?_⟩
  obtain ⟨R3, t3⟩ := R2.chAt h6 hf es ch g5
  exact q _ _ R3 ((t1.trans t2).trans t3)
/-! ### op= -/
def opN : Op2 → Operator
  | .add => .Add
  | .sub => .Sub
  | .mul => .Mult
  | .fdiv => .FloorDiv
  | .mod => .Mod
  | .pow => .Pow
def rA (K : G) (o : Op2) : R2 := fun x y H Q => ∃ dx dy dz, T K H dx x ∧ T K H dy y ∧ augD o dx dy = some dz ∧ ∀ z, T K H dz z → Q z H
theorem aug_ok (o : Op2) : OpR X (inplaceOp (opN o)) (rA X.g o) := by
  intro pins s σ H x y v u Q I rx ry h
  obtain ⟨dx, dy, dz, hx, hy, e, q⟩ := h
  unfold augD at e
  split at e
  · cases e
    unfold T at hx hy
    exact iop_add pins s σ H x y v u Q I rx ry ⟨_, _, hx, hy, q _ T.int⟩
  · split at e
    · rename_i hz
      cases e
      unfold T at hx hy
      exact iop_add_str pins s σ H x y v u Q I rx ry ⟨_, _, hx, hy, szOk_le hz, q _ T.str⟩
    · cases e
  · cases e
    unfold T at hx hy
    exact iop_sub pins s σ H x y v u Q I rx ry ⟨_, _, hx, hy, q _ T.int⟩
  · split at e
    · rename_i i j hz
      cases e
      unfold T at hx hy
      exact iop_mul pins s σ H x y v u Q I rx ry ⟨_, _, hx, hy, mulOk_of hz, q _ T.int⟩
    · cases e
  · rename_i i j
    change (if (decide (0 < j) && decide (j.natAbs < 1073741824)) = true then some (D.int (i / j)) else none) = some dz at e
    split at e
    · rename_i hz
      cases e
      unfold T at hx hy
      rw [Bool.and_eq_true, decide_eq_true_eq, decide_eq_true_eq] at hz
      exact iop_fdiv pins s σ H x y v u Q I rx ry ⟨_, _, hx, hy, ⟨hz.1, by have := hz.2; omega⟩, q _ T.int⟩
    · cases e
  · rename_i i j
    change (if decide (0 < j) = true then some (D.int (i % j)) else none) = some dz at e
    split at e
    · rename_i hz
      cases e
      unfold T at hx hy
      exact iop_mod pins s σ H x y v u Q I rx ry ⟨_, _, hx, hy, of_decide_eq_true hz, q _ T.int⟩
    · cases e
  · cases e
theorem s_aug (c : Ct N sc k B X) (i : Nat) (o : Op2) {x : Str} {px : Pos} {e : Expr} {ia : IE} (he : PE X e (tE X.g Φ ia)) (hi : N[i]? = some x := by rfl) (hv : locB sc x = true := by rfl) : PS X (.AugAssign (.Name x px) (opN o) e pos) (tS X.g Φ (.aug i o ia)) :=
  (ps_aug (i := i) (ti := rA X.g o) (by rw [c.hN]; exact c.nd) (by rw [c.hN]; exact hi) (c.loc x hv).1 he (aug_ok o) (c.loc x hv).2).mono fun E σ H ⟨env, ou, R, ev, q⟩ => by
    unfold evS at ev
    obtain ⟨dx, g1, ev⟩ := Option.bind_eq_some_iff.mp ev
    obtain ⟨⟨da, e1⟩, g2, ev⟩ := Option.bind_eq_some_iff.mp ev
    obtain ⟨dy, g3, ev⟩ := Option.bind_eq_some_iff.mp ev
    obtain ⟨e2, g4, ev⟩ := Option.map_eq_some_iff.mp ev
    cases ev
    unfold getV at g1
    split at g1
    · rename_i d0 hs
      cases g1
      obtain ⟨v, e3, t⟩ := R.ok i _ _ hs
      refine ⟨v, e3, env, da, e1, R, g2, fun w H1 R1 t1 o1 => ⟨_, da, dy, T.mono t1.per _ _ t, o1, g3, fun z tz => ?_⟩⟩
      obtain ⟨R2, t2⟩ := R1.stV g4 tz
      exact q _ _ R2 (t1.trans t2)
    · cases g1
theorem get_ok {pins : List (Addr × Obj)} {s : Shared} {σ : L2.St} {H : Hp} {a : Addr} {i : V} {iv : Value} {dx dk dy : D} {Q : VK} (hu : X.A.units + 64 < cLine) (I : Inv X pins σ H s) (m : Mt X.g H dx (.ref a)) (ti : T X.g H dk i) (ri : RelV i iv) (h : idxD dx dk = some dy) (q : ∀ z, T X.g H dy z → Q z H) :
    wpAny (model X.prog X.w) X.A (getItem (.ref a) iv) (EP X pins σ Q) X.xe s := by
  unfold idxD at h
  split at h
  · rename_i xs j
    obtain ⟨n, hn, hz⟩ := Option.bind_eq_some_iff.mp h
    obtain ⟨vs, hl, t⟩ := m.list
    unfold T at ti
    subst ti
    obtain ⟨tk, rfl⟩ := ri
    obtain ⟨w, hw, tw⟩ := t.get hz
    obtain ⟨z, its, _, r, hl2, e⟩ := Inv.lstR I (.inl hl)
    obtain ⟨u, eu, ru⟩ := r.get hw
    obtain ⟨h1, h2, h3, h4⟩ := ixN_seq hn
    have fin : EP X pins σ Q u s := ⟨w, H, I, ru, q w tw⟩
    have hn2 := line63
    have hlen := t.length
    have isl : s.heap.IsList a its.toArray := ⟨_, e, rfl, _, rfl⟩
    by_cases h0 : 0 ≤ j
    · have hk : j.toNat = n := by
        rw [seqIndex_of h0 h4] at h1
        exact Option.some.inj h1
      exact wpAny_getItem_list isl h0 (by omega) (by rw [hk]; simpa using eu) fin
    · have hk : (j + (its.toArray.size : Int)).toNat = n := by
        rw [seqIndex_neg (by omega) h3] at h1
        rw [List.size_toArray, ← hl2, ← hlen]
        exact Option.some.inj h1
      exact wpAny_getItem_list_neg isl (by omega) (by rw [List.size_toArray]; omega) (by omega) (by rw [hk]; simpa using eu) fin
  · exact m.elim
  · exact m.elim
  · split at h
    · rename_i kvs _ hk
      obtain ⟨b, e, hd, hl, at'⟩ := dict_at I m.vw ti.vw hk
      cases e
      obtain ⟨w, tw, rule⟩ := at'.val (σ := σ) (pins := pins) h
      exact rule X.A X.xe iv _ (by omega) ri I fun w' s' I' r => ⟨w, H, I', r, q w tw⟩
    · cases h
  · cases h
theorem s_augP (c : Ct N sc k B X) (i : Nat) (o : Op2) {x : Str} {px tp : Pos} {ke e : Expr} {ik ia : IE} (hk : PE X ke (tE X.g Φ ik)) (he : PE X e (tE X.g Φ ia)) (hi : N[i]? = some x := by rfl) (hv : visB sc x = true := by rfl) (hd : (x == ("__debug__" : Str)) = false := by decide) (hcd : (x == ("__classdict__" : Str)) = false := by decide)
    (ha : ∀ ov iv new, augStore ke ov iv new = (do holding [new, ov, iv] (setItem ov iv new); release [new, ov, iv] []; pure .next) := by intros; rfl) : PS X (.AugAssign (.Subscript (.Name x px) ke tp) (opN o) e pos) (tS X.g Φ (.augP i ik o ia)) := by
  have hset : PSet X (fun o iv v H Q => ∃ a dx dk dv dy, o = .ref a ∧ Mt X.g H dx (.ref a) ∧ T X.g H dk iv ∧ T X.g H dv v ∧ putD dx dk dv = some dy ∧ ∀ H', ChAt X.g H a dy H' → Q H') :=
    fun pins s σ H o i v ov iv u Q I ro ri rv ⟨a, dx, dk, dv, dy, e, m, ti, tv, h, q⟩ => by
      subst e
      cases ro
      exact thn (set_ok c.units I m ti tv ri rv h) fun _ s' ⟨H', I', ch⟩ => ⟨H', I', q H' ch⟩
  have hget : PGet X (fun o iv H Q => ∃ a dx dk dy, o = .ref a ∧ Mt X.g H dx (.ref a) ∧ T X.g H dk iv ∧ idxD dx dk = some dy ∧ ∀ z, T X.g H dy z → Q z H) :=
    fun pins s σ H o i ov iv Q I ro ri ⟨a, dx, dk, dy, e, m, ti, h, q⟩ => by
      subst e
      cases ro
      exact get_ok c.units I m ti ri h q
  refine (ps_augS (pe_var (by rw [c.hN]; exact hi) (c.vis x hv) hd hcd) hk hget he (aug_ok o) hset ha).mono fun E σ H ⟨env, ou, R, ev, q⟩ => ?_
  unfold evS at ev
  obtain ⟨dx0, g0, ev⟩ := Option.bind_eq_some_iff.mp ev
  obtain ⟨⟨dk, e1⟩, g1, ev⟩ := Option.bind_eq_some_iff.mp ev
  obtain ⟨dx, g2, ev⟩ := Option.bind_eq_some_iff.mp ev
  obtain ⟨dy, g3, ev⟩ := Option.bind_eq_some_iff.mp ev
  obtain ⟨⟨da, e2⟩, g4, ev⟩ := Option.bind_eq_some_iff.mp ev
  obtain ⟨dz, g5, ev⟩ := Option.bind_eq_some_iff.mp ev
  obtain ⟨dx2, g6, ev⟩ := Option.bind_eq_some_iff.mp ev
  obtain ⟨du, g7, ev⟩ := Option.bind_eq_some_iff.mp ev
  obtain ⟨e3, g8, ev⟩ := Option.map_eq_some_iff.mp ev
  cases ev
  obtain ⟨f, a, _, _, es, _⟩ := R.own g0
  refine ⟨.ref a, es, env, dk, e1, R, g1, fun w H1 R1 t1 o1 => ?_⟩
  obtain ⟨f1, a1, h6, hf, es1, m⟩ := R1.own g2
  rw [es] at es1; cases es1
  refine ⟨a, dx, dk, dy, rfl, m, o1, g3, fun z tz => ⟨e1, da, e2, R1, g4, fun y H2 R2 t2 o2 => ⟨dy, da, dz, T.mono t2.per _ _ tz, o2, g5, fun z2 tz2 => ?_⟩⟩⟩
  obtain ⟨f2, a2, h7, hf2, es2, m2⟩ := R2.own g6
  rw [es] at es2; cases es2
  refine ⟨a, dx2, dk, dz, du, rfl, m2, T.mono t2.per _ _ o1, tz2, g7, fun H3 ch => ?_⟩
  obtain ⟨R3, t3⟩ := R2.chAt h7 hf2 es ch g8
  exact q _ _ R3 ((t1.trans t2).trans t3)
end
end Dv
namespace Dv
open PySem PySem.Spec L2

theorem loop_of {c : En → Option (Bool × En)} {b : En → Option Out} {e : En} {o : Out} (h : loop c b e = some o) : ∃ n, loopN c b n e = some o := by
  unfold loop at h
  split at h
  · rename_i hx
    cases h
    exact ⟨hx.choose, hx.choose_spec.choose_spec⟩
  · cases h
theorem testE_of {r : Option (D × En)} {b : Bool} {e : En} (h : testE r = some (b, e)) : r = some (.bool b, e) := by
  unfold testE at h
  obtain ⟨⟨d, e2⟩, h2, h3⟩ := Option.bind_eq_some_iff.mp h
  cases d with
  | bool b' => cases h3; exact h2
  | _ => cases h3
section
variable {N : List Str} {sc : Scope} {k : Nat} {B : List Str} {X : Cx} {Φ : Nat → Fn} {pos : Pos}
theorem s_whl (cx : Ct N sc k B X) {c : Expr} {b : List Stmt} {ic : IE} {ib : List IS} (hc : PT X c (tT X.g Φ ic)) (hb : PSs X b (tSs X.g Φ ib)) : PS X (.While c b [] pos) (tS X.g Φ (.whl ic ib)) :=
  (ps_while cx.own hc hb).mono fun E σ H ⟨env, o, R, ev, q⟩ => by
    unfold evS at ev
    obtain ⟨n0, ev⟩ := loop_of ev
    refine ⟨fun m σ1 H1 => ∃ e, Rep X.g e σ1 H1 ∧ Tr env σ H e σ1 H1 ∧ loopN (fun e => testE (evE Φ ic e)) (fun e => evSs Φ ib e) m e = some o, ⟨n0, env, R, Tr.refl, ev⟩, ?_⟩
    rintro m σ1 H1 ⟨e, R1, t1, hl⟩
    cases m with
    | zero => cases hl
    | succ m =>
      unfold loopN at hl
      obtain ⟨⟨bv, e2⟩, h1, h2⟩ := Option.bind_eq_some_iff.mp hl
      refine ⟨e, bv, e2, R1, testE_of h1, fun H2 R2 t2 => ?_⟩
      cases bv with
      | false =>
        rw [if_neg (by intro hh; cases hh)] at h2 ⊢
        cases h2
        exact q _ _ R2 (t1.trans t2)
      | true =>
        rw [if_pos rfl] at h2 ⊢
        obtain ⟨o1, h3, h4⟩ := Option.bind_eq_some_iff.mp h2
        refine ⟨fun σ' H' => ∃ e', Rep X.g e' σ' H' ∧ Tr env σ H e' σ' H' ∧ loopN (fun e => testE (evE Φ ic e)) (fun e => evSs Φ ib e) m e' = some o, fun σ' H' hh => ⟨m, Nat.lt_succ_self m, hh⟩, e2, o1, R2, h3, ?_⟩
        cases o1 with
        | nx e1 => exact fun σ' H' R' t' => ⟨e1, R', (t1.trans t2).trans t', h4⟩
        | ct e1 => exact fun σ' H' R' t' => ⟨e1, R', (t1.trans t2).trans t', h4⟩
        | bk e1 => cases h4; exact fun σ' H' R' t' => q _ _ R' ((t1.trans t2).trans t')
        | rt r e1 => cases h4; exact fun v σ' H' R' t' rs => q v _ _ R' ((t1.trans t2).trans t') (rs.back (t1.trans t2))
end

/-! ### what a for walks -/
structure DW (K : G) (J : It) (items : List D) (S : Addr → Prop) (H1 : Hp) : Prop where
  go : ∀ (H : Hp) (i : Nat), Per H1 H → (∀ a o, S a → H1 a = some o → H a = some o) → i < items.length → J.go i H
  yld : ∀ (H : Hp) (i : Nat) (x : V) (H' : Hp), Per H1 H → (∀ a o, S a → H1 a = some o → H a = some o) → J.yld i H x H' → i < items.length → H' = H ∧ ∃ d, items[i]? = some d ∧ T K H d x
  stop : ∀ (H : Hp) (i : Nat), Per H1 H → (∀ a o, S a → H1 a = some o → H a = some o) → items.length ≤ i → J.stop i H
def Src (it : IE) (e1 : En) (σ : L2.St) (a : Addr) : Prop := ∃ i f d, it = .pl i ∧ sl e1 i = some (f, d) ∧ f ≠ .imm ∧ f ≠ .ext ∧ σ[i]? = some (some (.ref a))
def tI (K : G) (Φ : Nat → Fn) (it : IE) : TI := fun σ H R => ∃ env d e1 items e2, Rep K env σ H ∧ evE Φ it env = some (d, e1) ∧ lendI it e1 d = some (items, e2) ∧ ∀ J H1, Rep K e1 σ H1 → Tr env σ H e1 σ H1 → DW K J items (Src it e1 σ) H1 → R J H1
theorem _root_.L2.PI.mono {X : Cx} {tg e : Expr} {t u : TI} (h : PI X tg e t) (m : ∀ σ H R, u σ H R → t σ H R) : PI X tg e u := ⟨fun pins s σ H R I q => h.run pins s σ H R I (m σ H R q)⟩
section
variable {K : G} {H1 : Hp} {a : Addr} {vs : List V} {ds : List D} {S : Addr → Prop}
theorem dw_list (hs : ∀ H, Per H1 H → (∀ a o, S a → H1 a = some o → H a = some o) → Rd H a (.lst vs)) (t : TA K H1 ds vs) : DW K (Itl K.K a) ds S H1 where
  go := fun H i p k hi => by
    have hv : i < vs.length := by rw [← t.length]; exact hi
    exact ⟨vs, vs[i], .inl (hs H p k), List.getElem?_eq_getElem hv⟩
  yld := fun H i x H' p k y hi => by
    obtain ⟨e, y⟩ := y
    have := y vs (.inl (hs H p k))
    obtain ⟨d, h1, h2⟩ := (TA.mono p _ _ t).getV this
    exact ⟨e, d, h1, h2⟩
  stop := fun H i p k hi => ⟨vs, .inl (hs H p k), by rw [← t.length]; exact hi⟩
theorem dw_tup (hs : SqT K.K H1 a vs) (t : TA K H1 ds vs) : DW K (Itt K.K a) ds S H1 where
  go := fun H i p k hi => by
    have hv : i < vs.length := by rw [← t.length]; exact hi
    exact ⟨vs, vs[i], p.sqt hs, List.getElem?_eq_getElem hv⟩
  yld := fun H i x H' p k y hi => by
    obtain ⟨e, y⟩ := y
    have := y vs (p.sqt hs)
    obtain ⟨d, h1, h2⟩ := (TA.mono p _ _ t).getV this
    exact ⟨e, d, h1, h2⟩
  stop := fun H i p k hi => ⟨vs, p.sqt hs, by rw [← t.length]; exact hi⟩
theorem signs_get {x : Str} {i : Nat} : (signs x)[i]? = (x.cps[i]?).map fun c => PyData.str ⟨#[c]⟩ := by
  unfold signs
  rw [List.getElem?_map]
  simp
theorem signs_len {x : Str} : (signs x).length = x.cps.size := by simp [signs]
theorem dw_str (x : Str) : DW K (Its x) (signs x) S H1 where
  go := fun H i p k hi => by rw [signs_len] at hi; exact hi
  yld := fun H i v H' p k y hi => by
    obtain ⟨e, c, h1, h2⟩ := y
    exact ⟨e, .str ⟨#[c]⟩, by rw [signs_get, h1]; rfl, by rw [h2]; exact T.str⟩
  stop := fun H i p k hi => by rw [signs_len] at hi; exact hi
theorem TK.at {kvs : List (D × D)} {kv : List (Key × V)} {i : Nat} {k : Key} {v : V} (t : TK K H1 kvs kv) (h : kv[i]? = some (k, v)) : (kvs.map (·.1))[i]? = some (keyD k) := by
  induction kvs generalizing kv i with
  | nil =>
    unfold TK at t
    subst t
    simp at h
  | cons p r ih =>
    obtain ⟨pk, pd⟩ := p
    unfold TK at t
    obtain ⟨k', v', r', rfl, e, _, u⟩ := t
    cases i with
    | zero =>
      simp only [List.getElem?_cons_zero, Option.some.injEq, Prod.mk.injEq] at h
      rw [List.map_cons, List.getElem?_cons_zero, e, h.1]
    | succ i =>
      rw [List.map_cons, List.getElem?_cons_succ]
      exact ih u (by simpa using h)
theorem TN.at {kvs : List (D × D)} {xs : List (NestedKey × Addr × V)} {i : Nat} {p : NestedKey × Addr × V} (t : TN K H1 kvs xs) (h : xs[i]? = some p) : ∃ d, (kvs.map (·.1))[i]? = some d ∧ T K H1 d (.ref p.2.1) := by
  induction kvs generalizing xs i with
  | nil =>
    unfold TN at t
    subst t
    simp at h
  | cons c r ih =>
    obtain ⟨ck, cd⟩ := c
    unfold TN at t
    obtain ⟨b, v', r', rfl, _, e, _, u⟩ := t
    cases i with
    | zero =>
      simp only [List.getElem?_cons_zero, Option.some.injEq] at h
      subst h
      exact ⟨ck, rfl, e⟩
    | succ i =>
      rw [List.map_cons, List.getElem?_cons_succ]
      exact ih u (by simpa using h)
theorem T.key {H : Hp} (k : Key) : T K H (keyD k) (kV k) := by
  cases k with
  | inl i => exact T.int
  | inr x => exact T.str
theorem dw_dk {kvs : List (D × D)} {kv : List (Key × V)} {o : Obj} (hs : H1 a = some (.frz o (.dK kv))) (t : TK K H1 kvs kv) : DW K (Itk a o kv) (kvs.map (·.1)) S H1 where
  go := fun H i p _ hi => ⟨p _ _ hs trivial, by rw [← t.length]; simpa using hi⟩
  yld := fun H i x H' p _ y hi => by
    obtain ⟨e, k, v, h1, h2⟩ := y
    exact ⟨e, keyD k, t.at h1, by rw [h2]; exact T.key k⟩
  stop := fun H i p _ hi => ⟨p _ _ hs trivial, by rw [← t.length]; simpa using hi⟩
theorem dw_nd {kvs : List (D × D)} {xs : List (NestedKey × Addr × V)} {o : Obj} (hs : H1 a = some (.frz o (NdO K a xs))) (t : TN K H1 kvs xs) : DW K (Itn K a o xs) (kvs.map (·.1)) S H1 where
  go := fun H i p _ hi => ⟨p _ _ hs trivial, by rw [← t.length]; simpa using hi⟩
  yld := fun H i x H' p _ y hi => by
    obtain ⟨e, q, h1, h2⟩ := y
    obtain ⟨d, h3, h4⟩ := t.at h1
    exact ⟨e, d, h3, by rw [h2]; exact T.mono p _ _ h4⟩
  stop := fun H i p _ hi => ⟨p _ _ hs trivial, by rw [← t.length]; simpa using hi⟩
theorem dw_rng (lo c : Int) (n : Nat) {J : It} (h1 : ∀ i H, J.go i H ↔ i < n) (h2 : ∀ i H x H', J.yld i H x H' → H' = H ∧ x = .int (lo + (i : Nat) * c)) (h3 : ∀ i H, J.stop i H ↔ n ≤ i) : DW K J ((List.range n).map fun (k : Nat) => D.int (lo + (k : Int) * c)) S H1 where
  go := fun H i p k hi => (h1 i H).mpr (by simpa using hi)
  yld := fun H i v H' p k y hi => by
    obtain ⟨e, e2⟩ := h2 i H v H' y
    have hi : i < n := by simpa using hi
    refine ⟨e, .int (lo + (i : Nat) * c), ?_, by rw [e2]; exact T.int⟩
    rw [List.getElem?_map, List.getElem?_range hi]
    rfl
  stop := fun H i p k hi => (h3 i H).mpr (by simpa using hi)
end
section
variable {N : List Str} {sc : Scope} {k : Nat} {B : List Str} {X : Cx} {Φ : Nat → Fn} {pos : Pos} {tg : Expr}
theorem i_v {e : Expr} {ir : IE} (h : PE X e (tE X.g Φ ir)) (n : late ir = false := by rfl) : PI X tg e (tI X.g Φ ir) := by
  refine ⟨fun pins s σ H Rr I ⟨env, d, e1, items, e2, R, ev, hl, q⟩ => ?_⟩
  have hl : (itemsD d).map (·, e1) = some (items, e2) := by
    cases ir <;> first | exact hl | cases n
  obtain ⟨its, hi, e3⟩ := Option.map_eq_some_iff.mp hl
  cases e3
  cases d with
  | list xs =>
    cases hi
    refine (pi_list h).run pins s σ H Rr I ⟨env, _, e1, R, ev, fun v H1 R1 t1 o1 => ?_⟩
    unfold T at o1
    obtain ⟨a, vs, rfl, ⟨o, s1⟩, ta⟩ := o1
    exact ⟨a, rfl, ⟨vs, .inl (.inr ⟨o, s1⟩)⟩, q _ H1 R1 t1 (dw_list (fun H p _ => .inr ⟨o, p _ _ s1 trivial⟩) ta)⟩
  | tuple xs =>
    cases hi
    refine (pi_tup h).run pins s σ H Rr I ⟨env, _, e1, R, ev, fun v H1 R1 t1 o1 => ?_⟩
    unfold T at o1
    obtain ⟨a, vs, rfl, s1, ta⟩ := o1
    exact ⟨a, rfl, ⟨vs, s1⟩, q _ H1 R1 t1 (dw_tup s1 ta)⟩
  | str x =>
    cases hi
    refine (pi_str h).run pins s σ H Rr I ⟨env, _, e1, R, ev, fun v H1 R1 t1 o1 => ?_⟩
    unfold T at o1
    exact ⟨x, o1, q _ H1 R1 t1 (dw_str x)⟩
  | dict kvs =>
    cases hi
    refine (pi_keysD h).run pins s σ H Rr I ⟨env, _, e1, R, ev, fun v H1 R1 t1 o1 => ?_⟩
    unfold T at o1
    obtain ⟨a, o, rfl, ⟨kv, s1, tk⟩ | ⟨xs, s1, tn⟩⟩ := o1
    · exact ⟨a, o, rfl, .inl ⟨kv, s1, q _ H1 R1 t1 (dw_dk s1 tk)⟩⟩
    · exact ⟨a, o, rfl, .inr ⟨xs, s1, q _ H1 R1 t1 (dw_nd s1 tn)⟩⟩
  | _ => cases hi
theorem i_pl (c : Ct N sc k B X) (i : Nat) {x : Str} (hi : N[i]? = some x := by rfl) (hv : visB sc x = true := by rfl) (hd : (x == ("__debug__" : Str)) = false := by decide) (hcd : (x == ("__classdict__" : Str)) = false := by decide) : PI X tg (.Name x pos) (tI X.g Φ (.pl i)) := by
  have pv : PE X (.Name x pos) (tVar i) := pe_var (by rw [c.hN]; exact hi) (c.vis x hv) hd hcd
  refine ⟨fun pins s σ H Rr I ⟨env, d, e1, items, e2, R, ev, hl, q⟩ => ?_⟩
  obtain ⟨d0, hg, e3⟩ := Option.map_eq_some_iff.mp ev
  cases e3
  unfold lendI at hl
  dsimp only at hl
  cases hs : sl env i with
  | none => rw [hs] at hl; cases hl
  | some p =>
    obtain ⟨f, dd⟩ := p
    rw [hs] at hl
    obtain ⟨v, e4, kv⟩ := R.ok i f dd hs
    by_cases hf : f = .imm
    · subst hf
      obtain ⟨its, hi2, e5⟩ := Option.map_eq_some_iff.mp hl
      cases e5
      have kv : T X.g H dd v := kv
      cases dd with
      | list xs =>
        cases hi2
        unfold T at kv
        obtain ⟨a, vs, rfl, ⟨o, s1⟩, ta⟩ := kv
        exact (pi_list pv).run pins s σ H Rr I ⟨_, e4, a, rfl, ⟨vs, .inl (.inr ⟨o, s1⟩)⟩, q _ H R Tr.refl (dw_list (fun H p _ => .inr ⟨o, p _ _ s1 trivial⟩) ta)⟩
      | tuple xs =>
        cases hi2
        unfold T at kv
        obtain ⟨a, vs, rfl, s1, ta⟩ := kv
        exact (pi_tup pv).run pins s σ H Rr I ⟨_, e4, a, rfl, ⟨vs, s1⟩, q _ H R Tr.refl (dw_tup s1 ta)⟩
      | str x =>
        cases hi2
        unfold T at kv
        exact (pi_str pv).run pins s σ H Rr I ⟨_, e4, x, kv, q _ H R Tr.refl (dw_str x)⟩
      | dict kvs =>
        cases hi2
        unfold T at kv
        obtain ⟨a, o, rfl, ⟨kw, s1, tk⟩ | ⟨xs, s1, tn⟩⟩ := kv
        · exact (pi_keysD pv).run pins s σ H Rr I ⟨_, e4, a, o, rfl, .inl ⟨kw, s1, q _ H R Tr.refl (dw_dk s1 tk)⟩⟩
        · exact (pi_keysD pv).run pins s σ H Rr I ⟨_, e4, a, o, rfl, .inr ⟨xs, s1, q _ H R Tr.refl (dw_nd s1 tn)⟩⟩
      | _ => cases hi2
    · have key : ∀ xs, dd = .list xs → f ≠ .ext → items = xs → wpAny (model X.prog X.w) X.A (eval (.Name x pos) X.env) (fun v s1 => wpAny (model X.prog X.w) X.A (pyIter v) (PIE X pins σ tg Rr) X.xe s1) X.xe s := fun xs hxs hx hit => by
        subst hxs hit
        obtain ⟨a, e5, m, _⟩ := R.at hs hf hx
        rw [e4] at e5; cases e5
        obtain ⟨vs, hl2, ta⟩ := m.list
        exact (pi_list pv).run pins s σ H Rr I ⟨_, e4, a, rfl, ⟨vs, .inl (.inl hl2)⟩, q _ H R Tr.refl (dw_list (fun H' p k => .inl (k a _ ⟨i, f, _, rfl, hs, hf, hx, e4⟩ hl2)) ta)⟩
      cases f with
      | imm => exact absurd rfl hf
      | ext => cases hl
      | len =>
        cases dd with
        | list xs => cases hl; exact key _ rfl (by decide) rfl
        | _ => cases hl
      | own =>
        cases dd with
        | list xs => cases hl; exact key _ rfl (by decide) rfl
        | _ => cases hl
      | par =>
        cases dd with
        | list xs => cases hl; exact key _ rfl (by decide) rfl
        | _ => cases hl
theorem rng1_of {x : D} {l : List D} (h : rangeD [x] = some l) : ∃ n, x = .int n ∧ smallI n = true ∧ l = (List.range n.toNat).map fun (k : Nat) => D.int (0 + (k : Int) * 1) := by
  cases x with
  | int n =>
    change (if _ then _ else _) = _ at h
    split at h
    · rename_i hz
      cases h
      rw [Bool.and_eq_true] at hz
      exact ⟨n, rfl, hz.1, by simp⟩
    · cases h
  | _ => cases h
theorem rng2_of {x y : D} {l : List D} (h : rangeD [x, y] = some l) : ∃ a b, x = .int a ∧ y = .int b ∧ smallI a = true ∧ smallI b = true ∧ l = (List.range (b - a).toNat).map fun (k : Nat) => D.int (a + (k : Int) * 1) := by
  cases x with
  | int a =>
    cases y with
    | int b =>
      change (if _ then _ else _) = _ at h
      split at h
      · rename_i hz
        cases h
        rw [Bool.and_eq_true, Bool.and_eq_true] at hz
        exact ⟨a, b, rfl, rfl, hz.1.1, hz.1.2, by simp⟩
      · cases h
    | _ => cases h
  | _ => cases h
theorem rng3_of {x y z : D} {l : List D} (h : rangeD [x, y, z] = some l) : ∃ a b c, x = .int a ∧ y = .int b ∧ z = .int c ∧ RgC a b c (Builtin.Range.rangeSize a b c).toNat ∧ l = (List.range (Builtin.Range.rangeSize a b c).toNat).map fun (k : Nat) => D.int (a + (k : Int) * c) := by
  cases x with
  | int a =>
    cases y with
    | int b =>
      cases z with
      | int c =>
        change (if _ then _ else _) = _ at h
        split at h
        · rename_i hz
          cases h
          rw [Bool.and_eq_true, Bool.and_eq_true, Bool.and_eq_true, Bool.and_eq_true, decide_eq_true_eq, decide_eq_true_eq, decide_eq_true_eq] at hz
          obtain ⟨⟨⟨⟨h1, h2⟩, h3⟩, h4⟩, h5⟩ := hz
          exact ⟨a, b, c, rfl, rfl, rfl, ⟨h1, h2, h3, by omega⟩, rfl⟩
        · cases h
      | _ => cases h
    | _ => cases h
  | _ => cases h
theorem opd1 {K : G} {σ : L2.St} {H : Hp} {ia : IE} {ds : List D} {vs : List V} (o : OpdA K σ H [ia] ds vs) : ∃ d v, ds = [d] ∧ vs = [v] ∧ Opd K ia σ H d v := by
  rcases ds with _ | ⟨d, _ | _⟩ <;> rcases vs with _ | ⟨v, _ | _⟩ <;> first | exact o.elim | exact o.2.elim | exact ⟨d, v, rfl, rfl, o.1⟩
theorem opd2 {K : G} {σ : L2.St} {H : Hp} {ia ib : IE} {ds : List D} {vs : List V} (o : OpdA K σ H [ia, ib] ds vs) : ∃ d v d2 v2, ds = [d, d2] ∧ vs = [v, v2] ∧ Opd K ia σ H d v ∧ Opd K ib σ H d2 v2 := by
  rcases ds with _ | ⟨d, ds⟩ <;> rcases vs with _ | ⟨v, vs⟩ <;> first | exact o.elim | skip
  obtain ⟨d2, v2, rfl, rfl, o2⟩ := opd1 o.2
  exact ⟨d, v, d2, v2, rfl, rfl, o.1, o2⟩
theorem opd3 {K : G} {σ : L2.St} {H : Hp} {ia ib ic : IE} {ds : List D} {vs : List V} (o : OpdA K σ H [ia, ib, ic] ds vs) : ∃ d v d2 v2 d3 v3, ds = [d, d2, d3] ∧ vs = [v, v2, v3] ∧ Opd K ia σ H d v ∧ Opd K ib σ H d2 v2 ∧ Opd K ic σ H d3 v3 := by
  rcases ds with _ | ⟨d, ds⟩ <;> rcases vs with _ | ⟨v, vs⟩ <;> first | exact o.elim | skip
  obtain ⟨d2, v2, d3, v3, rfl, rfl, o2, o3⟩ := opd2 o.2
  exact ⟨d, v, d2, v2, d3, v3, rfl, rfl, o.1, o2, o3⟩
theorem i_rng1 (c : Ct N sc k B X) {a : Expr} {ia : IE} {p : Pos} (ha : PA X [a] (tA X.g Φ [ia])) (hl : late ia = false := by rfl) (hg : glB sc "range" = true := by rfl) (hm : ("range" : Str) ∈ B := by decide) (hs : starEach [a] X.env = [(false, eval a X.env)] := by rfl) : PI X tg (.Call (.Name "range" p) [a] [] pos) (tI X.g Φ (.rng [ia])) := by
  refine (pi_range1 (c.gl _ hg) (c.blt _ hm) ha hs).mono fun σ H Rr ⟨env, d, e1, items, e2, R, ev, hl', q⟩ => ?_
  unfold evE at ev
  obtain ⟨⟨ds, e3⟩, h1, ev⟩ := Option.bind_eq_some_iff.mp ev
  obtain ⟨l, h2, ev⟩ := Option.map_eq_some_iff.mp ev
  cases ev
  cases hl'
  refine ⟨env, ds, _, R, h1, fun vs H1 R1 t1 o1 => ?_⟩
  obtain ⟨x, v, rfl, rfl, p1⟩ := opd1 o1
  obtain ⟨n, rfl, hz, rfl⟩ := rng1_of h2
  have tv := p1.else hl
  unfold T at tv
  subst tv
  obtain ⟨z1, z2⟩ := smallI_of hz
  exact ⟨n, rfl, z1, z2, q _ H1 R1 t1 (dw_rng 0 1 _ (fun i H => Iff.rfl) (fun i H x H' y => ⟨y.1, by rw [y.2]; simp⟩) fun i H => Iff.rfl)⟩
theorem i_rng2 (c : Ct N sc k B X) {a b : Expr} {ia ib : IE} {p : Pos} (ha : PA X [a, b] (tA X.g Φ [ia, ib])) (hl : late ia = false := by rfl) (hl2 : late ib = false := by rfl) (hg : glB sc "range" = true := by rfl) (hm : ("range" : Str) ∈ B := by decide) (hs : starEach [a, b] X.env = [(false, eval a X.env), (false, eval b X.env)] := by rfl) (hs2 : starEach [b] X.env = [(false, eval b X.env)] := by rfl) : PI X tg (.Call (.Name "range" p) [a, b] [] pos) (tI X.g Φ (.rng [ia, ib])) := by
  refine (pi_range2 (c.gl _ hg) (c.blt _ hm) ha hs hs2).mono fun σ H Rr ⟨env, d, e1, items, e2, R, ev, hl', q⟩ => ?_
  unfold evE at ev
  obtain ⟨⟨ds, e3⟩, h1, ev⟩ := Option.bind_eq_some_iff.mp ev
  obtain ⟨l, h2, ev⟩ := Option.map_eq_some_iff.mp ev
  cases ev
  cases hl'
  refine ⟨env, ds, _, R, h1, fun vs H1 R1 t1 o1 => ?_⟩
  obtain ⟨x, v, y, w, rfl, rfl, p1, p2⟩ := opd2 o1
  obtain ⟨n, m, rfl, rfl, hz, hz2, rfl⟩ := rng2_of h2
  have tv := p1.else hl
  have tw := p2.else hl2
  unfold T at tv tw
  subst tv tw
  obtain ⟨z1, z2⟩ := smallI_of hz
  obtain ⟨z3, z4⟩ := smallI_of hz2
  exact ⟨n, m, rfl, ⟨z1, z2, z3, z4⟩, q _ H1 R1 t1 (dw_rng n 1 _ (fun i H => Iff.rfl) (fun i H x H' y => ⟨y.1, by rw [y.2]; simp⟩) fun i H => Iff.rfl)⟩
theorem i_rng3 (c : Ct N sc k B X) {a b b2 : Expr} {ia ib ic : IE} {p : Pos} (ha : PA X [a, b, b2] (tA X.g Φ [ia, ib, ic])) (hl : late ia = false := by rfl) (hl2 : late ib = false := by rfl) (hl3 : late ic = false := by rfl) (hg : glB sc "range" = true := by rfl) (hm : ("range" : Str) ∈ B := by decide) (hs : starEach [a, b, b2] X.env = (false, eval a X.env) :: starEach [b, b2] X.env := by rfl) (hpl : (backTo pos (starEach [b, b2] X.env)).any (·.1) = false := by rfl) : PI X tg (.Call (.Name "range" p) [a, b, b2] [] pos) (tI X.g Φ (.rng [ia, ib, ic])) := by
  refine (pi_range3 (c.gl _ hg) (c.blt _ hm) ha hs hpl).mono fun σ H Rr ⟨env, d, e1, items, e2, R, ev, hl', q⟩ => ?_
  unfold evE at ev
  obtain ⟨⟨ds, e3⟩, h1, ev⟩ := Option.bind_eq_some_iff.mp ev
  obtain ⟨l, h2, ev⟩ := Option.map_eq_some_iff.mp ev
  cases ev
  cases hl'
  refine ⟨env, ds, _, R, h1, fun vs H1 R1 t1 o1 => ?_⟩
  obtain ⟨x, v, y, w, y2, w2, rfl, rfl, p1, p2, p3⟩ := opd3 o1
  obtain ⟨n, m, st, rfl, rfl, rfl, hz, rfl⟩ := rng3_of h2
  have tv := p1.else hl
  have tw := p2.else hl2
  have tz := p3.else hl3
  unfold T at tv tw tz
  subst tv tw tz
  exact ⟨n, m, st, _, rfl, hz, q _ H1 R1 t1 (dw_rng n st _ (fun i H => Iff.rfl) (fun i H x H' y => y) fun i H => Iff.rfl)⟩
/-! ### lending -/
theorem lend_rep {K : G} {it : IE} {e1 e2 : En} {d : D} {items : List D} {σ : L2.St} {H : Hp} (h : lendI it e1 d = some (items, e2)) (R : Rep K e1 σ H) : Rep K e2 σ H ∧ (∀ a, ownA e2 σ a → ownA e1 σ a) ∧ (∀ a, Src it e1 σ a → ¬ ownA e2 σ a) ∧
    (e2 = e1 ∧ (∀ e, unlend it e1 e = e) ∨ ∃ i f xs, it = .pl i ∧ sl e1 i = some (f, .list xs) ∧ (f = .own ∨ f = .par) ∧ e2 = e1.set i (some (.len, .list xs)) ∧ ∀ e, unlend it e1 e = e.set i (some (f, .list xs))) := by
  have same : e2 = e1 → (∀ e, unlend it e1 e = e) → (∀ a, Src it e1 σ a → ¬ ownA e1 σ a) → Rep K e2 σ H ∧ (∀ a, ownA e2 σ a → ownA e1 σ a) ∧ (∀ a, Src it e1 σ a → ¬ ownA e2 σ a) ∧
    (e2 = e1 ∧ (∀ e, unlend it e1 e = e) ∨ ∃ i f xs, it = .pl i ∧ sl e1 i = some (f, .list xs) ∧ (f = .own ∨ f = .par) ∧ e2 = e1.set i (some (.len, .list xs)) ∧ ∀ e, unlend it e1 e = e.set i (some (f, .list xs))) := fun e hu hs => by
    subst e
    exact ⟨R, fun _ h => h, hs, .inl ⟨rfl, hu⟩⟩
  by_cases hp : ∃ i, it = .pl i
  · obtain ⟨i, rfl⟩ := hp
    unfold lendI at h
    dsimp only at h
    cases hs : sl e1 i with
    | none => rw [hs] at h; cases h
    | some p =>
      obtain ⟨f, dd⟩ := p
      rw [hs] at h
      have lent : ∀ xs, dd = .list xs → (f = .own ∨ f = .par) → e2 = e1.set i (some (.len, .list xs)) → Rep K e2 σ H ∧ (∀ a, ownA e2 σ a → ownA e1 σ a) ∧ (∀ a, Src (.pl i) e1 σ a → ¬ ownA e2 σ a) ∧
          (e2 = e1 ∧ (∀ e, unlend (.pl i) e1 e = e) ∨ ∃ j f xs, IE.pl i = .pl j ∧ sl e1 j = some (f, .list xs) ∧ (f = .own ∨ f = .par) ∧ e2 = e1.set j (some (.len, .list xs)) ∧ ∀ e, unlend (.pl i) e1 e = e.set j (some (f, .list xs))) := fun xs hx hf he => by
        subst hx he
        have hf1 : f ≠ .imm := by rcases hf with rfl | rfl <;> decide
        have hf2 : f ≠ .ext := by rcases hf with rfl | rfl <;> decide
        have hlt := sl_lt hs
        have sub : ∀ a, ownA (e1.set i (some (.len, .list xs))) σ a → ownA e1 σ a := fun a ⟨j, g, e, h1, h2, h3⟩ => by
          by_cases hij : i = j
          · subst hij
            rw [sl_set_eq hlt] at h1
            cases h1
            rcases h2 with h2 | h2 <;> cases h2
          · rw [sl_set_ne hij] at h1
            exact ⟨j, g, e, h1, h2, h3⟩
        refine ⟨⟨by rw [List.length_set]; exact R.len, fun j g e hj => ?_, fun j l g g' e e' a hjl hj hg hl hg1 hg2 ha => ?_⟩, sub, fun a ⟨j, g, e, e3, h1, h2, h4, h5⟩ ⟨l, g2, e4, h6, h7, h8⟩ => ?_, .inr ⟨i, f, xs, rfl, hs, hf, rfl, fun e => by unfold unlend; dsimp only; rw [hs]; rcases hf with rfl | rfl <;> rfl⟩⟩
        · by_cases hij : i = j
          · subst hij
            rw [sl_set_eq hlt] at hj
            cases hj
            obtain ⟨v, e3, kv⟩ := R.ok i f _ hs
            refine ⟨v, e3, ?_⟩
            rcases hf with rfl | rfl <;> exact kv
          · rw [sl_set_ne hij] at hj
            exact R.ok j g e hj
        · have n1 : i ≠ j := by
            rintro rfl
            rw [sl_set_eq hlt] at hj; cases hj; rcases hg with hg | hg <;> cases hg
          rw [sl_set_ne n1] at hj
          by_cases n2 : i = l
          · subst n2
            exact R.apart j i g f e _ a hjl hj hg hs hf1 hf2 ha
          · rw [sl_set_ne n2] at hl
            exact R.apart j l g g' e e' a hjl hj hg hl hg1 hg2 ha
        · cases e3
          rw [hs] at h1
          cases h1
          have n1 : i ≠ l := by
            rintro rfl
            rw [sl_set_eq hlt] at h6; cases h6; rcases h7 with h7 | h7 <;> cases h7
          rw [sl_set_ne n1] at h6
          exact R.apart i l _ g2 _ e4 a n1 hs hf h6 (by rcases h7 with rfl | rfl <;> decide) (by rcases h7 with rfl | rfl <;> decide) h5 h8
      have noS : (f = .imm ∨ f = .len) → ∀ a, Src (.pl i) e1 σ a → ¬ ownA e1 σ a := fun hf a ⟨j, g, e, e3, h1, h2, h4, h5⟩ ⟨l, g2, e4, h6, h7, h8⟩ => by
        cases e3
        rw [hs] at h1
        cases h1
        rcases hf with rfl | rfl
        · exact h2 rfl
        · have n1 : l ≠ i := by
            rintro rfl
            rw [hs] at h6; cases h6; rcases h7 with h7 | h7 <;> cases h7
          exact R.apart l i g2 _ e4 _ a n1 h6 h7 hs (by decide) (by decide) h8 h5
      cases f with
      | imm =>
        obtain ⟨its, hi2, e5⟩ := Option.map_eq_some_iff.mp h
        cases e5
        exact same rfl (fun e => by unfold unlend; dsimp only; rw [hs]) (noS (.inl rfl))
      | ext => cases h
      | len =>
        cases dd with
        | list xs => cases h; exact same rfl (fun e => by unfold unlend; dsimp only; rw [hs]) (noS (.inr rfl))
        | _ => cases h
      | own =>
        cases dd with
        | list xs => cases h; exact lent _ rfl (.inl rfl) rfl
        | _ => cases h
      | par =>
        cases dd with
        | list xs => cases h; exact lent _ rfl (.inr rfl) rfl
        | _ => cases h
  · have : e2 = e1 := by
      cases it <;> first | (obtain ⟨its, hi2, e5⟩ := Option.map_eq_some_iff.mp h; cases e5; rfl) | exact absurd ⟨_, rfl⟩ hp
    exact same this (fun e => by cases it <;> first | rfl | exact absurd ⟨_, rfl⟩ hp) fun a ⟨i, _, _, e, _⟩ => absurd ⟨i, e⟩ hp
/-- .. and back -/
theorem unlend_rep {K : G} {it : IE} {e1 e2 e : En} {d : D} {items : List D} {σ σ' : L2.St} {H H' : Hp} (h : lendI it e1 d = some (items, e2)) (R1 : Rep K e1 σ H) (R : Rep K e σ' H') (t : Tr e2 σ H e σ' H') : Rep K (unlend it e1 e) σ' H' ∧ Tr e1 σ H (unlend it e1 e) σ' H' ∧ (∀ j d, sl e j = some (.own, d) → sl (unlend it e1 e) j = some (.own, d)) := by
  obtain ⟨R2, sub, src, al⟩ := lend_rep h R1
  rcases al with ⟨rfl, ul⟩ | ⟨i, f, xs, rfl, hs, hf, rfl, ul⟩
  · rw [ul]
    exact ⟨R, t, fun _ _ h => h⟩
  · rw [ul]
    have hlt := sl_lt hs
    obtain ⟨si, ei⟩ := t.len i _ (sl_set_eq hlt)
    have hlt2 := sl_lt si
    have hf1 : f ≠ .imm := by rcases hf with rfl | rfl <;> decide
    have hf2 : f ≠ .ext := by rcases hf with rfl | rfl <;> decide
    obtain ⟨ai, eai, mi, _⟩ := R1.at hs hf1 hf2
    have eai' : σ'[i]? = some (some (.ref ai)) := ei.trans eai
    -- what is lent already, at another name
    have other : ∀ j g e', j ≠ i → sl e j = some (g, e') → g ≠ .imm → g ≠ .ext → σ'[j]? ≠ some (some (.ref ai)) := fun j g e' hji hj h1 h2 hc => by
      by_cases hg : g = .own ∨ g = .par
      · exact R.apart j i g _ e' _ ai hji hj hg si (by decide) (by decide) hc eai'
      · have hgl : g = .len := by cases g <;> first | rfl | exact absurd rfl h1 | exact absurd rfl h2 | exact absurd (.inl rfl) hg | exact absurd (.inr rfl) hg
        subst hgl
        have hj2 := t.lnb j e' hj
        obtain ⟨_, ej⟩ := t.len j e' hj2
        rw [sl_set_ne (Ne.symm hji)] at hj2
        exact R1.apart i j f _ _ e' ai (Ne.symm hji) hs hf hj2 (by decide) (by decide) eai (ej ▸ hc)
    refine ⟨⟨by rw [List.length_set]; exact R.len, fun j g e' hj => ?_, fun j l g g' e' e'' a hjl hj hg hl hg1 hg2 ha => ?_⟩, ⟨fun b o hb nb => t.frm b o hb fun q => nb (sub b q), t.per, t.dom, fun b hb => ?_, fun j e' hj => ?_, fun j e' hj => ?_, fun j e' hj => ?_⟩, fun j d' hj => ?_⟩
    · by_cases hij : i = j
      · subst hij
        rw [sl_set_eq hlt2] at hj
        cases hj
        obtain ⟨v, e3, kv⟩ := R.ok i _ _ si
        refine ⟨v, e3, ?_⟩
        rcases hf with rfl | rfl <;> exact kv
      · rw [sl_set_ne hij] at hj
        exact R.ok j g e' hj
    · by_cases n1 : i = j
      · subst n1
        rw [sl_set_ne hjl] at hl
        rw [eai'] at ha
        cases ha
        exact other l g' e'' (Ne.symm hjl) hl hg1 hg2
      · rw [sl_set_ne n1] at hj
        by_cases n2 : i = l
        · subst n2
          rw [eai']
          intro hc
          cases hc
          exact other j g e' hjl hj (by rcases hg with rfl | rfl <;> decide) (by rcases hg with rfl | rfl <;> decide) ha
        · rw [sl_set_ne n2] at hl
          exact R.apart j l g g' e' e'' a hjl hj hg hl hg1 hg2 ha
    · obtain ⟨j, g, e', h1, h2, h3⟩ := hb
      by_cases n1 : i = j
      · subst n1
        rw [eai'] at h3
        cases h3
        exact .inl ⟨i, f, _, hs, hf, eai⟩
      · rw [sl_set_ne n1] at h1
        exact (t.own b ⟨j, g, e', h1, h2, h3⟩).imp (sub b) id
    · have n1 : i ≠ j := by
        rintro rfl
        rw [hs] at hj; cases hj; rcases hf with hf | hf <;> cases hf
      rw [sl_set_ne n1]
      exact t.len j e' (by rw [sl_set_ne n1]; exact hj)
    · by_cases n1 : i = j
      · subst n1
        rw [hs] at hj
        cases hj
        exact ⟨_, sl_set_eq hlt2, ei⟩
      · rw [sl_set_ne n1]
        exact t.par j e' (by rw [sl_set_ne n1]; exact hj)
    · by_cases n1 : i = j
      · subst n1
        rw [sl_set_eq hlt2] at hj
        cases hj
        rcases hf with hf | hf <;> cases hf
      · rw [sl_set_ne n1] at hj
        have := t.lnb j e' hj
        rw [sl_set_ne n1] at this
        exact this
    · have n1 : i ≠ j := by
        rintro rfl
        rw [si] at hj; cases hj
      rw [sl_set_ne n1]
      exact hj
theorem src_keep {K : G} {it : IE} {e1 e2 e : En} {d : D} {items : List D} {σ σ' : L2.St} {H H' : Hp} (h : lendI it e1 d = some (items, e2)) (R1 : Rep K e1 σ H) (t : Tr e2 σ H e σ' H') : ∀ a o, Src it e1 σ a → H a = some o → H' a = some o :=
  fun a o hs ho => t.frm a o ho ((lend_rep h R1).2.2.1 a hs)
/-- the ends of a loop -/
theorem out_for {K : G} {it : IE} {e1 e2 : En} {d : D} {items : List D} {σ : L2.St} {H : Hp} {E : Ends} {o : Out} (h : lendI it e1 d = some (items, e2)) (R1 : Rep K e1 σ H) (q : OutOk K e1 σ H E (outI it e1 o)) (nb : ∀ e, o ≠ .bk e ∧ o ≠ .ct e) :
    OutOk K e2 σ H E o := by
  cases o with
  | nx e => exact fun σ' H' R' t' => let ⟨a, b, _⟩ := unlend_rep h R1 R' t'; q σ' H' a b
  | bk e => exact absurd rfl (nb e).1
  | ct e => exact absurd rfl (nb e).2
  | rt r e =>
    intro v σ' H' R' t' rs
    obtain ⟨a, b, c⟩ := unlend_rep h R1 R' t'
    refine q v σ' H' a b ?_
    unfold RtOk at rs ⊢
    by_cases hr : r.1 = true
    · rw [if_pos hr] at rs ⊢
      obtain ⟨p, e1, m, z⟩ := rs
      exact ⟨p, e1, m, z.imp id fun ⟨i, d, h1, h2⟩ => ⟨i, d, c i d h1, h2⟩⟩
    · rw [if_neg hr] at rs ⊢; exact rs
theorem forL_nb {f : D → En → Option Out} : ∀ {ds : List D} {e : En} {o : Out}, forL f ds e = some o → ∀ e', o ≠ .bk e' ∧ o ≠ .ct e'
  | [], e, o, h, e' => by cases h; exact ⟨nofun, nofun⟩
  | d :: ds, e, o, h, e' => by
    unfold forL at h
    obtain ⟨o1, _, h2⟩ := Option.bind_eq_some_iff.mp h
    cases o1 with
    | nx e1 => exact forL_nb h2 e'
    | ct e1 => exact forL_nb h2 e'
    | bk e1 => cases h2; exact ⟨nofun, nofun⟩
    | rt r e1 => cases h2; exact ⟨nofun, nofun⟩
theorem s_for (cx : Ct N sc k B X) {tge iter : Expr} {b : List Stmt} {t : Tg} {it : IE} {ib : List IS} (hi : PI X tge iter (tI X.g Φ it)) (hg : PG X tge (gT X.g t)) (hb : PSs X b (tSs X.g Φ ib)) (hs : ∀ x, foldedSetIterable iter X.env x = pure x := by intro _; rfl) :
    PS X (.For tge iter b [] pos) (tS X.g Φ (.forS t it ib)) :=
  (ps_for cx.own cx.calm hi hg hb hs).mono fun E σ H ⟨env, o, R, ev, q⟩ => by
    unfold evS at ev
    obtain ⟨⟨d, e1⟩, h1, ev⟩ := Option.bind_eq_some_iff.mp ev
    obtain ⟨⟨items, e2⟩, h2, ev⟩ := Option.bind_eq_some_iff.mp ev
    obtain ⟨o1, h3, h4⟩ := Option.map_eq_some_iff.mp ev
    subst h4
    refine ⟨env, d, e1, items, e2, R, h1, h2, fun J H1 R1 t1 dw => ?_⟩
    have nb := forL_nb h3
    have q2 := out_for h2 R1 (q.back t1) nb
    have R2 := (lend_rep h2 R1).1
    refine ⟨fun i m σ' H' => ∃ e, Rep X.g e σ' H' ∧ Tr e2 σ H1 e σ' H' ∧ forL (fun d e => (bindT t d e).bind fun e1 => evSs Φ ib e1) (items.drop i) e = some o1 ∧ m = items.length - i, ⟨_, e2, R2, Tr.refl, h3, rfl⟩, ?_⟩
    rintro i m σ' H' ⟨e, R', t', hf, rfl⟩
    have keep := src_keep h2 R1 t'
    by_cases hi : i < items.length
    · rw [List.drop_eq_getElem_cons hi] at hf
      unfold forL at hf
      obtain ⟨o2, h5, h6⟩ := Option.bind_eq_some_iff.mp hf
      obtain ⟨e3, h7, h8⟩ := Option.bind_eq_some_iff.mp h5
      refine .inr ⟨dw.go H' i t'.per keep hi, fun σ2 H2 => ∃ e, Rep X.g e σ2 H2 ∧ Tr e2 σ H1 e σ2 H2 ∧ forL (fun d e => (bindT t d e).bind fun e1 => evSs Φ ib e1) (items.drop (i + 1)) e = some o1,
        fun σ2 H2 ⟨e, a, b, c⟩ => ⟨_, (by omega : items.length - (i + 1) < items.length - i), e, a, b, c, rfl⟩, fun x H2 y => ?_⟩
      obtain ⟨rfl, dd, h9, td⟩ := dw.yld H' i x H2 t'.per keep y hi
      rw [List.getElem?_eq_getElem hi] at h9
      cases h9
      refine ⟨e, items[i], e3, R', td, h7, fun σ3 R3 t3 _ _ => ⟨e3, o2, R3, h8, ?_⟩⟩
      cases o2 with
      | nx e4 => exact fun σ4 H4 R4 t4 => ⟨e4, R4, (t'.trans t3).trans t4, h6⟩
      | ct e4 => exact fun σ4 H4 R4 t4 => ⟨e4, R4, (t'.trans t3).trans t4, h6⟩
      | bk e4 => cases h6; exact fun σ4 H4 R4 t4 => q2 σ4 H4 R4 ((t'.trans t3).trans t4)
      | rt r e4 => cases h6; exact fun v σ4 H4 R4 t4 rs => q2 v σ4 H4 R4 ((t'.trans t3).trans t4) (rs.back (t'.trans t3))
    · rw [List.drop_eq_nil_of_le (by omega)] at hf
      cases hf
      exact .inl ⟨dw.stop H' i t'.per keep (by omega), q2 σ' H' R' t'⟩
end
end Dv
namespace Dv
open PySem PySem.Spec L2

/-! ### a comprehension's block -/
def blkB (N : List Str) (sc scope : Scope) (own : List (Str × Nat)) : Bool :=
  decide (scope.kind = .function) && scope.names.all (fun y => decide (scope.names.lookup y.1 = some y.2)) && own.all (fun p => decide (N[p.2]? = some p.1)) &&
  scope.names.all (fun y => !decide (y.2 = .free) || decide (sc.names.lookup y.1 = some .cell) || decide (sc.names.lookup y.1 = some .free)) &&
  scope.names.all (fun y => !(decide (y.2 = .local) || decide (y.2 = .cell)) || decide (y.1 ∈ own.map (·.1)) || !decide (y.1 ∈ N))
section
variable {N : List Str} {sc : Scope} {k : Nat} {B : List Str} {X : Cx} {Φ : Nat → Fn} {pos : Pos}
theorem blk_of (c : Ct N sc k B X) {scope : Scope} {own : List (Str × Nat)} (h : blkB N sc scope own = true) : BlkOk X.N X.env.scope scope own := by
  unfold blkB at h
  simp only [Bool.and_eq_true, Bool.or_eq_true, Bool.not_eq_true', decide_eq_true_eq, List.all_eq_true, decide_eq_false_iff_not] at h
  obtain ⟨⟨⟨⟨h1, h2⟩, h3⟩, h4⟩, h5⟩ := h
  refine ⟨h1, h2, fun p hp => by rw [c.hN]; exact h3 p hp, fun y hy e => c.fre _ ?_, fun y hy e => ?_⟩
  · rcases h4 y hy with (z | z) | z
    · exact absurd e z
    · exact .inl z
    · exact .inr z
  · rw [c.hN]
    rcases h5 y hy with (z | z) | z
    · rcases e with e | e <;> simp [e] at z
    · exact .inl z
    · exact .inr z
theorem lookup_free {sc : Scope} : ∀ {names : List (Str × NameKind)} {x : Str}, names.lookup x = some .free →
    (names.map fun (n, k) => if (k == NameKind.free && sc.kind == .function && sc.names.lookup n == some .cell) then (n, NameKind.cell) else (n, k)).lookup x = some .cell ∨
    (names.map fun (n, k) => if (k == NameKind.free && sc.kind == .function && sc.names.lookup n == some .cell) then (n, NameKind.cell) else (n, k)).lookup x = some .free
  | [], x, h => by simp at h
  | (n, k) :: r, x, h => by
    have ih := @lookup_free sc r x
    rw [List.map_cons]
    by_cases hc : (k == NameKind.free && sc.kind == .function && sc.names.lookup n == some .cell) = true
    · simp only [hc, if_true]
      cases hx : x == n with
      | true => exact .inl (by rw [List.lookup_cons, hx])
      | false =>
        simp only [List.lookup_cons, hx] at h ⊢
        exact ih h
    · show List.lookup x ((if (k == NameKind.free && sc.kind == .function && sc.names.lookup n == some .cell) = true then (n, NameKind.cell) else (n, k)) :: _) = _ ∨ List.lookup x ((if (k == NameKind.free && sc.kind == .function && sc.names.lookup n == some .cell) = true then (n, NameKind.cell) else (n, k)) :: _) = _
      rw [if_neg hc]
      cases hx : x == n with
      | true =>
        simp only [List.lookup_cons, hx] at h ⊢
        cases h
        exact .inr rfl
      | false =>
        simp only [List.lookup_cons, hx] at h ⊢
        exact ih h
theorem Ct.blk (c : Ct N sc k B X) (s : Shared) (H : Hp) (scope : Scope) (C : Addr) (cl : List (Str × Addr)) (fp : List Addr) : Ct N scope k B (X.blk s H scope (compEnvC scope cl C X.env) fp) where
  hN := c.hN
  nd := c.nd
  calm := c.calm
  vis := fun x h => by
    unfold visB at h
    show Vis (relS scope X.env.scope) x
    split at h
    · rename_i e; exact .inl (lookup_relS_keep (by decide) e)
    · rename_i e; exact .inr (.inl (lookup_relS_keep (by decide) e))
    · rename_i e
      rcases lookup_free (sc := X.env.scope) e with z | z
      · exact .inr (.inl z)
      · exact .inr (.inr z)
    · cases h
  loc := fun x h => by
    unfold locB at h
    split at h
    · rename_i e; exact ⟨.inl (lookup_relS_keep (by decide) e), .inr (lookup_relS_keep (by decide) e)⟩
    · rename_i e
      refine ⟨.inr (lookup_relS_keep (by decide) e), .inl ?_⟩
      show (scope.names.lookup x == some .cell) = true
      rw [e]; rfl
    · cases h
  lcl := fun x e => lookup_relS_keep (by decide) e
  fre := fun x e => by
    rcases e with e | e
    · exact .inl (lookup_relS_keep (by decide) e)
    · exact lookup_free (sc := X.env.scope) e
  gl := fun x h => by
    unfold glB at h
    split at h
    · rename_i e; exact lookup_relS_keep (by decide) e
    · cases h
  room := c.room
  units := c.units
  blt := c.blt
  own := PassesOwn.never
/-! ### tests of a clause -/
def tIfs (K : G) (Φ : Nat → Fn) (is : List IE) : TT := fun σ H Q => ∃ env b env', Rep K env σ H ∧ evIfs Φ is env = some (b, env') ∧ ∀ H', Rep K env' σ H' → Tr env σ H env' σ H' → Q b H'
theorem _root_.L2.PTs.mono {X : Cx} {e : List Expr} {t u : TT} (h : PTs X e t) (m : ∀ σ H Q, u σ H Q → t σ H Q) : PTs X e u := ⟨fun pins s σ H Q I q => h.run pins s σ H Q I (m σ H Q q)⟩
theorem if_nil : PTs X [] (tIfs X.g Φ []) := pts_nil.mono fun σ H Q ⟨env, b, env', R, ev, q⟩ => by
  cases ev
  exact q H R Tr.refl
theorem if_one {e : Expr} {ir : IE} (h : PT X e (tT X.g Φ ir)) : PTs X [e] (tIfs X.g Φ [ir]) := (pts_one h).mono fun σ H Q ⟨env, b, env', R, ev, q⟩ => by
  unfold evIfs at ev
  obtain ⟨⟨d, e1⟩, h1, ev⟩ := Option.bind_eq_some_iff.mp ev
  cases d with
  | bool b' =>
    refine ⟨env, b', e1, R, h1, fun H1 R1 t1 => ?_⟩
    cases b' with
    | true => cases ev; exact q H1 R1 t1
    | false => cases ev; exact q H1 R1 t1
  | _ => cases ev
end
/-! ### names of the block, forgotten -/
section
variable {K : G} {env e e1 e2 : En} {σ σ' σ2 : L2.St} {H H' : Hp} {own : List Nat}
theorem wipeF_len : ∀ {own : List Nat} {e : En}, (wipeF own e).length = e.length
  | [], _ => rfl
  | i :: r, e => by
    show ((wipeF r e).set i none).length = _
    rw [List.length_set, wipeF_len]
theorem wipeF_in : ∀ {own : List Nat} {e : En} {j : Nat}, j ∈ own → sl (wipeF own e) j = none
  | i :: r, e, j, h => by
    show sl ((wipeF r e).set i none) j = none
    by_cases hij : i = j
    · subst hij
      unfold sl
      by_cases hl : i < (wipeF r e).length
      · rw [List.getElem?_set_self hl]; rfl
      · rw [List.getElem?_eq_none (by simpa using hl)]; rfl
    · rw [sl_set_ne hij]
      rcases List.mem_cons.mp h with h | h
      · exact absurd h.symm hij
      · exact wipeF_in h
theorem wipeF_out : ∀ {own : List Nat} {e : En} {j : Nat}, j ∉ own → sl (wipeF own e) j = sl e j
  | [], _, _, _ => rfl
  | i :: r, e, j, h => by
    show sl ((wipeF r e).set i none) j = _
    rw [sl_set_ne (fun z => h (by simp [z])), wipeF_out fun z => h (by simp [z])]
theorem wipeF_some {j : Nat} {p : Fl × D} (h : sl (wipeF own e) j = some p) : j ∉ own ∧ sl e j = some p := by
  by_cases hj : j ∈ own
  · rw [wipeF_in hj] at h; cases h
  · rw [wipeF_out hj] at h; exact ⟨hj, h⟩
theorem wipe_out : ∀ {own : List Nat} {σ : L2.St} {j : Nat}, j ∉ own → (wipe σ own)[j]? = σ[j]?
  | [], _, _, _ => rfl
  | i :: r, σ, j, h => by
    unfold wipe
    rw [List.getElem?_set_ne (fun z => h (by simp [z])), wipe_out fun z => h (by simp [z])]
theorem unwipe_len : ∀ {own : List Nat}, (unwipe own env e).length = e.length
  | [] => rfl
  | i :: r => by
    show ((unwipe r env e).set i (sl env i)).length = _
    rw [List.length_set, unwipe_len]
theorem unwipe_out : ∀ {own : List Nat} {j : Nat}, j ∉ own → sl (unwipe own env e) j = sl e j
  | [], _, _ => rfl
  | i :: r, j, h => by
    show sl ((unwipe r env e).set i (sl env i)) j = _
    rw [sl_set_ne (fun z => h (by simp [z])), unwipe_out fun z => h (by simp [z])]
theorem unwipe_in : ∀ {own : List Nat} {j : Nat}, j ∈ own → j < e.length → sl (unwipe own env e) j = sl env j
  | i :: r, j, h, hl => by
    show sl ((unwipe r env e).set i (sl env i)) j = _
    by_cases hij : i = j
    · subst hij
      rw [sl_set_eq (by rw [unwipe_len]; exact hl)]
    · rw [sl_set_ne hij]
      rcases List.mem_cons.mp h with h | h
      · exact absurd h.symm hij
      · exact unwipe_in h hl
theorem rep_wipe (R : Rep K e σ H) : Rep K (wipeF own e) (wipe σ own) H := by
  refine ⟨by rw [wipeF_len, wipe_length]; exact R.len, fun j f d hj => ?_, fun i j f g d e' a hij hi hf hj hg hx ha => ?_⟩
  · obtain ⟨n, h⟩ := wipeF_some hj
    rw [wipe_out n]
    exact R.ok j f d h
  · obtain ⟨n1, h1⟩ := wipeF_some hi
    obtain ⟨n2, h2⟩ := wipeF_some hj
    rw [wipe_out n1] at ha
    rw [wipe_out n2]
    exact R.apart i j f g d e' a hij h1 hf h2 hg hx ha
theorem ownA_wipe {a : Addr} (h : ownA (wipeF own e) (wipe σ own) a) : ownA e σ a := by
  obtain ⟨j, f, d, h1, h2, h3⟩ := h
  obtain ⟨n, h1⟩ := wipeF_some h1
  rw [wipe_out n] at h3
  exact ⟨j, f, d, h1, h2, h3⟩
/-- a turn ends -/
theorem tr_wipe {s0 : En} {σw : L2.St} (t : Tr s0 σw H e σ2 H') (h0 : ∀ j ∈ own, sl s0 j = none) (hw : wipe σ2 own = σw) : Tr s0 σw H (wipeF own e) σw H' where
  frm := t.frm
  per := t.per
  dom := t.dom
  own := fun a ha => by
    rw [← hw] at ha
    exact t.own a (ownA_wipe ha)
  len := fun j d hj => by
    have n : j ∉ own := fun z => by rw [h0 j z] at hj; cases hj
    rw [wipeF_out n]
    exact ⟨(t.len j d hj).1, rfl⟩
  par := fun j d hj => by
    have n : j ∉ own := fun z => by rw [h0 j z] at hj; cases hj
    rw [wipeF_out n]
    obtain ⟨d', h1, _⟩ := t.par j d hj
    exact ⟨d', h1, rfl⟩
  lnb := fun j d hj => t.lnb j d (wipeF_some hj).2
theorem NotIn.step {a : Addr} {o : HO} (n : NotIn e σ a) (ha : H a = some o) (t : Tr e σ H e1 σ' H') : NotIn e1 σ' a := fun j g d hj h1 h2 hs => by
  by_cases hg : g = .own ∨ g = .par
  · rcases t.own a ⟨j, g, d, hj, hg, hs⟩ with ⟨i, f, d', q1, q2, q3⟩ | z
    · exact n i f d' q1 (by rcases q2 with rfl | rfl <;> decide) (by rcases q2 with rfl | rfl <;> decide) q3
    · rw [ha] at z; cases z
  · have hgl : g = .len := by cases g <;> first | rfl | exact absurd rfl h1 | exact absurd rfl h2 | exact absurd (.inl rfl) hg | exact absurd (.inr rfl) hg
    subst hgl
    have hj2 := t.lnb j d hj
    obtain ⟨_, ej⟩ := t.len j d hj2
    exact n j .len d hj2 (by decide) (by decide) (ej ▸ hs)
theorem NotIn.not {a : Addr} (n : NotIn e σ a) : ¬ ownA e σ a := fun ⟨i, f, d, q1, q2, q3⟩ => n i f d q1 (by rcases q2 with rfl | rfl <;> decide) (by rcases q2 with rfl | rfl <;> decide) q3
theorem NotIn.wipe {a : Addr} (n : NotIn e σ a) : NotIn (wipeF own e) (L2.wipe σ own) a := fun j g d hj h1 h2 hs => by
  obtain ⟨nj, hj⟩ := wipeF_some hj
  rw [wipe_out nj] at hs
  exact n j g d hj h1 h2 hs
/-- the object at a changes, which is no slot's -/
theorem Rep.aside {a : Addr} {o u : HO} (R : Rep K e σ H) (n : NotIn e σ a) (hu : H a = some u) (nu : ¬ ImmO u) : Rep K e σ (upd H a o) :=
  R.heap (per_upd hu nu) fun i f d b o' h1 h2 h3 h4 h5 => by
    rw [upd_ne]
    · exact h5
    · rintro rfl
      exact n i f d h1 h2 h3 h4
/-- .. a run at whose start that object was not yet there -/
theorem Tr.aside {a : Addr} {o : HO} (t : Tr e σ H e1 σ' H') (n : H a = none) : Tr e σ H e1 σ' (upd H' a o) where
  frm := fun b x h nb => by rw [upd_ne (ne_of_none h n)]; exact t.frm b x h nb
  per := fun b x h i => by rw [upd_ne (ne_of_none h n)]; exact t.per b x h i
  dom := fun b x h => by rw [upd_ne (ne_of_none h n)]; exact t.dom b x h
  own := t.own
  len := t.len
  par := t.par
  lnb := t.lnb
theorem wipe_same (h : σ2.length = σ.length) (hs : ∀ j, j ∉ own → σ2[j]? = σ[j]?) : wipe σ2 own = wipe σ own := by
  have aux : ∀ (σ : L2.St) (j : Nat), j ∈ own → (wipe σ own)[j]? = if j < σ.length then some none else none := by
    clear h hs
    intro σ j
    induction own with
    | nil => intro h; simp at h
    | cons i r ih =>
      intro h
      unfold wipe
      by_cases hij : i = j
      · subst hij
        by_cases hl : i < σ.length
        · rw [List.getElem?_set_self (by rw [wipe_length]; exact hl), if_pos hl]
        · rw [List.getElem?_eq_none (by simpa [wipe_length] using hl), if_neg hl]
      · rw [List.getElem?_set_ne hij]
        rcases List.mem_cons.mp h with h | h
        · exact absurd h.symm hij
        · exact ih h
  apply List.ext_getElem?
  intro j
  by_cases hj : j ∈ own
  · rw [aux _ _ hj, aux _ _ hj, h]
  · rw [wipe_out hj, wipe_out hj, hs j hj]
theorem wipe_wipe : wipe (wipe σ own) own = wipe σ own := wipe_same (by rw [wipe_length]) fun j hj => wipe_out hj
theorem wipeOk_of (h : wipeOk own e = true) {j : Nat} (hj : j ∈ own) : sl e j = none ∨ ∃ d, sl e j = some (.imm, d) := by
  have := List.all_eq_true.mp h j hj
  split at this
  · rename_i q; exact .inl q
  · rename_i d q; exact .inr ⟨d, q⟩
  · cases this
/-- behind the loop: the names that the block had hidden -/
theorem rep_unwipe {s0 : En} (R2 : Rep K e2 σ H) (ok : wipeOk own e2 = true) (R : Rep K e (wipe σ own) H') (t : Tr (wipeF own e2) (wipe σ own) H e (wipe σ own) H') : Rep K (unwipe own e2 e) σ H' ∧ Tr e2 σ H (unwipe own e2 e) σ H' := by
  have hlen : e.length = σ.length := by rw [R.len, wipe_length]
  have back : ∀ {j p}, sl (unwipe own e2 e) j = some p → (j ∈ own ∧ ∃ d, p = (.imm, d) ∧ sl e2 j = some (.imm, d)) ∨ (j ∉ own ∧ sl e j = some p) := fun {j p} h => by
    by_cases hj : j ∈ own
    · have hl : j < e.length := by have := sl_lt h; rw [unwipe_len] at this; exact this
      rw [unwipe_in hj hl] at h
      rcases wipeOk_of ok hj with z | ⟨d, z⟩
      · rw [z] at h; cases h
      · rw [z] at h; cases h; exact .inl ⟨hj, d, rfl, z⟩
    · rw [unwipe_out hj] at h; exact .inr ⟨hj, h⟩
  refine ⟨⟨by rw [unwipe_len]; exact hlen, fun j f d hj => ?_, fun i j f g d e' a hij hi hf hj hg hx ha => ?_⟩, ⟨fun b o hb nb => t.frm b o hb fun q => nb (ownA_wipe q), t.per, t.dom, fun b hb => ?_, fun j d hj => ?_, fun j d hj => ?_, fun j d hj => ?_⟩⟩
  · rcases back hj with ⟨h1, d', h2, h3⟩ | ⟨h1, h2⟩
    · cases h2
      obtain ⟨v, ev, kv⟩ := R2.ok j _ _ h3
      exact ⟨v, ev, T.mono t.per _ _ kv⟩
    · obtain ⟨v, ev, kv⟩ := R.ok j _ _ h2
      rw [wipe_out h1] at ev
      exact ⟨v, ev, kv⟩
  · rcases back hi with ⟨h1, d', h2, h3⟩ | ⟨h1, h2⟩
    · cases h2; rcases hf with hf | hf <;> cases hf
    · rcases back hj with ⟨g1, d', g2, g3⟩ | ⟨g1, g2⟩
      · cases g2; exact absurd rfl hg
      · have := R.apart i j f g d e' a hij h2 hf g2 hg hx (by rw [wipe_out h1]; exact ha)
        rw [wipe_out g1] at this
        exact this
  · obtain ⟨j, f, d, h1, h2, h3⟩ := hb
    rcases back h1 with ⟨g1, d', g2, g3⟩ | ⟨g1, g2⟩
    · cases g2; rcases h2 with h2 | h2 <;> cases h2
    · rcases t.own b ⟨j, f, d, g2, h2, by rw [wipe_out g1]; exact h3⟩ with z | z
      · exact .inl (ownA_wipe z)
      · exact .inr z
  · have n : j ∉ own := fun z => by
      rcases wipeOk_of ok z with q | ⟨d', q⟩ <;> rw [q] at hj <;> cases hj
    rw [unwipe_out n]
    exact ⟨(t.len j d (by rw [wipeF_out n]; exact hj)).1, rfl⟩
  · have n : j ∉ own := fun z => by
      rcases wipeOk_of ok z with q | ⟨d', q⟩ <;> rw [q] at hj <;> cases hj
    rw [unwipe_out n]
    obtain ⟨d', h1, _⟩ := t.par j d (by rw [wipeF_out n]; exact hj)
    exact ⟨d', h1, rfl⟩
  · rcases back hj with ⟨g1, d', g2, g3⟩ | ⟨g1, g2⟩
    · cases g2
    · exact (wipeF_some (t.lnb j d g2)).2
theorem NotIn.unwipe {a : Addr} (n : NotIn e (L2.wipe σ own) a) (hl : e.length = σ.length) (ok : wipeOk own e2 = true) : NotIn (Dv.unwipe own e2 e) σ a := fun j g d hj h1 h2 hs => by
  by_cases hjo : j ∈ own
  · have hl : j < e.length := by have := sl_lt hj; rw [unwipe_len] at this; exact this
    rw [unwipe_in hjo hl] at hj
    rcases wipeOk_of ok hjo with z | ⟨d, z⟩
    · rw [z] at hj; cases hj
    · rw [z] at hj; cases hj; exact h1 rfl
  · rw [unwipe_out hjo] at hj
    exact n j g d hj h1 h2 (by rw [wipe_out hjo]; exact hs)
theorem NotIn.unlend {it : IE} {a : Addr} {d : D} {items : List D} (h : lendI it e1 d = some (items, e2)) (R1 : Rep K e1 σ H) (t : Tr e2 σ H e σ' H') (n : NotIn e σ' a) : NotIn (Dv.unlend it e1 e) σ' a := by
  obtain ⟨R2, sub, src, al⟩ := lend_rep h R1
  rcases al with ⟨rfl, ul⟩ | ⟨i, f, xs, rfl, hs, hf, rfl, ul⟩
  · rw [ul]; exact n
  · rw [ul]
    intro j g d hj h1 h2 h3
    obtain ⟨si, ei⟩ := t.len i _ (sl_set_eq (sl_lt hs))
    by_cases hij : i = j
    · subst hij
      exact n i .len _ si (by decide) (by decide) h3
    · rw [sl_set_ne hij] at hj
      exact n j g d hj h1 h2 h3
end
section
variable {N : List Str} {sc : Scope} {k : Nat} {B : List Str} {X : Cx} {Φ : Nat → Fn} {pos : Pos}
/-- [elt for target in iter if ..] -/
theorem lc_o {X : Cx} {t : Tg} {it elt : IE} {ifs : List IE} {own : List Nat} (hsub : (tgS t).all (fun j => own.contains j) = true) {σ : L2.St} {H : Hp} {Q : VK} (h : tF X.g Φ (.lc elt t it ifs own) σ H Q) :
    tLc (tI X.g Φ it) (gT X.g t) (tIfs X.g Φ ifs) (tE X.g Φ elt) own σ H Q := by
  obtain ⟨env, d, env', R, ev, q⟩ := h
  change (evE Φ it env).bind _ = _ at ev
  obtain ⟨⟨di, e1⟩, h1, ev⟩ := Option.bind_eq_some_iff.mp ev
  obtain ⟨⟨items, e2⟩, h2, ev⟩ := Option.bind_eq_some_iff.mp ev
  split at ev
  · rename_i hok
    rw [Bool.and_eq_true] at hok
    obtain ⟨⟨rs, e3⟩, h3, ev⟩ := Option.map_eq_some_iff.mp ev
    cases ev
    refine ⟨env, di, e1, items, e2, R, h1, h2, fun J H1 R1 t1 dw D hD => ?_⟩
    have R2 := (lend_rep h2 R1).1
    have hz : items.length ≤ sizeLine := szOk_le hok.2
    have hs0 : ∀ j ∈ own, sl (wipeF own e2) j = none := fun j hj => wipeF_in hj
    have nD : NotIn (wipeF own e2) (wipe σ own) D := (R2.notIn hD).wipe
    refine ⟨fun i m H' => ∃ e acc dn rest, Rep X.g e (wipe σ own) H' ∧ Tr (wipeF own e2) (wipe σ own) H1 e (wipe σ own) H' ∧ NotIn e (wipe σ own) D ∧ H' D = some (.lst acc) ∧ TA X.g H' dn acc ∧ acc.length ≤ i ∧
      lcL (fun d e => (bindT t d e).bind fun e1 => (evIfs Φ ifs e1).bind fun b => if b.1 = true then (evE Φ elt b.2).map fun y => (some y.1, y.2) else some (none, b.2)) own (items.drop i) e = some (rest, e3) ∧ dn ++ rest = rs ∧ m = items.length - i,
      ⟨_, wipeF own e2, [], [], rs, (rep_wipe R2).new hD, Tr.new hD, nD, upd_same, .nil, Nat.zero_le _, h3, rfl, rfl⟩, ?_⟩
    rintro i m H' ⟨e, acc, dn, rest, R', t', nD', hD', ta, hacc, hl, hdr, rfl⟩
    have keep : ∀ a o, Src it e1 σ a → H1 a = some o → H' a = some o := fun a o hs ho => t'.frm a o ho fun z => (lend_rep h2 R1).2.2.1 a hs (ownA_wipe z)
    by_cases hi : i < items.length
    · rw [List.drop_eq_getElem_cons hi] at hl
      unfold lcL at hl
      obtain ⟨⟨oy, e6⟩, h4, h5⟩ := Option.bind_eq_some_iff.mp hl
      obtain ⟨⟨rest2, e7⟩, h6, h7⟩ := Option.map_eq_some_iff.mp h5
      obtain ⟨e4, h8, h9⟩ := Option.bind_eq_some_iff.mp h4
      obtain ⟨⟨bv, e5⟩, h10, h11⟩ := Option.bind_eq_some_iff.mp h9
      have h7' : oy.toList ++ rest2 = rest ∧ e7 = e3 := ⟨congrArg Prod.fst h7, congrArg Prod.snd h7⟩
      obtain ⟨h7a, h7b⟩ := h7'
      subst h7b
      refine .inr ⟨dw.go H' i t'.per keep hi, fun H' => ∃ e acc dn, Rep X.g e (wipe σ own) H' ∧ Tr (wipeF own e2) (wipe σ own) H1 e (wipe σ own) H' ∧ NotIn e (wipe σ own) D ∧ H' D = some (.lst acc) ∧ TA X.g H' dn acc ∧ acc.length ≤ i + 1 ∧
        lcL (fun d e => (bindT t d e).bind fun e1 => (evIfs Φ ifs e1).bind fun b => if b.1 = true then (evE Φ elt b.2).map fun y => (some y.1, y.2) else some (none, b.2)) own (items.drop (i + 1)) e = some (rest2, e7) ∧ dn ++ rest2 = rs,
        fun H' ⟨e, acc, dn, a1, a2, a3, a4, a5, a6, a7, a8⟩ => ⟨_, (by omega : items.length - (i + 1) < items.length - i), e, acc, dn, rest2, a1, a2, a3, a4, a5, a6, a7, a8, rfl⟩, fun x H2 y => ?_⟩
      obtain ⟨rfl, dd, g1, td⟩ := dw.yld H' i x H2 t'.per keep y hi
      rw [List.getElem?_eq_getElem hi] at g1
      cases g1
      refine ⟨e, items[i], e4, R', td, h8, fun σ3 R3 t3 l3 s3 => ⟨?_, ?_⟩⟩
      · have hw : wipe σ3 own = wipe (wipe σ own) own := wipe_same l3 fun j hj => s3 j fun z => hj (by
          have := List.all_eq_true.mp hsub j z
          simpa using this)
        rw [hw, wipe_wipe]
      · have hw : wipe σ3 own = wipe σ own := by
          have hw : wipe σ3 own = wipe (wipe σ own) own := wipe_same l3 fun j hj => s3 j fun z => hj (by
            have := List.all_eq_true.mp hsub j z
            simpa using this)
          rw [hw, wipe_wipe]
        have n3 := nD'.step hD' t3
        refine ⟨e4, bv, e5, R3, h10, fun H4 R4 t4 => ?_⟩
        have d4 : H4 D = some (.lst acc) := t4.frm D _ hD' n3.not
        have n4 := n3.step hD' t4
        cases bv with
        | false =>
          simp only [Bool.false_eq_true, if_false]
          rw [if_neg (by intro hh; cases hh)] at h11
          cases h11
          refine ⟨wipeF own e5, acc, dn, ?_, tr_wipe ((t'.trans t3).trans t4) hs0 hw, ?_, d4, TA.mono t4.per _ _ ta, by omega, h6, by rw [hdr.symm, ← h7a]; rfl⟩
          · rw [← hw]; exact rep_wipe R4
          · rw [← hw]; exact n4.wipe
        | true =>
          simp only [if_true]
          rw [if_pos rfl] at h11
          obtain ⟨⟨dy, e8⟩, h12, h13⟩ := Option.map_eq_some_iff.mp h11
          cases h13
          refine ⟨e5, dy, e8, R4, h12, fun yv H5 R5 t5 ty => ?_⟩
          have d5 : H5 D = some (.lst acc) := t5.frm D _ d4 n4.not
          have n5 := n4.step d4 t5
          refine ⟨acc, d5, by omega, wipeF own e8, acc ++ [yv], dn ++ [dy], ?_, ?_, ?_, upd_same, ?_, by rw [List.length_append, List.length_singleton]; omega, h6, by rw [hdr.symm, ← h7a, List.append_assoc]; rfl⟩
          · rw [← hw]; exact rep_wipe (R5.aside n5 d5 id)
          · exact tr_wipe ((((t'.trans t3).trans t4).trans t5).aside hD) hs0 hw
          · rw [← hw]; exact n5.wipe
          · exact TA.mono (per_upd d5 id) _ _ ((TA.mono (t4.per.trans t5.per) _ _ ta).append (.cons ty .nil))
    · rw [List.drop_eq_nil_of_le (by omega)] at hl
      cases hl
      refine .inl ⟨dw.stop H' i t'.per keep (by omega), ?_⟩
      obtain ⟨R4, t4⟩ := rep_unwipe (s0 := e2) R2 hok.1 R' t'
      obtain ⟨R5, t5, _⟩ := unlend_rep h2 R1 R4 t4
      rw [List.append_nil] at hdr
      subst hdr
      refine q D H' R5 (t1.trans t5) ⟨D, acc, rfl, hD', ta⟩ (none_of_tr t1 hD) ?_
      exact ((nD'.unwipe (by rw [R'.len, wipe_length]) hok.1).unlend h2 R1 t4)
  · cases ev
theorem f_lc (c : Ct N sc k B X) (own : List (Str × Nat)) {elt tge iter : Expr} {ifs : List Expr} {scope : Scope} {t : Tg} {it ie : IE} {is : List IE} (hi : PI X tge iter (tI X.g Φ it))
    (hg : ∀ (s : Shared) (H : Hp) (C : Addr) (cl : List (Str × Addr)) (fp : List Addr), Ct N scope k B (X.blk s H scope (compEnvC scope cl C X.env) fp) → PG (X.blk s H scope (compEnvC scope cl C X.env) fp) tge (gT X.g t))
    (ht : ∀ (s : Shared) (H : Hp) (C : Addr) (cl : List (Str × Addr)) (fp : List Addr), Ct N scope k B (X.blk s H scope (compEnvC scope cl C X.env) fp) → PTs (X.blk s H scope (compEnvC scope cl C X.env) fp) ifs (tIfs X.g Φ is))
    (he : ∀ (s : Shared) (H : Hp) (C : Addr) (cl : List (Str × Addr)) (fp : List Addr), Ct N scope k B (X.blk s H scope (compEnvC scope cl C X.env) fp) → PE (X.blk s H scope (compEnvC scope cl C X.env) fp) elt (tE X.g Φ ie))
    (hb : blkB N sc scope own = true := by decide +kernel) (hsub : (tgS t).all (fun j => (own.map (·.2)).contains j) = true := by decide) (hs : ∀ x, foldedSetIterable iter X.env x = pure x := by intro _; rfl) :
    PE X (.ListComp elt [⟨tge, iter, ifs, 0⟩] scope pos) (tF X.g Φ (.lc ie t it is (own.map (·.2)))) :=
  (pe_lc c.calm (by rw [c.hN]; exact c.nd) hi (blk_of c hb) (fun s H C cl fp => hg s H C cl fp (c.blk s H scope C cl fp)) (fun s H C cl fp => ht s H C cl fp (c.blk s H scope C cl fp)) (fun s H C cl fp => he s H C cl fp (c.blk s H scope C cl fp)) hs).mono fun σ H Q h => lc_o hsub h
end
end Dv
namespace Dv
open PySem PySem.Spec L2
section
variable {N : List Str} {sc : Scope} {k : Nat} {B : List Str} {X : Cx} {Φ : Nat → Fn} {pos : Pos}
/-- a name's object is kept for ever from here on -/
theorem s_frz (i : Nat) {rest : List Stmt} {b : List IS} (h : PSs X rest (tSs X.g Φ b)) : PSs X rest (tSs X.g Φ (.frz i :: b)) := by
  refine ⟨fun pins s σ H E I ⟨env, o, R, ev, q⟩ => ?_⟩
  unfold evSs at ev
  obtain ⟨o1, h1, ev⟩ := Option.bind_eq_some_iff.mp ev
  unfold evS at h1
  split at h1
  · rename_i d hs
    cases h1
    obtain ⟨a, u, e1, hu, fu, fin⟩ := frz_slot R hs
    obtain ⟨ob, I2⟩ := inv_freeze I hu fu
    obtain ⟨R2, t2, _⟩ := fin ob
    exact h.run pins s σ _ E I2 ⟨_, o, R2, ev, q.back t2⟩
  · cases h1
    exact h.run pins s σ H E I ⟨_, o, R, ev, q⟩
  · cases h1
/-- name = [..] on one line -/
theorem s_setLc (c : Ct N sc k B X) (i : Nat) (own : List (Str × Nat)) {x : Str} {px spos : Pos} {elt tge iter : Expr} {ifs : List Expr} {scope : Scope} {t : Tg} {it ie : IE} {is : List IE} (hi : PI X tge iter (tI X.g Φ it))
    (hg : ∀ (s : Shared) (H : Hp) (C : Addr) (cl : List (Str × Addr)) (fp : List Addr), Ct N scope k B (X.blk s H scope (compEnvC scope cl C X.env) fp) → PG (X.blk s H scope (compEnvC scope cl C X.env) fp) tge (gT X.g t))
    (ht : ∀ (s : Shared) (H : Hp) (C : Addr) (cl : List (Str × Addr)) (fp : List Addr), Ct N scope k B (X.blk s H scope (compEnvC scope cl C X.env) fp) → PTs (X.blk s H scope (compEnvC scope cl C X.env) fp) ifs (tIfs X.g Φ is))
    (he : ∀ (s : Shared) (H : Hp) (C : Addr) (cl : List (Str × Addr)) (fp : List Addr), Ct N scope k B (X.blk s H scope (compEnvC scope cl C X.env) fp) → PE (X.blk s H scope (compEnvC scope cl C X.env) fp) elt (tE X.g Φ ie))
    (hx : N[i]? = some x := by rfl) (hl : sc.names.lookup x = some .local := by rfl) (hsw : X.env.scope.names.lookup x = some .local → swapsWith (.ListComp elt [⟨tge, iter, ifs, 0⟩] scope pos) (some (.Name x px)) spos.line X.env = pure true)
    (hb : blkB N sc scope own = true := by decide +kernel) (hsub : (tgS t).all (fun j => (own.map (·.2)).contains j) = true := by decide) (hs : ∀ x, foldedSetIterable iter X.env x = pure x := by intro _; rfl) :
    PS X (.Assign [.Name x px] (.ListComp elt [⟨tge, iter, ifs, 0⟩] scope pos) spos) (tS X.g Φ (.asgF i (.lc ie t it is (own.map (·.2))))) :=
  (ps_setLc (i := i) c.calm (by rw [c.hN]; exact c.nd) (by rw [c.hN]; exact hx) (c.lcl x hl) (hsw (c.lcl x hl)) hi (blk_of c hb) (fun s H C cl fp => hg s H C cl fp (c.blk s H scope C cl fp)) (fun s H C cl fp => ht s H C cl fp (c.blk s H scope C cl fp)) (fun s H C cl fp => he s H C cl fp (c.blk s H scope C cl fp)) hs).mono fun E σ H ⟨env, o, R, ev, q⟩ => by
    unfold evS at ev
    obtain ⟨⟨d, e1⟩, h1, ev⟩ := Option.bind_eq_some_iff.mp ev
    obtain ⟨e2, h2, ev⟩ := Option.map_eq_some_iff.mp ev
    cases ev
    refine lc_o hsub ⟨env, d, e1, R, h1, fun a H' R' t' m n ni => ?_⟩
    obtain ⟨R2, t2⟩ := R'.stF t' h2 m n ni
    exact q _ _ R2 t2
end
/-! ### a def -/
section
variable {K : G} {H : Hp}
theorem start_get {N : List Str} {vs : List V} {i : Nat} {v : V} (h : vs[i]? = some v) : (L2.start N vs)[i]? = some (some v) := by
  unfold L2.start
  have hi := (List.getElem?_eq_some_iff.mp h).1
  rw [List.getElem?_append_left (by simpa using hi), List.getElem?_map, h]; rfl
theorem startE_eq {nn : Nat} {as : List (Fl × D)} : startE nn as = as.map (fun p => some (flIn p.1, p.2)) ++ List.replicate (nn - as.length) none := by
  rfl
theorem startE_sl {nn : Nat} {as : List (Fl × D)} {i : Nat} {f : Fl} {d : D} (h : sl (startE nn as) i = some (f, d)) : ∃ g, as[i]? = some (g, d) ∧ f = flIn g := by
  have h := sl_get.mp h
  rw [startE_eq] at h
  cases hp : as[i]? with
  | none =>
    have hi : as.length ≤ i := List.getElem?_eq_none_iff.mp hp
    rw [List.getElem?_append_right (by simpa using hi), List.getElem?_replicate] at h
    split at h <;> cases h
  | some p =>
    have hi := (List.getElem?_eq_some_iff.mp hp).1
    rw [List.getElem?_append_left (by simpa using hi), List.getElem?_map, hp] at h
    obtain ⟨g, d'⟩ := p
    cases h
    exact ⟨g, rfl, rfl⟩
theorem startE_at {nn : Nat} {as : List (Fl × D)} {i : Nat} {g : Fl} {d : D} (h : as[i]? = some (g, d)) : sl (startE nn as) i = some (flIn g, d) := by
  refine sl_get.mpr ?_
  have hi := (List.getElem?_eq_some_iff.mp h).1
  rw [startE_eq, List.getElem?_append_left (by simpa using hi), List.getElem?_map, h]
  rfl
theorem flIn_ok {f : Fl} {d : D} {v : V} (h : SlOk K H f d v) : SlOk K H (flIn f) d v := by
  cases f <;> exact h
theorem rep_start {N : List Str} {nn : Nat} {as : List (Fl × D)} {vs : List V} (A : ArgsOk K H as vs) (hn : N.length = nn) (hl : as.length ≤ nn) : Rep K (startE nn as) (L2.start N vs) H := by
  refine ⟨?_, fun i f d h => ?_, fun i j f g d e a hij hi hf hj hg hx ha hb => ?_⟩
  · rw [startE_eq]
    unfold L2.start
    have := A.len
    simp
    omega
  · obtain ⟨g, h1, rfl⟩ := startE_sl h
    obtain ⟨v, h2, h3⟩ := A.ok i g d h1
    exact ⟨v, start_get h2, flIn_ok h3⟩
  · obtain ⟨f', h1, e1⟩ := startE_sl hi
    obtain ⟨g', h2, e2⟩ := startE_sl hj
    obtain ⟨v, h3, _⟩ := A.ok i _ _ h1
    obtain ⟨w, h4, _⟩ := A.ok j _ _ h2
    rw [start_get h3] at ha
    rw [start_get h4] at hb
    cases ha; cases hb
    refine A.apart i j f' g' d e a hij h1 ?_ h2 ?_ ?_ h3 h4
    · cases f' <;> rcases hf with rfl | rfl <;> first | exact .inl rfl | exact .inr rfl | cases e1
    · rintro rfl; exact hg e2
    · rintro rfl; exact hx e2
theorem outs_ok {e : En} {σ : L2.St} {N : List Str} {nn : Nat} {as0 : List (Fl × D)} {vs0 : List V} {H' : Hp} (R : Rep K e σ H') (A : ArgsOk K H as0 vs0) (par : ∀ i d, sl (startE nn as0) i = some (.par, d) → ∃ d', sl e i = some (.par, d') ∧ σ[i]? = (L2.start N vs0)[i]?) :
    ∀ (as : List (Fl × D)) (vs : List V) (outs : List D) (i : Nat), as0.drop i = as → vs0.drop i = vs → outsC i as e = some outs → OutsOk K H' as vs outs
  | [], [], outs, i, _, _, h => by cases h; trivial
  | (f, d) :: as, v :: vs, outs, i, ha, hv, h => by
    have ga : as0[i]? = some (f, d) := by
      have := congrArg (fun l => l[0]?) ha
      simpa using this
    have gv : vs0[i]? = some v := by
      have := congrArg (fun l => l[0]?) hv
      simpa using this
    have ta : as0.drop (i + 1) = as := by
      rw [← List.drop_drop (i := 1), ha]; rfl
    have tv : vs0.drop (i + 1) = vs := by
      rw [← List.drop_drop (i := 1), hv]; rfl
    unfold OutsOk
    by_cases hf : f = .own
    · subst hf
      rw [if_pos rfl]
      unfold outsC at h
      split at h
      · rename_i d' hs
        obtain ⟨r, h1, h2⟩ := Option.map_eq_some_iff.mp h
        subst h2
        refine ⟨d', r, rfl, ?_, outs_ok R A par as vs r (i + 1) ta tv h1⟩
        obtain ⟨d2, h3, h4⟩ := par i d (startE_at ga)
        rw [hs] at h3; cases h3
        obtain ⟨w, e1, k⟩ := R.ok i _ _ hs
        rw [h4, start_get gv] at e1
        cases e1
        exact k
      · cases h
    · rw [if_neg hf]
      have : outsC (i + 1) as e = some outs := by
        cases f <;> first | exact h | exact absurd rfl hf
      exact outs_ok R A par as vs outs (i + 1) ta tv this
  | [], v :: vs, outs, i, ha, hv, h => by
    exfalso
    have h1 := congrArg List.length ha
    have h2 := congrArg List.length hv
    have := A.len
    simp at h1 h2
    omega
  | p :: as, [], outs, i, ha, hv, h => by
    exfalso
    have h1 := congrArg List.length ha
    have h2 := congrArg List.length hv
    have := A.len
    simp at h1 h2
    omega
end
section
variable {P : Program} {w : World} {K : PySem.W.Frag} {mg : Str → Option Value} {base : Heap}
/-- what comes back, told from outside -/
theorem rt_rs {K : G} {as : List (Fl × D)} {vs : List V} {N : List Str} {nn : Nat} {e : En} {σ' : L2.St} {H H' : Hp} {r : Bool × D} {v : V} (A : ArgsOk K H as vs) (R' : Rep K e σ' H') (t : Tr (startE nn as) (L2.start N vs) H e σ' H') (h : RtOk K H e σ' H' r v) : RsOk K H H' r v := by
  unfold RtOk at h
  unfold RsOk
  by_cases hr : r.1 = true
  · rw [if_pos hr] at h ⊢
    obtain ⟨a, e1, m, n⟩ := h
    refine ⟨a, e1, m, ?_⟩
    rcases n with n | ⟨i, d, h1, h2⟩
    · exact n
    · rcases t.own a ⟨i, .own, d, h1, .inl rfl, h2⟩ with ⟨j, f, d', q1, q2, q3⟩ | z
      · exfalso
        have hp : f = .par := by
          obtain ⟨g, g1, rfl⟩ := startE_sl q1
          rcases q2 with q2 | q2
          · cases g <;> cases q2
          · exact q2
        subst hp
        obtain ⟨d2, q4, q5⟩ := t.par j d' q1
        have hij : i ≠ j := by
          rintro rfl
          rw [h1] at q4; cases q4
        exact R'.apart i j .own .par d d2 a hij h1 (.inl rfl) q4 (by decide) (by decide) h2 (by rw [q5]; exact q3)
      · exact z
  · rw [if_neg hr] at h ⊢; exact h
theorem argA_own {K : G} {as : List (Fl × D)} {vs : List V} {N : List Str} {nn : Nat} {H : Hp} (A : ArgsOk K H as vs) {b : Addr} (h : ownA (startE nn as) (L2.start N vs) b) : argA as vs b := by
  obtain ⟨i, f, d, h1, h2, h3⟩ := h
  obtain ⟨g, g1, rfl⟩ := startE_sl h1
  obtain ⟨v, e1, _⟩ := A.ok i g d g1
  rw [start_get e1] at h3
  cases h3
  have : g = .own ∨ g = .par := by cases g <;> rcases h2 with h2 | h2 <;> first | exact .inl rfl | exact .inr rfl | cases h2
  rcases this with rfl | rfl
  · exact ⟨i, d, g1, e1⟩
  · exact absurd rfl (A.np i _ _ g1)
theorem def_fn {x : Str} {params : Arguments} {body : List Stmt} {sc : Scope} {f : Addr} {fd : FuncData} {N ps B : List Str} {k np nn : Nat} {Φ : Nat → Fn} {ir : List IS}
    (FD : FunD K x x params body sc [] [] f fd) (S : FnScope N ps sc) (hm : mg x = some (.ref f)) (bd : Binds K fd ps []) (hB : ∀ x ∈ B, mg x = none) (hp : ps.length = np) (hn : N.length = nn) (hle : np ≤ nn)
    (hb : ∀ X : Cx, X.prog = P → X.w = w → X.K = K → X.mg = mg → X.base = base → Ct N sc k B X → PSs X body (tSs X.g Φ ir)) : FnOk P w K mg base C8.CX0 (k + 1) f fd ps (spF ⟨P, w, K⟩ (evFn Φ np nn ir)) := by
  refine FD.ok S (fun vs H Q E h => ?_) (fun cdv A outer s H vs Q E hr h => ?_)
  · obtain ⟨as, r, outs, h1, h2, _⟩ := h
    unfold evFn at h1
    split at h1
    · rename_i hl
      rw [hp, ← hl, h2.len]
    · cases h1
  · obtain ⟨as, r, outs, h1, h2, q⟩ := h
    unfold evFn at h1
    split at h1
    · rename_i hl
      refine ⟨tSs ⟨P, w, K⟩ Φ ir, PSs.nox (hb _ rfl rfl rfl rfl rfl ⟨rfl, S.nd, rfl, fun x h => ?_, fun x h => ⟨?_, .inl rfl⟩, fun _ h => h, fun _ h => h, fun x h => ?_, hr, hr.units, hB, PassesOwn.never⟩), ?_⟩
      · unfold visB at h
        split at h
        · rename_i e; exact .inl e
        · rename_i e; exact .inr (.inl e)
        · rename_i e; exact .inr (.inr e)
        · cases h
      · unfold locB at h
        split at h
        · rename_i e; exact .inl e
        · rename_i e; exact .inr e
        · cases h
      · unfold glB at h
        split at h
        · rename_i e; exact e
        · cases h
      · have R := rep_start (N := N) (nn := nn) h2 hn (by omega)
        have done : ∀ (e : En) (σ' : L2.St) (H' : Hp) (r : Bool × D) (outs : List D) (v : V), Rep ⟨P, w, K⟩ e σ' H' → Tr (startE nn as) (L2.start N vs) H e σ' H' → RtOk ⟨P, w, K⟩ H e σ' H' r v → outsC 0 as e = some outs → (∀ v H', Per H H' → (∀ b o, H b = some o → ¬ argA as vs b → H' b = some o) → (∀ b o, H b = some o → ∃ o', H' b = some o') →
          OutsOk ⟨P, w, K⟩ H' as vs outs → RsOk ⟨P, w, K⟩ H H' r v → Q v H') → Q v H' := fun e σ' H' r outs v R' t' rs ho q =>
          q v H' t'.per (fun b o hb nb => t'.frm b o hb fun z => nb (argA_own h2 z)) t'.dom (outs_ok R' h2 t'.par as vs outs 0 rfl rfl ho) (rt_rs h2 R' t' rs)
        cases he : evSs Φ ir (startE nn as) with
        | none => rw [he] at h1; cases h1
        | some o =>
          rw [he] at h1
          refine ⟨_, o, R, he, ?_⟩
          cases o with
          | nx e =>
            obtain ⟨ou, h3, h4⟩ := Option.map_eq_some_iff.mp h1
            cases h4
            exact fun σ' H' R' t' => done e σ' H' _ _ .non R' t' (by unfold RtOk; rw [if_neg (by intro hh; cases hh)]; exact T.non) h3 q
          | rt rv e =>
            obtain ⟨ou, h3, h4⟩ := Option.map_eq_some_iff.mp h1
            cases h4
            exact fun v σ' H' R' t' rs => done e σ' H' _ _ v R' t' rs h3 q
          | bk e => cases h1
          | ct e => cases h1
    · cases h1
theorem def_ok {x : Str} {params : Arguments} {body : List Stmt} {sc : Scope} {f : Addr} {fd : FuncData} {N ps B : List Str} {k np nn : Nat} {Φ : Nat → Fn} {ir : List IS}
    (FD : FunD K x x params body sc [] [] f fd) (S : FnScope N ps sc) (hm : mg x = some (.ref f)) (bd : Binds K fd ps []) (hB : ∀ x ∈ B, mg x = none) (hp : ps.length = np) (hn : N.length = nn) (hle : np ≤ nn)
    (hb : ∀ X : Cx, X.prog = P → X.w = w → X.K = K → X.mg = mg → X.base = base → Ct N sc k B X → PSs X body (tSs X.g Φ ir)) : C8.Cal P w K mg base (k + 1) x (spF ⟨P, w, K⟩ (evFn Φ np nn ir)) [] := by
  exact ⟨f, fd, ps, [], def_fn FD S hm bd hB hp hn hle hb, hm, FD.kp, bd, .nil⟩
end
end Dv
namespace Dv
open PySem PySem.Spec L2
/-! ### dict displays -/
def pT (K : G) (Φ : Nat → Fn) : List IE → List (TE × TE)
  | k :: v :: r => (tE K Φ k, tE K Φ v) :: pT K Φ r
  | _ => []
def PR (K : G) (H : Hp) : List (D × D) → List (V × V) → Prop
  | [], [] => True
  | (k, d) :: r, (x, y) :: r' => T K H k x ∧ T K H d y ∧ PR K H r r'
  | _, _ => False
theorem PR.mono {K : G} {H H' : Hp} (p : Per H H') : ∀ {a : List (D × D)} {b : List (V × V)}, PR K H a b → PR K H' a b
  | [], [], _ => trivial
  | (_, _) :: _, (_, _) :: _, h => ⟨T.mono p _ _ h.1, T.mono p _ _ h.2.1, PR.mono p h.2.2⟩
theorem pairs_o {K : G} {Φ : Nat → Fn} {σ : L2.St} : ∀ {is : List IE} {H : Hp} {Q : List (V × V) → Hp → Prop} {env env' : En} {ds : List D} {prs : List (D × D)}, Rep K env σ H → evEs Φ is env = some (ds, env') → pairUp ds = some prs →
    (∀ ps H', Rep K env' σ H' → Tr env σ H env' σ H' → PR K H' prs ps → Q ps H') → tPairs (pT K Φ is) σ H Q
  | [], H, Q, env, env', ds, prs, R, h1, h2, q => by
    cases h1
    cases h2
    exact q [] H R Tr.refl trivial
  | [a], H, Q, env, env', ds, prs, R, h1, h2, q => by
    unfold evEs at h1
    obtain ⟨⟨da, e1⟩, h3, h4⟩ := Option.bind_eq_some_iff.mp h1
    obtain ⟨⟨dr, e2⟩, h5, h6⟩ := Option.map_eq_some_iff.mp h4
    cases h5
    cases h6
    cases h2
  | a :: b :: r, H, Q, env, env', ds, prs, R, h1, h2, q => by
    unfold evEs at h1
    obtain ⟨⟨da, e1⟩, h3, h4⟩ := Option.bind_eq_some_iff.mp h1
    obtain ⟨⟨dr, e2⟩, h5, h6⟩ := Option.map_eq_some_iff.mp h4
    unfold evEs at h5
    obtain ⟨⟨db, e3⟩, h7, h8⟩ := Option.bind_eq_some_iff.mp h5
    obtain ⟨⟨dr2, e4⟩, h9, h10⟩ := Option.map_eq_some_iff.mp h8
    cases h10
    cases h6
    obtain ⟨prs', h11, h12⟩ := Option.map_eq_some_iff.mp h2
    subst h12
    refine ⟨env, da, e1, R, h3, fun x H1 R1 t1 o1 => ⟨e1, db, e3, R1, h7, fun y H2 R2 t2 o2 => ?_⟩⟩
    exact pairs_o R2 h9 h11 fun ps H3 R3 t3 pr => q _ H3 R3 ((t1.trans t2).trans t3) ⟨T.mono (t2.per.trans t3.per) _ _ o1, T.mono t3.per _ _ o2, pr⟩
theorem pairUp_len : ∀ {ds : List D} {prs : List (D × D)}, pairUp ds = some prs → prs.length + prs.length = ds.length
  | [], _, h => by cases h; rfl
  | [_], _, h => by cases h
  | k :: v :: r, _, h => by
    obtain ⟨p', h1, h2⟩ := Option.map_eq_some_iff.mp h
    subst h2
    have := pairUp_len h1
    simp
    omega
theorem evEs_len {Φ : Nat → Fn} : ∀ {is : List IE} {env env' : En} {ds : List D}, evEs Φ is env = some (ds, env') → ds.length = is.length
  | [], _, _, _, h => by cases h; rfl
  | a :: r, _, _, _, h => by
    unfold evEs at h
    obtain ⟨⟨da, e1⟩, h3, h4⟩ := Option.bind_eq_some_iff.mp h
    obtain ⟨⟨dr, e2⟩, h5, h6⟩ := Option.map_eq_some_iff.mp h4
    cases h6
    simp [evEs_len h5]
theorem fill_o {K : G} {H : Hp} : ∀ {prs : List (D × D)} {ps : List (V × V)} {acc out : List (D × D)} {kv : List (Key × V)}, PR K H prs ps → (prs.all fun q => decide (kind q.1 = some false)) = true → dFill acc prs = some out → TK K H acc kv →
    ∃ kvs : List (Key × V), ps = kvs.map (fun kv => (kV kv.1, kv.2)) ∧ kvs.length = prs.length ∧ TK K H out (mergeK kv kvs)
  | [], [], acc, out, kv, _, _, h, t => by
    cases h
    exact ⟨[], rfl, rfl, t⟩
  | (k, d) :: r, (x, y) :: r', acc, out, kv, p, hk, h, t => by
    rw [List.all_cons, Bool.and_eq_true, decide_eq_true_eq] at hk
    unfold dFill at h
    split at h
    · obtain ⟨k', e1, e2⟩ := scal_of hk.1 p.1.vw
      subst e1 e2
      obtain ⟨kvs, h1, h2, h3⟩ := fill_o p.2.2 hk.2 h (t.put p.2.1)
      refine ⟨(k', y) :: kvs, ?_, by simp [h2], h3⟩
      rw [h1]; rfl
    · cases h
section
variable {N : List Str} {sc : Scope} {k : Nat} {B : List Str} {X : Cx} {Φ : Nat → Fn} {pos : Pos}
theorem p_nil : PPs X pos [] [] (pT X.g Φ []) := pps_nil
theorem p_cons {ke v : Expr} {ks : List (Option Expr)} {vs : List Expr} {ik iv : IE} {is : List IE} (hk : PE X ke (tE X.g Φ ik)) (hv : PE X v (tE X.g Φ iv)) (hr : PPs X pos ks vs (pT X.g Φ is)) : PPs X pos (some ke :: ks) (v :: vs) (pT X.g Φ (ik :: iv :: is)) := pps_cons hk hv hr
theorem f_dct {keys : List (Option Expr)} {values : List Expr} {is : List IE} (h : PPs X pos keys values (pT X.g Φ is)) (hall : keys.all (·.isSome) = true := by rfl) (hl : keys.length = values.length := by rfl) (h0 : keys ≠ [] := by intro h; cases h) (h15 : keys.length ≤ 15 := by decide) (h30 : is.length ≤ 30 := by decide) :
    PE X (.Dict keys values pos) (tF X.g Φ (.dct is)) :=
  (pe_disp h hall hl h0 h15).mono fun σ H Q ⟨env, d, env', R, ev, q⟩ p hp => by
    change (evEs Φ is env).bind _ = _ at ev
    obtain ⟨⟨ds, e1⟩, h1, ev⟩ := Option.bind_eq_some_iff.mp ev
    obtain ⟨prs, h2, ev⟩ := Option.bind_eq_some_iff.mp ev
    split at ev
    · rename_i hk
      obtain ⟨out, h3, ev⟩ := Option.map_eq_some_iff.mp ev
      cases ev
      have Rp := R.new (o := .dK []) hp
      have tp : Tr env σ H env σ (upd H p (.dK [])) := Tr.new hp
      have np : NotIn env σ p := R.notIn hp
      refine pairs_o Rp h1 h2 fun ps H2 R2 t2 pr => ?_
      have hp2 : H2 p = some (.dK []) := t2.frm p _ upd_same np.not
      obtain ⟨kvs, g1, g2, g3⟩ := fill_o pr hk h3 (kv := []) (by unfold TK; rfl)
      have hl1 := pairUp_len h2
      have hl2 := evEs_len h1
      have hl1 : prs.length + prs.length = ds.length := hl1
      refine ⟨hp2, kvs, g1, by omega, ?_⟩
      have n2 := np.step upd_same t2
      refine q p _ (R2.aside n2 hp2 id) ((tp.trans t2).aside hp) ⟨p, rfl, .inl ⟨_, upd_same, TK.mono (per_upd hp2 id) _ _ g3⟩⟩ hp n2
    · cases ev
/-- {} -/
theorem f_dct0 : PE X (.Dict [] [] pos) (tF X.g Φ (.dct [])) :=
  pe_dnewK.mono fun σ H Q ⟨env, d, env', R, ev, q⟩ p hp => by
    cases ev
    exact q p _ (R.new hp) (Tr.new hp) ⟨p, rfl, .inl ⟨[], upd_same, by unfold TK; rfl⟩⟩ hp (R.notIn hp)
end
end Dv
namespace Dv
open PySem PySem.Spec L2
def noStar : Expr → Bool
  | .Starred .. => false
  | _ => true
section
variable {env : Env} {x y : Str} {px py pt pt2 : Pos} {a b : Expr} {kt k2 : Nat}
theorem any_star {vs : List Expr} (h : vs.all noStar = true) : (vs.any fun | .Starred .. => true | _ => false) = false := by
  induction vs with
  | nil => rfl
  | cons v r ih =>
    rw [List.all_cons, Bool.and_eq_true] at h
    rw [List.any_cons, ih h.2, Bool.or_false]
    cases v <;> first | rfl | cases h.1
theorem er2 (h : (y == x) = false) : ([x, y] : List Str).eraseDups = [x, y] := by
  rw [List.eraseDups_cons, List.filter_cons, List.filter_nil, h]
  rfl
theorem sp_some (hk : env.scope.kind = .function) (hx : env.scope.names.lookup x = some .local) (hy : env.scope.names.lookup y = some .local) (hyx : (y == x) = false) (hl : (py.line == px.line) = true) (hst : [a, b].all noStar = true) (hf : [a, b].all (foldedForSure 8) = false) (hc : [a, b].all (constantsAlone 8) = false) :
    swappedStores [.Tuple [.Name x px, .Name y py] kt pt] (.Tuple [a, b] k2 pt2) env = pure (some [x, y]) := by
  have hb : env.blockKind = .function := by unfold Env.blockKind; rw [hk]; rfl
  have hs := any_star hst
  have kx : (env.kindOf x == some NameKind.local && px.line == (Option.map (fun x => x.pos.line) [Expr.Name x px, Expr.Name y py].head?).getD 0) = true := by
    show (env.scope.names.lookup x == some .local && px.line == px.line) = true
    rw [hx, beq_self_eq_true, beq_self_eq_true]; rfl
  have ky : (env.kindOf y == some NameKind.local && py.line == (Option.map (fun x => x.pos.line) [Expr.Name x px, Expr.Name y py].head?).getD 0) = true := by
    show (env.scope.names.lookup y == some .local && py.line == px.line) = true
    rw [hy, hl, beq_self_eq_true]; rfl
  unfold swappedStores
  show (if (!(([.Name x px, .Name y py] : List Expr).length == 2 || _) || _ || _) = true then _ else _) = _
  rw [hb]
  show (if ([a, b].any fun | .Starred .. => true | _ => false) = true then _ else _) = _
  rw [hs, if_neg Bool.false_ne_true]
  simp only [List.filterMap_cons, List.filterMap_nil, kx, ky, if_true, er2 hyx]
  rw [hf, hc]
  rfl
/-- .. of constants alone, or a name that is a cell: as usual -/
theorem sp_const {ts : List Expr} {vs : List Expr} (hf : vs.all (foldedForSure 8) = true) : swappedStores [.Tuple ts kt pt] (.Tuple vs k2 pt2) env = pure none := by
  unfold swappedStores
  simp only [hf]
  split
  · rfl
  · split
    · rfl
    · split
      · rfl
      · rfl
theorem sp_cell (h : env.scope.names.lookup x ≠ some .local ∨ env.scope.names.lookup y ≠ some .local) {vs : List Expr} : swappedStores [.Tuple [.Name x px, .Name y py] kt pt] (.Tuple vs k2 pt2) env = pure none := by
  have key : ∀ z (p : Pos), env.scope.names.lookup z ≠ some .local → ∀ l, (env.kindOf z == some NameKind.local && p.line == l) = false := fun z p hz l => by
    show (env.scope.names.lookup z == some .local && p.line == l) = false
    rw [Bool.and_eq_false_iff]
    refine .inl ?_
    rw [beq_eq_false_iff_ne]
    exact hz
  have fin : ∀ l : Nat, ([.Name x px, .Name y py].filterMap fun
    | Expr.Name id pos => if (env.kindOf id == some NameKind.local && pos.line == l) = true then some id else none
    | _ => none).length ≠ 2 := fun l => by
    rw [List.filterMap_cons, List.filterMap_cons, List.filterMap_nil]
    rcases h with h | h
    · have := key x px h l
      simp only [this]
      cases hq : (env.kindOf y == some NameKind.local && py.line == l) <;> simp
    · have := key y py h l
      simp only [this]
      cases hq : (env.kindOf x == some NameKind.local && px.line == l) <;> simp
  unfold swappedStores
  dsimp only
  split
  · rfl
  · split
    · rfl
    · split
      · rfl
      · rename_i h1 h2 h3
        exfalso
        apply h3
        rw [Bool.or_eq_true]
        refine .inl ?_
        simp only [bne_iff_ne, ne_eq]
        exact fin _
theorem sw_cell {t : Str} {elt : Expr} {gs : List Comprehension} {scope : Scope} {pos p : Pos} {l : Nat} (h : env.scope.names.lookup t ≠ some .local) : swapsWith (.ListComp elt gs scope pos) (some (.Name t p)) l env = pure false := by
  unfold swapsWith
  have : (env.kindOf t == some NameKind.local) = false := by
    rw [beq_eq_false_iff_ne]
    exact h
  simp only [this, Bool.and_false, Bool.false_and]
theorem sw_line {t : Str} {elt : Expr} {gs : List Comprehension} {scope : Scope} {pos p : Pos} {l : Nat} (h : (p.line == pos.line) = false) : swapsWith (.ListComp elt gs scope pos) (some (.Name t p)) l env = pure false := by
  unfold swapsWith
  simp only [Expr.pos, h, Bool.and_false, Bool.false_and]
end
section
variable {N : List Str} {sc : Scope} {k : Nat} {B : List Str} {X : Cx} {Φ : Nat → Fn} {pos : Pos}
theorem Ct.noLocal (c : Ct N sc k B X) {x : Str} (h : sc.names.lookup x = some .cell) : X.env.scope.names.lookup x ≠ some .local := fun e => by
  rcases c.fre x (.inl h) with z | z <;> rw [e] at z <;> cases z
theorem PS.at {st : Stmt} {t : TS} (h : X.env.scope.kind = .function → PS X st t) : PS X st t := ⟨fun pins s σ H D I q => (h I.ok.kind).run pins s σ H D I q⟩
theorem s_par2 (c : Ct N sc k B X) (i j : Nat) {x y : Str} {a b : Expr} {ia ib : IE} {px py pt : Pos} {kt k2 : Nat} {pt2 : Pos} (ha : PE X a (tE X.g Φ ia)) (hb : PE X b (tE X.g Φ ib)) (hi : N[i]? = some x := by rfl) (hj : N[j]? = some y := by rfl) (hij : i ≠ j := by decide)
    (hx : sc.names.lookup x = some .local := by rfl) (hy : sc.names.lookup y = some .local := by rfl) (hyx : (y == x) = false := by decide) (hl : (py.line == px.line) = true := by rfl) (hst : [a, b].all noStar = true := by rfl) (hf : [a, b].all (foldedForSure 8) = false := by rfl) (hc : [a, b].all (constantsAlone 8) = false := by rfl)
    (hsa : starEach [a, b] X.env = (false, eval a X.env) :: starEach [b] X.env := by rfl) (hsb : starEach [b] X.env = (false, eval b X.env) :: starEach [] X.env := by rfl) (hs : swapsWithSole [.Tuple [.Name x px, .Name y py] kt pt] (.Tuple [a, b] k2 pt2) pos.line X.env = pure false := by rfl) :
    PS X (.Assign [.Tuple [.Name x px, .Name y py] kt pt] (.Tuple [a, b] k2 pt2) pos) (tS X.g Φ (.par i j ia ib)) :=
  PS.at fun hk => s_par c i j ha hb hi hj hij hx hy hsa hsb (sp_some hk (c.lcl x hx) (c.lcl y hy) hyx hl hst hf hc) hs
theorem s_setLc2 (c : Ct N sc k B X) (i : Nat) (own : List (Str × Nat)) {x : Str} {px spos : Pos} {elt tge iter : Expr} {ifs : List Expr} {scope : Scope} {t : Tg} {it ie : IE} {is : List IE} (hi : PI X tge iter (tI X.g Φ it))
    (hg : ∀ (s : Shared) (H : Hp) (C : Addr) (cl : List (Str × Addr)) (fp : List Addr), Ct N scope k B (X.blk s H scope (compEnvC scope cl C X.env) fp) → PG (X.blk s H scope (compEnvC scope cl C X.env) fp) tge (gT X.g t))
    (ht : ∀ (s : Shared) (H : Hp) (C : Addr) (cl : List (Str × Addr)) (fp : List Addr), Ct N scope k B (X.blk s H scope (compEnvC scope cl C X.env) fp) → PTs (X.blk s H scope (compEnvC scope cl C X.env) fp) ifs (tIfs X.g Φ is))
    (he : ∀ (s : Shared) (H : Hp) (C : Addr) (cl : List (Str × Addr)) (fp : List Addr), Ct N scope k B (X.blk s H scope (compEnvC scope cl C X.env) fp) → PE (X.blk s H scope (compEnvC scope cl C X.env) fp) elt (tE X.g Φ ie))
    (hx : N[i]? = some x := by rfl) (hl : sc.names.lookup x = some .local := by rfl) (hpl : (px.line == pos.line) = true := by rfl) (hna : (scope.names.any fun (n, k) => n == x && (k == .local || k == .cell)) = false := by decide +kernel)
    (hb : blkB N sc scope own = true := by decide +kernel) (hsub : (tgS t).all (fun j => (own.map (·.2)).contains j) = true := by decide) (hs : ∀ x, foldedSetIterable iter X.env x = pure x := by intro _; rfl) :
    PS X (.Assign [.Name x px] (.ListComp elt [⟨tge, iter, ifs, 0⟩] scope pos) spos) (tS X.g Φ (.asgF i (.lc ie t it is (own.map (·.2))))) :=
  PS.at fun hk => s_setLc c i own hi hg ht he hx hl (fun h => sw_true hk h hpl hna) hb hsub hs
end
theorem cal_none {P : Program} {w : World} {K : PySem.W.Frag} {mg : Str → Option Value} {base : Heap} {x : Str} {params : Arguments} {body : List Stmt} {sc : Scope} {f : Addr} {fd : FuncData} {ps : List Str} {k : Nat}
    (FD : FunD K x x params body sc [] [] f fd) (hm : mg x = some (.ref f)) (bd : Binds K fd ps []) : C8.Cal P w K mg base k x (spF ⟨P, w, K⟩ fun _ => none) [] :=
  ⟨f, fd, ps, [], ⟨fun vs H Q E h => (by obtain ⟨as, r, outs, h1, _⟩ := h; cases h1), fun A outer s H args us vs Q E hr e0 hb r h => (by obtain ⟨as, r, outs, h1, _⟩ := h; cases h1)⟩, hm, FD.kp, bd, .nil⟩
/-- the law's own call -/
theorem law_sp {K : G} {F : Fn} {H : Hp} {a : Addr} {ns : List Int} (ho : Only H) (hS : SqL K.K H a (ns.map V.int)) (h : F [(.ext, .list (ns.map PyData.int))] = some ((false, .bool true), [])) : spF K F [.ref a] H (fun v _ => v = .bl true) fun _ _ _ => False := by
  have ta : ∀ ns : List Int, TA K H (ns.map PyData.int) (ns.map V.int) := fun ns => by
    induction ns with
    | nil => exact .nil
    | cons n r ih => exact .cons T.int ih
  refine ⟨_, _, _, h, ⟨rfl, fun i f d hi => ?_, fun i f d hi => ?_, fun i j f g d e b hij hi hf hj _ _ _ => ?_⟩, fun v H' _ _ _ _ rs => ?_⟩
  · cases i with
    | zero =>
      cases hi
      refine ⟨.ref a, rfl, _, a, _, rfl, rfl, ?_, ta ns⟩
      rcases hS with (hS | ⟨o, hS⟩) | hS
      · rcases ho a with z | ⟨o, xs, z⟩ <;> rw [hS] at z <;> cases z
      · exact .inl ⟨o, hS⟩
      · exact .inr hS
    | succ i => cases hi
  · cases i with
    | zero => cases hi; exact nofun
    | succ i => cases hi
  · cases i with
    | zero => cases hi; rcases hf with hf | hf <;> cases hf
    | succ i => cases hi
  · unfold RsOk at rs
    rw [if_neg (by decide)] at rs
    unfold T at rs
    exact rs
end Dv
namespace Dv
open PySem PySem.Spec L2
section
variable {K : G} {H : Hp}
theorem tas_keys : ∀ (M : List Key), TA K H (M.map keyD) (M.map kV)
  | [] => .nil
  | k :: M => .cons (T.key k) (tas_keys M)
theorem ta_keys : ∀ {ks : List Key} {vs : List V}, TA K H (ks.map keyD) vs → vs = ks.map kV
  | [], vs, ta => by unfold TA at ta; exact ta
  | k :: ks, vs, ta => by
    rw [List.map_cons] at ta
    unfold TA at ta
    obtain ⟨v, r, rfl, tk, tr⟩ := ta
    rw [List.map_cons, ta_keys tr]
    cases k with
    | inl i => rw [show v = .int i by simpa [keyD, T] using tk]; rfl
    | inr x => rw [show v = .str x by simpa [keyD, T] using tk]; rfl
/-- a list of pairs -/
theorem pairs_ta : ∀ {xs : List D} {ps : List (D × D)} {vs : List V}, pairsOf xs = some ps → TA K H xs vs → (ps.all fun q => decide (kind q.1 = some false)) = true →
    ∃ (as : List Addr) (kvs : List (Key × V)), vs = as.map V.ref ∧ Paired (fun p kv => SqT K.K H p [kV kv.1, kv.2]) as kvs ∧ PR K H ps (kvs.map fun kv => (kV kv.1, kv.2))
  | [], ps, vs, h, t, _ => by
    cases h
    unfold TA at t
    subst t
    exact ⟨[], [], rfl, .nil, trivial⟩
  | x :: xs, ps, vs, h, t, hk => by
    unfold TA at t
    obtain ⟨v, r, rfl, tx, tr⟩ := t
    unfold pairsOf at h
    split at h
    · rename_i e
      cases e
    · rename_i k d r2 e
      cases e
      obtain ⟨ps2, h1, rfl⟩ := Option.map_eq_some_iff.mp h
      rw [List.all_cons, Bool.and_eq_true, decide_eq_true_eq] at hk
      obtain ⟨as, kvs, e1, pr, q⟩ := pairs_ta h1 tr hk.2
      unfold T at tx
      obtain ⟨a, ws, rfl, sq, tw⟩ := tx
      obtain ⟨x, y, rfl, tk, td⟩ := TA.two tw
      obtain ⟨k', e3, e4⟩ := scal_of hk.1 tk.vw
      subst e4
      exact ⟨a :: as, (k', y) :: kvs, by rw [e1]; rfl, .cons sq pr, ⟨tk, td, q⟩⟩
    · cases h
end
section
variable {N : List Str} {sc : Scope} {k : Nat} {B : List Str} {X : Cx} {Φ : Nat → Fn} {pos : Pos}
/-- dict(pairs) -/
theorem f_dictP (c : Ct N sc k B X) {x : Str} {p : Pos} {e : Expr} {es : List Expr} {is : List IE} (ha : PA X (e :: es) (tA X.g Φ is)) (hg : glB sc x = true := by rfl) (hm : x ∈ B := by decide) (hv : bootBuiltins x = some (.type "dict") := by first | rfl | decide +kernel) (hn : x ≠ "__name__" := by decide)
    (hdb : (x == ("__debug__" : Str)) = false := by decide) (he : starEach (e :: es) X.env = (false, eval e X.env) :: starEach es X.env := by rfl) (hpl : (backTo pos (starEach es X.env)).any (·.1) = false := by rfl) : PE X (.Call (.Name x p) (e :: es) [] pos) (tF X.g Φ (.blt .dict is)) := by
  refine (pe_callTy (call_dictP c.calm) (c.gl x hg) (c.blt x hm) hv ha hn hdb he hpl).mono fun σ H Q h => ?_
  obtain ⟨env, d, env', R, ev, q⟩ := h
  change (evEs Φ is env).bind _ = _ at ev
  obtain ⟨⟨ds, e1⟩, h1, ev⟩ := Option.bind_eq_some_iff.mp ev
  obtain ⟨xs, h2, ev⟩ := Option.bind_eq_some_iff.mp ev
  obtain ⟨z, h3, ev⟩ := Option.map_eq_some_iff.mp ev
  cases ev
  refine ⟨env, ds, e1, R, h1, fun vs H1 R1 t1 o1 => ?_⟩
  have hvw := o1.rd (Per.refl _) R1 h2
  change dictD xs = some _ at h3
  unfold dictD at h3
  split at h3
  · obtain ⟨ps, h4, h5⟩ := Option.bind_eq_some_iff.mp h3
    split at h5
    · rename_i hk
      obtain ⟨out, h6, h7⟩ := Option.map_eq_some_iff.mp h5
      subst h7
      obtain ⟨u, rfl, hx⟩ := hvw.one
      obtain ⟨a, ws, rfl, rd, ta⟩ := hx.list
      obtain ⟨as, kvs, rfl, pr, pq⟩ := pairs_ta h4 ta hk
      obtain ⟨kvs2, e3, e4, tk⟩ := fill_o (K := X.g) (kv := []) pq hk h6 (by unfold TK; rfl)
      have e5 : kvs2 = kvs := by
        have inj : ∀ {a b : List (Key × V)}, a.map (fun kv => (kV kv.1, kv.2)) = b.map (fun kv => (kV kv.1, kv.2)) → a = b := by
          intro a
          induction a with
          | nil => intro b h; cases b with
            | nil => rfl
            | cons _ _ => cases h
          | cons p a ih => intro b h; cases b with
            | nil => cases h
            | cons p2 b =>
              simp only [List.map_cons, List.cons.injEq, Prod.mk.injEq] at h
              rw [ih h.2, show p = p2 from Prod.ext (kV_inj h.1.1) h.1.2]
        exact (inj e3).symm
      subst e5
      exact ⟨a, as, kvs2, rfl, .inl rd, pr, fun p hp => q p _ (R1.new hp) (t1.trans (Tr.new hp)) ⟨p, rfl, .inl ⟨_, upd_same, TK.mono (per_new hp) _ _ tk⟩⟩ (none_of_tr t1 hp) (R1.notIn hp)⟩
    · cases h5
  · cases h3
/-- sorted(set(xs)) -/
theorem f_sset (c : Ct N sc k B X) {x y : Str} {p p2 q2 : Pos} {e : Expr} {ia : IE} (ha : PE X e (tO X.g Φ ia)) (hg : glB sc x = true := by rfl) (hm : x ∈ B := by decide) (hg2 : glB sc y = true := by rfl) (hm2 : y ∈ B := by decide)
    (hv : bootBuiltins x = some (.builtin "sorted") := by first | rfl | decide +kernel) (hv2 : bootBuiltins y = some (.type "set") := by first | rfl | decide +kernel) (hn : x ≠ "__name__" := by decide) (hn2 : y ≠ "__name__" := by decide)
    (hdb : (x == ("__debug__" : Str)) = false := by decide) (hdb2 : (y == ("__debug__" : Str)) = false := by decide) (he : starEach [e] X.env = (false, eval e X.env) :: starEach [] X.env := by rfl)
    (he2 : starEach [Expr.Call (.Name y p2) [e] [] q2] X.env = (false, eval (Expr.Call (.Name y p2) [e] [] q2) X.env) :: starEach [] X.env := by rfl)
    (hpl : (backTo q2 (starEach [] X.env)).any (·.1) = false := by rfl) (hpl2 : (backTo pos (starEach [] X.env)).any (·.1) = false := by rfl) : PE X (.Call (.Name x p) [.Call (.Name y p2) [e] [] q2] [] pos) (tF X.g Φ (.sset ia)) := by
  have inner := pe_callTy (pos := q2) (p := p2) cr_set (c.gl y hg2) (c.blt y hm2) hv2 (pa_cons ha pa_nil he) hn2 hdb2 he hpl
  refine (pe_callB (pos := pos) (p := p) cr_srt (c.gl x hg) (c.blt x hm) hv (pa_cons inner pa_nil he2) hn hdb he2 hpl2).mono fun σ H Q h => ?_
  obtain ⟨env, d, env', R, ev, q⟩ := h
  change (evE Φ ia env).bind _ = _ at ev
  obtain ⟨⟨d1, e1⟩, h1, ev⟩ := Option.bind_eq_some_iff.mp ev
  obtain ⟨z, h2, ev⟩ := Option.bind_eq_some_iff.mp ev
  obtain ⟨l, h3, ev⟩ := Option.map_eq_some_iff.mp ev
  cases ev
  refine ⟨env, d1, e1, R, h1, fun v H1 R1 t1 o1 => ?_⟩
  have hx := o1.rd (Per.refl _) R1 h2
  have key : ∃ (xs : List D) (vs : List V) (a : Addr), v = .ref a ∧ (Rd H1 a (.lst vs) ∨ SqT X.K H1 a vs) ∧ TA X.g H1 xs vs ∧ (if setOk xs = true then some (PyData.list (srtD (uqD xs))) else none) = some d := by
    unfold ssetD at h3
    split at h3
    · obtain ⟨a, vs, rfl, rd, ta⟩ := hx.list
      exact ⟨_, vs, a, rfl, .inl rd, ta, h3⟩
    · obtain ⟨a, vs, rfl, sq, ta⟩ := hx.tuple
      exact ⟨_, vs, a, rfl, .inr sq, ta, h3⟩
    · cases h3
  obtain ⟨xs, vs, a, ea, src, ta, h⟩ := key
  split at h
  · rename_i ok
    cases h
    unfold setOk at ok
    rw [Bool.and_eq_true, Bool.and_eq_true, decide_eq_true_eq] at ok
    obtain ⟨⟨o1, o2⟩, o3⟩ := ok
    obtain ⟨ks, rfl⟩ := scals o1
    have ev : vs = ks.map kV := ta_keys ta
    subst ev
    obtain ⟨al, _, _⟩ := srt_of o2
    rw [List.length_map] at o3
    have sub : ∀ k ∈ uqK ks, k ∈ ks := by
      have go : ∀ (ks acc : List Key), ∀ k ∈ ks.foldl addK acc, k ∈ acc ∨ k ∈ ks := by
        intro ks
        induction ks with
        | nil => intro acc k h; exact .inl h
        | cons j ks ih =>
          intro acc k h
          rcases ih _ k h with h | h
          · unfold addK at h
            split at h
            · exact .inl h
            · rcases List.mem_cons.mp h with h | h
              · exact .inr (by rw [h]; exact List.mem_cons_self)
              · exact .inl h
          · exact .inr (List.mem_cons_of_mem _ h)
      intro k h
      rcases go ks [] k h with h | h
      · cases h
      · exact h
    refine ⟨c.calm, ks, a, by rw [ea], src, o3, fun p hp => ⟨c.calm, c.units, p, uqK ks, rfl, upd_same, fun x hx y hy => ?_, fun M r eM hr => ?_⟩⟩
    · obtain ⟨k1, m1, rfl⟩ := List.mem_map.mp hx
      obtain ⟨k2, m2, rfl⟩ := List.mem_map.mp hy
      exact al _ (List.mem_map.mpr ⟨k1, sub _ m1, rfl⟩) _ (List.mem_map.mpr ⟨k2, sub _ m2, rfl⟩)
    · have hr1 : H1 r = none := by
        by_cases e : r = p
        · rw [e]; exact hp
        · rw [upd_ne e] at hr; exact hr
      have Rn : Rep X.g e1 σ (upd H1 p (SetSO X.w p (uqK ks))) := R1.new hp
      have tm : TA X.g (upd (upd H1 p (SetSO X.w p (uqK ks))) r (.lst (M.map kV))) (M.map keyD) (M.map kV) := tas_keys M
      rw [uqD_keys, ← eM] at q
      exact q r _ (Rn.new hr) ((t1.trans (Tr.new hp)).trans (Tr.new hr)) ⟨r, _, rfl, upd_same, tm⟩ (none_of_tr (t1.trans (Tr.new hp)) hr) (Rn.notIn hr)
  · cases h
end
end Dv
namespace Lw
open PySem PySem.Spec L2 Dv
abbrev pw : Program := PySem.Challenge.pw_tapestride_k72_counts_of_runs
def top (i : Nat) : Stmt := pw.main.body.getD i (.Pass ⟨0, 0, 0, 0⟩)
def B : List Str := ["abs", "bool", "dict", "int", "isinstance", "len", "list", "range", "set", "sorted", "str", "sum", "tuple"]
abbrev st__law_draws : Stmt := top 4
def bd__law_draws_0 : List IS := [(.ifs (.cmp .gt (.pl 6) (.int 0)) [(.expr (.mu .append 2 [(.op .mod (.blt .int [(.pl 6)]) (.int 997))])), (.asg 6 (.op .fdiv (.pl 6) (.int 997)))] [])]
def bd__law_draws_1 : List IS := [(.asg 5 (.blt .abs [(.blt .int [(.idxX 0 (.v 4))])])), (.asg 3 (.op .mod (.blt .int [(.op .add (.op .add (.op .mul (.pl 3) (.int 48271)) (.op .mod (.pl 5) (.int 1000003))) (.pl 4))]) (.int 65537))), (.asg 6 (.int 0)), (.ifs (.cmp .ge (.pl 5) (.op .pow (.int 10) (.int 18))) [(.asg 6 (.v 5))] [(.expr (.mu .append 2 [(.op .mod (.blt .int [(.pl 5)]) (.int 997))])), (.expr (.mu .append 2 [(.op .mod (.op .mod (.blt .int [(.op .add (.op .mul (.pl 3) (.int 69621)) (.int 5))]) (.int 65521)) (.int 997))]))]), (.forS (.n 7) (.rng [(.int 60)]) bd__law_draws_0)]
def bd__law_draws_2 : List IS := [(.asg 3 (.op .mod (.blt .int [(.op .add (.op .add (.op .mul (.pl 3) (.int 16807)) (.pl 4)) (.int 1))]) (.int 65537))), (.expr (.mu .append 2 [(.op .mod (.blt .int [(.pl 3)]) (.int 997))]))]
def ir__law_draws : List IS := [(.asgF 2 (.lst [])), (.asg 3 (.int 7)), (.forS (.n 4) (.rng [(.lenX 0)]) bd__law_draws_1), (.forS (.n 4) (.rng [(.v 1)]) bd__law_draws_2), (.ret (.cut (.pl 2) none (some (.v 1))))]
abbrev N__law_draws : List Str := ["script", "many", "draws", "mixed", "k", "cell", "rest", "turn"]
def P__law_draws : Nat → Fn := fun _ _ => none
noncomputable def F__law_draws : Fn := evFn P__law_draws 2 8 ir__law_draws
abbrev st__law_next : Stmt := top 5
def ir__law_next : List IS := [(.augP 0 (.str "at") .add (.int 1)), (.ifs (.cmp .gt (.idx (.pl 0) (.str "at")) (.blt .len [(.idx (.pl 0) (.str "draws"))])) [(.ret (.int 0))] []), (.ret (.op .mod (.blt .int [(.idx (.idx (.pl 0) (.str "draws")) (.op .sub (.idx (.pl 0) (.str "at")) (.int 1)))]) (.pl 1)))]
abbrev N__law_next : List Str := ["w", "many"]
def P__law_next : Nat → Fn := fun _ _ => none
noncomputable def F__law_next : Fn := evFn P__law_next 2 2 ir__law_next
abbrev st__law_pick : Stmt := top 6
def ir__law_pick : List IS := [(.ret (.idx (.pl 1) (.call 2 [(.ow 0), (.blt .len [(.pl 1)])])))]
abbrev N__law_pick : List Str := ["w", "rows"]
noncomputable def P__law_pick : Nat → Fn := fun k => match k with | 2 => F__law_next | _ => fun _ => none
noncomputable def F__law_pick : Fn := evFn P__law_pick 2 2 ir__law_pick
abbrev st__law_alike : Stmt := top 7
def cd__law_alike_0 : List IE := [(.not (.call 4 [(.idx (.pl 0) (.pl 2)), (.idx (.pl 1) (.pl 2))]))]
def ir__law_alike : List IS := [(.ifs (.isi (.v 1) .tup) [(.ifs (.or (.not (.isi (.v 0) .tup)) (.cmp .ne (.blt .len [(.pl 0)]) (.blt .len [(.pl 1)]))) [(.ret (.bool false))] []), (.ret (.cmp .eq (.lc (.v 2) (.n 2) (.rng [(.blt .len [(.pl 1)])]) cd__law_alike_0 [2]) (.lst [])))] []), (.ifs (.cmp .isN (.pl 1) .non) [(.ret (.cmp .isN (.pl 0) .non))] []), (.ifs (.isi (.v 1) .bool) [(.ret (.and (.isi (.v 0) .bool) (.cmp .eq (.pl 0) (.pl 1))))] []), (.ifs (.isi (.v 1) .int) [(.ret (.and (.isi (.v 0) .int) (.and (.not (.isi (.v 0) .bool)) (.cmp .eq (.pl 0) (.pl 1)))))] []), (.ret (.and (.isi (.v 0) .str) (.cmp .eq (.pl 0) (.pl 1))))]
abbrev N__law_alike : List Str := ["told", "due", "k"]
noncomputable def P__law_alike (self : Fn) : Nat → Fn := fun k => match k with | 4 => self | _ => fun _ => none
noncomputable def R__law_alike : Nat → Fn | 0 => fun _ => none | m + 1 => evFn (P__law_alike (R__law_alike m)) 2 3 ir__law_alike
noncomputable def F__law_alike : Fn := R__law_alike 12
abbrev st_count_runs : Stmt := top 1
def el_count_runs_0 : IE := (.tup [(.v 9), (.int 1)])
def bd_count_runs_1 : List IS := [(.ifs (.and (.cmp .eq (.pl 6) (.pl 3)) (.cmp .isin (.pl 5) (.pl 2))) [(.put 4 (.v 8) (.op .add (.met .get (.pl 4) [(.v 8), (.int 0)]) (.idx (.pl 2) (.pl 5))))] [])]
def bd_count_runs_2 : List IS := [(.asgF 4 (.dct [])), (.forS (.t [(.n 5), (.n 6), (.n 7), (.n 8)]) (.idx (.pl 0) (.int 3)) bd_count_runs_1), (.asg 2 (.fz 4))]
def el_count_runs_3 : IE := (.met .get (.pl 2) [(.v 9), (.int 0)])
def ir_count_runs : List IS := [(.asg 2 (.blt .dict [(.lc el_count_runs_0 (.n 9) (.idx (.pl 0) (.int 1)) [] [9])])), (.forS (.n 3) (.pl 1) bd_count_runs_2), (.ret (.blt .sum [(.lc el_count_runs_3 (.t [(.n 9), (.n 7)]) (.idx (.pl 0) (.int 2)) [] [9, 7])]))]
abbrev N_count_runs : List Str := ["machine", "row", "counts", "sign", "later", "p", "own", "_", "q", "state"]
def P_count_runs : Nat → Fn := fun _ _ => none
noncomputable def F_count_runs : Fn := evFn P_count_runs 2 10 ir_count_runs
abbrev st_most_runs : Stmt := top 2
def el_most_runs_0 : IE := (.idx (.pl 15) (.int 1))
def el_most_runs_1 : IE := (.blt .int [(.cmp .isin (.pl 16) (.idx (.pl 0) (.int 1)))])
def bd_most_runs_2 : List IS := [(.ifs (.cmp .eq (.pl 13) (.pl 10)) [(.augP 11 (.v 14) .add (.idx (.pl 7) (.pl 12)))] [])]
def bd_most_runs_3 : List IS := [(.asgF 11 (.rep [(.int 0)] (.idx (.pl 0) (.int 0)))), (.forS (.t [(.n 12), (.n 13), (.n 4), (.n 14)]) (.idx (.pl 0) (.int 3)) bd_most_runs_2), (.expr (.mu .setdefault 8 [(.blt .tuple [(.pl 11)]), (.op .add (.pl 6) (.pl 10))]))]
def bd_most_runs_4 : List IS := [(.forS (.n 10) (.pl 2) bd_most_runs_3)]
def el_most_runs_5 : IE := (.tup [(.idx (.pl 8) (.pl 7)), (.v 7)])
def bd_most_runs_6 : List IS := [(.asgF 8 (.dct [])), (.forS (.t [(.n 6), (.n 7)]) (.pl 3) bd_most_runs_4), (.frz 8), (.asgF 3 (.lc el_most_runs_5 (.n 7) (.pl 8) [] [7])), (.frz 3)]
def el_most_runs_7 : IE := (.idx (.pl 7) (.pl 16))
def bd_most_runs_8 : List IS := [(.asg 9 (.blt .sum [(.lc el_most_runs_7 (.t [(.n 16), (.n 4)]) (.idx (.pl 0) (.int 2)) [] [16, 4])])), (.ifs (.or (.cmp .isN (.pl 5) .non) (.cmp .lt (.tup [(.neg (.v 9)), (.v 6)]) (.tup [(.neg (.idx (.pl 5) (.int 0))), (.idx (.pl 5) (.int 1))]))) [(.asg 5 (.tup [(.v 9), (.v 6)]))] [])]
def ir_most_runs : List IS := [(.asg 2 (.sset (.lc el_most_runs_0 (.n 15) (.idx (.pl 0) (.int 3)) [] [15]))), (.asg 3 (.lst [(.tup [(.str ""), (.blt .tuple [(.lc el_most_runs_1 (.n 16) (.rng [(.idx (.pl 0) (.int 0))]) [] [16])])])])), (.forS (.n 4) (.rng [(.v 1)]) bd_most_runs_6), (.asg 5 .non), (.forS (.t [(.n 6), (.n 7)]) (.pl 3) bd_most_runs_8), (.ret (.v 5))]
abbrev N_most_runs : List Str := ["machine", "n", "signs", "rows", "_", "best", "row", "counts", "met", "many", "sign", "later", "p", "own", "q", "arrow", "state"]
def P_most_runs : Nat → Fn := fun _ _ => none
noncomputable def F_most_runs : Fn := evFn P_most_runs 2 17 ir_most_runs
abbrev st__law_set : Stmt := top 8
def bd__law_set_0 : List IS := [(.ifs (.or (.cmp .eq (.pl 1) (.lst [])) (.cmp .ne (.idx (.pl 1) (.op .sub (.blt .len [(.pl 1)]) (.int 1))) (.pl 2))) [(.expr (.mu .append 1 [(.v 2)]))] [])]
def ir__law_set : List IS := [(.asgF 1 (.lst [])), (.forS (.n 2) (.blt .sorted [(.pl 0)]) bd__law_set_0), (.ret (.blt .tuple [(.pl 1)]))]
abbrev N__law_set : List Str := ["things", "found", "thing"]
def P__law_set : Nat → Fn := fun _ _ => none
noncomputable def F__law_set : Fn := evFn P__law_set 1 3 ir__law_set
abbrev st__law_machine : Stmt := top 9
def el__law_machine_0 : IE := (.call 2 [(.ow 0), (.v 1)])
def el__law_machine_1 : IE := (.tup [(.call 2 [(.ow 0), (.v 1)]), (.call 3 [(.ow 0), (.v 2)])])
def el__law_machine_2 : IE := (.tup [(.call 2 [(.ow 0), (.v 1)]), (.call 3 [(.ow 0), (.str "ab")]), (.call 3 [(.ow 0), (.v 2)]), (.call 2 [(.ow 0), (.v 1)])])
def ir__law_machine : List IS := [(.asg 1 (.op .add (.int 1) (.call 2 [(.ow 0), (.int 3)]))), (.asg 2 (.lst [(.str ""), (.str "a"), (.str "b")])), (.asgF 3 (.lc el__law_machine_0 (.n 6) (.rng [(.call 3 [(.ow 0), (.lst [(.int 1), (.int 1), (.int 2), (.int 0)])])]) [] [6])), (.frz 3), (.asgF 4 (.lc el__law_machine_1 (.n 6) (.rng [(.op .add (.int 1) (.call 2 [(.ow 0), (.int 3)]))]) [] [6])), (.frz 4), (.asgF 5 (.lc el__law_machine_2 (.n 6) (.rng [(.call 2 [(.ow 0), (.int 7)])]) [] [6])), (.frz 5), (.ret (.tup [(.v 1), (.call 106 [(.v 3)]), (.call 106 [(.v 4)]), (.call 106 [(.v 5)])]))]
abbrev N__law_machine : List Str := ["w", "many", "outs", "begins", "ends", "arrows", "k"]
noncomputable def P__law_machine : Nat → Fn := fun k => match k with | 2 => F__law_next | 3 => F__law_pick | 106 => F__law_set | _ => fun _ => none
noncomputable def F__law_machine : Fn := evFn P__law_machine 1 7 ir__law_machine
abbrev st__law_runs : Stmt := top 10
def cd__law_runs_0 : List IE := [(.and (.cmp .eq (.pl 6) (.pl 5)) (.cmp .eq (.pl 7) (.pl 3)))]
def bd__law_runs_1 : List IS := [(.asg 4 (.op .add (.pl 4) (.lc (.v 9) (.t [(.n 6), (.n 7), (.n 8), (.n 9)]) (.idx (.pl 0) (.int 3)) cd__law_runs_0 [6, 7, 8, 9])))]
def bd__law_runs_2 : List IS := [(.asg 4 (.lst [])), (.forS (.n 5) (.pl 2) bd__law_runs_1), (.asg 2 (.v 4))]
def cd__law_runs_3 : List IE := [(.cmp .eq (.idx (.pl 10) (.int 0)) (.pl 5))]
def el__law_runs_4 : IE := (.blt .len [(.lc (.v 10) (.n 10) (.idx (.pl 0) (.int 2)) cd__law_runs_3 [10])])
def ir__law_runs : List IS := [(.asg 2 (.blt .list [(.idx (.pl 0) (.int 1))])), (.forS (.n 3) (.pl 1) bd__law_runs_2), (.ret (.blt .sum [(.lc el__law_runs_4 (.n 5) (.pl 2) [] [5])]))]
abbrev N__law_runs : List Str := ["machine", "row", "ways", "sign", "longer", "state", "p", "own", "out", "q", "end"]
def P__law_runs : Nat → Fn := fun _ _ => none
noncomputable def F__law_runs : Fn := evFn P__law_runs 2 11 ir__law_runs
abbrev st__law_rows : Stmt := top 11
def el__law_rows_0 : IE := (.op .add (.pl 5) (.pl 6))
def bd__law_rows_1 : List IS := [(.asg 4 (.op .add (.pl 4) (.lc el__law_rows_0 (.n 6) (.pl 0) [] [6])))]
def bd__law_rows_2 : List IS := [(.asg 4 (.lst [])), (.forS (.n 5) (.pl 2) bd__law_rows_1), (.asg 2 (.v 4))]
def ir__law_rows : List IS := [(.asg 2 (.lst [(.str "")])), (.forS (.n 3) (.rng [(.v 1)]) bd__law_rows_2), (.ret (.v 2))]
abbrev N__law_rows : List Str := ["signs", "n", "found", "k", "more", "row", "sign"]
def P__law_rows : Nat → Fn := fun _ _ => none
noncomputable def F__law_rows : Fn := evFn P__law_rows 2 7 ir__law_rows
abbrev st_law : Stmt := top 12
def el_law_0 : IE := (.call 3 [(.ow 1), (.str "ab")])
def bd_law_1 : List IS := [(.asg 8 (.met .join (.str "") [(.lc el_law_0 (.n 11) (.rng [(.call 2 [(.ow 1), (.int 6)])]) [] [11])])), (.ifs (.not (.call 4 [(.call 100 [(.v 3), (.v 8)]), (.call 108 [(.v 3), (.v 8)])])) [(.ret (.bool false))] [])]
def el_law_2 : IE := (.idx (.pl 12) (.int 1))
def cd_law_3 : List IE := [(.cmp .isin (.pl 10) (.lc el_law_2 (.n 12) (.idx (.pl 3) (.int 3)) [] [12]))]
def bd_law_4 : List IS := [(.asg 9 (.call 108 [(.v 3), (.v 8)])), (.ifs (.or (.cmp .isN (.pl 7) .non) (.cmp .gt (.pl 9) (.idx (.pl 7) (.int 0)))) [(.asg 7 (.tup [(.v 9), (.v 8)]))] [])]
def bd_law_5 : List IS := [(.asg 3 (.call 107 [(.ow 1)])), (.forS (.n 4) (.rng [(.int 5)]) bd_law_1), (.asgF 5 (.lc (.v 10) (.n 10) (.str "ab") cd_law_3 [10])), (.frz 5), (.asg 6 (.ite (.cmp .ne (.pl 5) (.lst [])) (.call 2 [(.ow 1), (.int 4)]) (.int 0))), (.asg 7 .non), (.forS (.n 8) (.call 109 [(.v 5), (.v 6)]) bd_law_4), (.ifs (.not (.call 4 [(.call 101 [(.v 3), (.v 6)]), (.v 7)])) [(.ret (.bool false))] [])]
def ir_law : List IS := [(.asgF 1 (.dct [(.str "draws"), (.call 1 [(.ex 0), (.int 400)]), (.str "at"), (.int 0)])), (.forS (.n 2) (.rng [(.int 6)]) bd_law_5), (.ret (.bool true))]
abbrev N_law : List Str := ["script", "w", "turn", "machine", "k", "signs", "n", "best", "row", "many", "sign", "j", "arrow"]
noncomputable def P_law : Nat → Fn := fun k => match k with | 4 => F__law_alike | 1 => F__law_draws | 107 => F__law_machine | 2 => F__law_next | 3 => F__law_pick | 109 => F__law_rows | 108 => F__law_runs | 100 => F_count_runs | 101 => F_most_runs | _ => fun _ => none
noncomputable def F_law : Fn := evFn P_law 1 13 ir_law
end Lw
namespace Lw
open PySem PySem.Spec L2 Dv
section
variable {P : Program} {w : World} {K : PySem.W.Frag} {mg : Str → Option Value} {base : Heap} {f : Addr} {fd : FuncData}
theorem b__law_draws {X : Cx} (c : Ct N__law_draws (defScope st__law_draws) 0 B X) : PSs X (defBody st__law_draws) (tSs X.g P__law_draws ir__law_draws) :=
  (s_cons (s_asgF c 2 (f_lst a_nil)) (s_cons (s_asg c 3 c_int) (s_cons (s_for c (i_rng1 c (a_cons (c_o (c_lenX c 0)) a_nil)) (g_n c 4) (s_cons (s_asg c 5 (c_blt c b_abs (a_cons (c_o (c_bty c b_int (a_cons (c_o (c_idxX c 0 (c_v c 4))) a_nil))) a_nil))) (s_cons (s_asg c 3 (c_bin (o := .mod) o_mod (c_o (c_bty c b_int (a_cons (c_o (c_bin (o := .add) o_add (c_o (c_bin (o := .add) o_add (c_o (c_bin (o := .mul) o_mul (c_pl c 3) (c_o c_int))) (c_o (c_bin (o := .mod) o_mod (c_pl c 5) (c_o c_int))))) (c_pl c 4))) a_nil))) (c_o c_int))) (s_cons (s_asg c 6 c_int) (s_cons (s_if (c_tcmp (o_ge c.units) (c_pl c 5) (c_o (c_bin (o := .pow) o_pow (c_o c_int) (c_o c_int)))) (s_cons (s_asg c 6 (c_v c 5)) s_nil) (s_cons (s_expr (c_mu u_append PySem.F.plainAttrs_list PySem.F.slot_list_append rfl (c_ow c 2) (a_cons (c_o (c_bin (o := .mod) o_mod (c_o (c_bty c b_int (a_cons (c_pl c 5) a_nil))) (c_o c_int))) a_nil))) (s_cons (s_expr (c_mu u_append PySem.F.plainAttrs_list PySem.F.slot_list_append rfl (c_ow c 2) (a_cons (c_o (c_bin (o := .mod) o_mod (c_o (c_bin (o := .mod) o_mod (c_o (c_bty c b_int (a_cons (c_o (c_bin (o := .add) o_add (c_o (c_bin (o := .mul) o_mul (c_pl c 3) (c_o c_int))) (c_o c_int))) a_nil))) (c_o c_int))) (c_o c_int))) a_nil))) s_nil))) (s_cons (s_for c (i_rng1 c (a_cons (c_o c_int) a_nil)) (g_n c 7) (s_cons (s_if (c_tcmp (o_gt c.units) (c_pl c 6) (c_o c_int)) (s_cons (s_expr (c_mu u_append PySem.F.plainAttrs_list PySem.F.slot_list_append rfl (c_ow c 2) (a_cons (c_o (c_bin (o := .mod) o_mod (c_o (c_bty c b_int (a_cons (c_pl c 6) a_nil))) (c_o c_int))) a_nil))) (s_cons (s_asg c 6 (c_bin (o := .fdiv) o_fdiv (c_pl c 6) (c_o c_int))) s_nil)) s_nil) s_nil)) s_nil)))))) (s_cons (s_for c (i_rng1 c (a_cons (c_o (c_v c 1)) a_nil)) (g_n c 4) (s_cons (s_asg c 3 (c_bin (o := .mod) o_mod (c_o (c_bty c b_int (a_cons (c_o (c_bin (o := .add) o_add (c_o (c_bin (o := .add) o_add (c_o (c_bin (o := .mul) o_mul (c_pl c 3) (c_o c_int))) (c_pl c 4))) (c_o c_int))) a_nil))) (c_o c_int))) (s_cons (s_expr (c_mu u_append PySem.F.plainAttrs_list PySem.F.slot_list_append rfl (c_ow c 2) (a_cons (c_o (c_bin (o := .mod) o_mod (c_o (c_bty c b_int (a_cons (c_pl c 3) a_nil))) (c_o c_int))) a_nil))) s_nil))) (s_cons (s_ret (c_cut (c_pl c 2) o_non (o_som (c_v c 1)))) s_nil)))))
theorem sc__law_draws : FnScope N__law_draws ["script", "many"] (defScope st__law_draws) := ⟨rfl, rfl, rfl, by decide +kernel, rfl, by decide +kernel, by decide +kernel⟩
theorem ok__law_draws (FD : FunD K "_law_draws" "_law_draws" (defArgs st__law_draws) (defBody st__law_draws) (defScope st__law_draws) [] [] f fd) (hm : mg "_law_draws" = some (.ref f)) (hB : ∀ x ∈ B, mg x = none) : C8.Cal P w K mg base 1 "_law_draws" (spF ⟨P, w, K⟩ F__law_draws) [] :=
  def_ok FD sc__law_draws hm (FD.bindsN fun _ _ _ _ _ _ us hl => match us, hl with | [_, _], _ => rfl) hB rfl rfl (by decide) (fun X h1 h2 h3 h4 h5 c => by subst h1 h2 h3 h4 h5; exact b__law_draws c)
theorem b__law_next {X : Cx} (c : Ct N__law_next (defScope st__law_next) 0 B X) : PSs X (defBody st__law_next) (tSs X.g P__law_next ir__law_next) :=
  (s_cons (s_augP c 0 .add c_str c_int) (s_cons (s_if (c_tcmp (o_gt c.units) (c_o (c_idx c (c_pl c 0) (c_o c_str))) (c_o (c_blt c b_len (a_cons (c_o (c_idx c (c_pl c 0) (c_o c_str))) a_nil)))) (s_cons (s_ret c_int) s_nil) s_nil) (s_cons (s_ret (c_bin (o := .mod) o_mod (c_o (c_bty c b_int (a_cons (c_o (c_idx c (c_o (c_idx c (c_pl c 0) (c_o c_str))) (c_o (c_bin (o := .sub) o_sub (c_o (c_idx c (c_pl c 0) (c_o c_str))) (c_o c_int))))) a_nil))) (c_pl c 1))) s_nil)))
theorem sc__law_next : FnScope N__law_next ["w", "many"] (defScope st__law_next) := ⟨rfl, rfl, rfl, by decide +kernel, rfl, by decide +kernel, by decide +kernel⟩
theorem ok__law_next (FD : FunD K "_law_next" "_law_next" (defArgs st__law_next) (defBody st__law_next) (defScope st__law_next) [] [] f fd) (hm : mg "_law_next" = some (.ref f)) (hB : ∀ x ∈ B, mg x = none) : C8.Cal P w K mg base 1 "_law_next" (spF ⟨P, w, K⟩ F__law_next) [] :=
  def_ok FD sc__law_next hm (FD.bindsN fun _ _ _ _ _ _ us hl => match us, hl with | [_, _], _ => rfl) hB rfl rfl (by decide) (fun X h1 h2 h3 h4 h5 c => by subst h1 h2 h3 h4 h5; exact b__law_next c)
theorem b__law_pick {X : Cx} (c : Ct N__law_pick (defScope st__law_pick) 1 B X) (h__law_next : C8.Cal X.prog X.w X.K X.mg X.base 1 "_law_next" (spF ⟨X.prog, X.w, X.K⟩ F__law_next) []) : PSs X (defBody st__law_pick) (tSs X.g P__law_pick ir__law_pick) :=
  (s_cons (s_ret (c_idx c (c_pl c 1) (c_o (c_call (r_call c h__law_next (a_cons (c_ow c 0) (a_cons (c_o (c_blt c b_len (a_cons (c_pl c 1) a_nil))) a_nil))))))) s_nil)
theorem sc__law_pick : FnScope N__law_pick ["w", "rows"] (defScope st__law_pick) := ⟨rfl, rfl, rfl, by decide +kernel, rfl, by decide +kernel, by decide +kernel⟩
theorem ok__law_pick (FD : FunD K "_law_pick" "_law_pick" (defArgs st__law_pick) (defBody st__law_pick) (defScope st__law_pick) [] [] f fd) (hm : mg "_law_pick" = some (.ref f)) (hB : ∀ x ∈ B, mg x = none) (h__law_next : C8.Cal P w K mg base 1 "_law_next" (spF ⟨P, w, K⟩ F__law_next) []) : C8.Cal P w K mg base 2 "_law_pick" (spF ⟨P, w, K⟩ F__law_pick) [] :=
  def_ok FD sc__law_pick hm (FD.bindsN fun _ _ _ _ _ _ us hl => match us, hl with | [_, _], _ => rfl) hB rfl rfl (by decide) (fun X h1 h2 h3 h4 h5 c => by subst h1 h2 h3 h4 h5; exact b__law_pick c h__law_next)
theorem b__law_alike {X : Cx} {self : Fn} {j : Nat} (hj : 0 ≤ j) (c : Ct N__law_alike (defScope st__law_alike) j B X) (h__law_alike : C8.Cal X.prog X.w X.K X.mg X.base j "_law_alike" (spF ⟨X.prog, X.w, X.K⟩ self) []) : PSs X (defBody st__law_alike) (tSs X.g (P__law_alike self) ir__law_alike) :=
  (s_cons (s_if (c_tv (c_isi c (t := .tup) (c_v c 1))) (s_cons (s_if (L2.PW.pt (c_tor (c_tnot (c_tv (c_isi c (t := .tup) (c_v c 0)))) (c_tor1 (c_tcmp (o_ne c.units) (c_o (c_blt c b_len (a_cons (c_pl c 0) a_nil))) (c_o (c_blt c b_len (a_cons (c_pl c 1) a_nil))))))) (s_cons (s_ret c_bool) s_nil) s_nil) (s_cons (s_ret (c_cmp (o_eq c.units) (c_o (c_frz (f_lc c [("k", 2)] (i_rng1 c (a_cons (c_o (c_blt c b_len (a_cons (c_pl c 1) a_nil))) a_nil)) (fun _ _ _ _ _ c => (g_n c 2)) (fun _ _ _ _ _ c => (if_one (c_tnot (c_tv (c_call (r_call c h__law_alike (a_cons (c_o (c_idx c (c_pl c 0) (c_pl c 2))) (a_cons (c_o (c_idx c (c_pl c 1) (c_pl c 2))) a_nil)) (Nat.le_refl _))))))) (fun _ _ _ _ _ c => (c_v c 2))))) (c_o (c_frz (f_lst a_nil))))) s_nil)) s_nil) (s_cons (s_if (c_tcmp o_isN (c_pl c 1) (c_o c_non)) (s_cons (s_ret (c_cmp o_isN (c_pl c 0) (c_o c_non))) s_nil) s_nil) (s_cons (s_if (c_tv (c_isi c (t := .bool) (c_v c 1))) (s_cons (s_ret (c_and (c_isi c (t := .bool) (c_v c 0)) (c_one (c_cmp (o_eq c.units) (c_pl c 0) (c_pl c 1))))) s_nil) s_nil) (s_cons (s_if (c_tv (c_isi c (t := .int) (c_v c 1))) (s_cons (s_ret (c_and (c_isi c (t := .int) (c_v c 0)) (c_and (c_not (c_isi c (t := .bool) (c_v c 0))) (c_one (c_cmp (o_eq c.units) (c_pl c 0) (c_pl c 1)))))) s_nil) s_nil) (s_cons (s_ret (c_and (c_isi c (t := .str) (c_v c 0)) (c_one (c_cmp (o_eq c.units) (c_pl c 0) (c_pl c 1))))) s_nil)))))
theorem sc__law_alike : FnScope N__law_alike ["told", "due"] (defScope st__law_alike) := ⟨rfl, rfl, rfl, by decide +kernel, rfl, by decide +kernel, by decide +kernel⟩
theorem one__law_alike {self : Fn} {j : Nat} (hj : 0 ≤ j) (FD : FunD K "_law_alike" "_law_alike" (defArgs st__law_alike) (defBody st__law_alike) (defScope st__law_alike) [] [] f fd) (hm : mg "_law_alike" = some (.ref f)) (hB : ∀ x ∈ B, mg x = none) (h__law_alike : C8.Cal P w K mg base j "_law_alike" (spF ⟨P, w, K⟩ self) []) : C8.Cal P w K mg base (j + 1) "_law_alike" (spF ⟨P, w, K⟩ (evFn (P__law_alike self) 2 3 ir__law_alike)) [] :=
  def_ok FD sc__law_alike hm (FD.bindsN fun _ _ _ _ _ _ us hl => match us, hl with | [_, _], _ => rfl) hB rfl rfl (by decide) (fun X h1 h2 h3 h4 h5 c => by subst h1 h2 h3 h4 h5; exact b__law_alike hj c h__law_alike)
theorem ok__law_alike (FD : FunD K "_law_alike" "_law_alike" (defArgs st__law_alike) (defBody st__law_alike) (defScope st__law_alike) [] [] f fd) (hm : mg "_law_alike" = some (.ref f)) (hB : ∀ x ∈ B, mg x = none) : C8.Cal P w K mg base 13 "_law_alike" (spF ⟨P, w, K⟩ F__law_alike) [] := by
  have key : ∀ m, C8.Cal P w K mg base (1 + m) "_law_alike" (spF ⟨P, w, K⟩ (R__law_alike m)) [] := fun m => by
    induction m with
    | zero => exact cal_none FD hm (ps := ["told", "due"]) (FD.bindsN fun _ _ _ _ _ _ us hl => match us, hl with | [_, _], _ => rfl)
    | succ m ih => exact one__law_alike (by omega) FD hm hB ih
  exact key 12
theorem b_count_runs {X : Cx} (c : Ct N_count_runs (defScope st_count_runs) 0 B X) : PSs X (defBody st_count_runs) (tSs X.g P_count_runs ir_count_runs) :=
  (s_cons (s_asg c 2 (c_frz (f_dictP c (a_cons (c_o (c_frz (f_lc c [("state", 9)] (i_v (c_idx c (c_pl c 0) (c_o c_int))) (fun _ _ _ _ _ c => (g_n c 9)) (fun _ _ _ _ _ c => if_nil) (fun _ _ _ _ _ c => (c_tup (a_cons (c_o (c_v c 9)) (a_cons (c_o c_int) a_nil))))))) a_nil)))) (s_cons (s_for c (i_pl c 1) (g_n c 3) (s_cons (s_asgF c 4 f_dct0) (s_cons (s_for c (i_v (c_idx c (c_pl c 0) (c_o c_int))) (g_t c (gs_cons (g_n c 5) (gs_cons (g_n c 6) (gs_cons (g_n c 7) (gs_cons (g_n c 8) gs_nil))))) (s_cons (s_if (L2.PW.pt (c_tand (c_tcmp (o_eq c.units) (c_pl c 6) (c_pl c 3)) (c_tand1 (c_tcmp (o_in c.units) (c_pl c 5) (c_pl c 2))))) (s_cons (s_put c 4 (c_v c 8) (c_bin (o := .add) o_add (c_o (c_met (m_get c.units) PySem.F.plainAttrs_dict PySem.F.slot_dict_get rfl (c_pl c 4) (a_cons (c_o (c_v c 8)) (a_cons (c_o c_int) a_nil)))) (c_o (c_idx c (c_pl c 2) (c_pl c 5))))) s_nil) s_nil) s_nil)) (s_cons (s_asg c 2 (c_fz c 4)) s_nil)))) (s_cons (s_ret (c_blt c (b_sum c.calm) (a_cons (c_o (c_frz (f_lc c [("state", 9), ("_", 7)] (i_v (c_idx c (c_pl c 0) (c_o c_int))) (fun _ _ _ _ _ c => (g_t c (gs_cons (g_n c 9) (gs_cons (g_n c 7) gs_nil)))) (fun _ _ _ _ _ c => if_nil) (fun _ _ _ _ _ c => (c_met (m_get c.units) PySem.F.plainAttrs_dict PySem.F.slot_dict_get rfl (c_pl c 2) (a_cons (c_o (c_v c 9)) (a_cons (c_o c_int) a_nil))))))) a_nil))) s_nil)))
theorem sc_count_runs : FnScope N_count_runs ["machine", "row"] (defScope st_count_runs) := ⟨rfl, rfl, rfl, by decide +kernel, rfl, by decide +kernel, by decide +kernel⟩
theorem ok_count_runs (FD : FunD K "count_runs" "count_runs" (defArgs st_count_runs) (defBody st_count_runs) (defScope st_count_runs) [] [] f fd) (hm : mg "count_runs" = some (.ref f)) (hB : ∀ x ∈ B, mg x = none) : C8.Cal P w K mg base 1 "count_runs" (spF ⟨P, w, K⟩ F_count_runs) [] :=
  def_ok FD sc_count_runs hm (FD.bindsN fun _ _ _ _ _ _ us hl => match us, hl with | [_, _], _ => rfl) hB rfl rfl (by decide) (fun X h1 h2 h3 h4 h5 c => by subst h1 h2 h3 h4 h5; exact b_count_runs c)
theorem b_most_runs {X : Cx} (c : Ct N_most_runs (defScope st_most_runs) 0 B X) : PSs X (defBody st_most_runs) (tSs X.g P_most_runs ir_most_runs) :=
  (s_cons (s_asg c 2 (c_frz (f_sset c (c_o (c_frz (f_lc c [("arrow", 15)] (i_v (c_idx c (c_pl c 0) (c_o c_int))) (fun _ _ _ _ _ c => (g_n c 15)) (fun _ _ _ _ _ c => if_nil) (fun _ _ _ _ _ c => (c_idx c (c_pl c 15) (c_o c_int))))))))) (s_cons (s_asg c 3 (c_frz (f_lst (a_cons (c_o (c_tup (a_cons (c_o c_str) (a_cons (c_o (c_bty c b_tuple (a_cons (c_o (c_frz (f_lc c [("state", 16)] (i_rng1 c (a_cons (c_o (c_idx c (c_pl c 0) (c_o c_int))) a_nil)) (fun _ _ _ _ _ c => (g_n c 16)) (fun _ _ _ _ _ c => if_nil) (fun _ _ _ _ _ c => (c_bty c b_int (a_cons (c_o (c_cmp (o_in c.units) (c_pl c 16) (c_o (c_idx c (c_pl c 0) (c_o c_int))))) a_nil)))))) a_nil))) a_nil)))) a_nil)))) (s_cons (s_for c (i_rng1 c (a_cons (c_o (c_v c 1)) a_nil)) (g_n c 4) (s_cons (s_asgF c 8 f_dct0) (s_cons (s_for c (i_pl c 3) (g_t c (gs_cons (g_n c 6) (gs_cons (g_n c 7) gs_nil))) (s_cons (s_for c (i_pl c 2) (g_n c 10) (s_cons (s_asgF c 11 (f_rep (f_lst (a_cons (c_o c_int) a_nil)) (c_idx c (c_pl c 0) (c_o c_int)))) (s_cons (s_for c (i_v (c_idx c (c_pl c 0) (c_o c_int))) (g_t c (gs_cons (g_n c 12) (gs_cons (g_n c 13) (gs_cons (g_n c 4) (gs_cons (g_n c 14) gs_nil))))) (s_cons (s_if (c_tcmp (o_eq c.units) (c_pl c 13) (c_pl c 10)) (s_cons (s_augP c 11 .add (c_v c 14) (c_idx c (c_pl c 7) (c_pl c 12))) s_nil) s_nil) s_nil)) (s_cons (s_expr (c_mu (u_setdefault c.units) PySem.F.plainAttrs_dict PySem.F.slot_dict_setdefault rfl (c_ow c 8) (a_cons (c_o (c_bty c b_tuple (a_cons (c_pl c 11) a_nil))) (a_cons (c_o (c_bin (o := .add) o_add (c_pl c 6) (c_pl c 10))) a_nil)))) s_nil)))) s_nil)) (s_frz 8 (s_cons (s_setLc2 c 3 [("counts", 7)] (i_pl c 8) (fun _ _ _ _ _ c => (g_n c 7)) (fun _ _ _ _ _ c => if_nil) (fun _ _ _ _ _ c => (c_tup (a_cons (c_o (c_idx c (c_pl c 8) (c_pl c 7))) (a_cons (c_o (c_v c 7)) a_nil))))) (s_frz 3 s_nil)))))) (s_cons (s_asg c 5 c_non) (s_cons (s_for c (i_pl c 3) (g_t c (gs_cons (g_n c 6) (gs_cons (g_n c 7) gs_nil))) (s_cons (s_asg c 9 (c_blt c (b_sum c.calm) (a_cons (c_o (c_frz (f_lc c [("state", 16), ("_", 4)] (i_v (c_idx c (c_pl c 0) (c_o c_int))) (fun _ _ _ _ _ c => (g_t c (gs_cons (g_n c 16) (gs_cons (g_n c 4) gs_nil)))) (fun _ _ _ _ _ c => if_nil) (fun _ _ _ _ _ c => (c_idx c (c_pl c 7) (c_pl c 16)))))) a_nil))) (s_cons (s_if (L2.PW.pt (c_tor (c_tcmp o_isN (c_pl c 5) (c_o c_non)) (c_tor1 (c_tcmp (o_lt c.units) (c_o (c_tup (a_cons (c_o (c_neg (c_v c 9))) (a_cons (c_o (c_v c 6)) a_nil)))) (c_o (c_tup (a_cons (c_o (c_neg (c_idx c (c_pl c 5) (c_o c_int)))) (a_cons (c_o (c_idx c (c_pl c 5) (c_o c_int))) a_nil)))))))) (s_cons (s_asg c 5 (c_tup (a_cons (c_o (c_v c 9)) (a_cons (c_o (c_v c 6)) a_nil)))) s_nil) s_nil) s_nil))) (s_cons (s_ret (c_v c 5)) s_nil))))))
theorem sc_most_runs : FnScope N_most_runs ["machine", "n"] (defScope st_most_runs) := ⟨rfl, rfl, rfl, by decide +kernel, rfl, by decide +kernel, by decide +kernel⟩
theorem ok_most_runs (FD : FunD K "most_runs" "most_runs" (defArgs st_most_runs) (defBody st_most_runs) (defScope st_most_runs) [] [] f fd) (hm : mg "most_runs" = some (.ref f)) (hB : ∀ x ∈ B, mg x = none) : C8.Cal P w K mg base 1 "most_runs" (spF ⟨P, w, K⟩ F_most_runs) [] :=
  def_ok FD sc_most_runs hm (FD.bindsN fun _ _ _ _ _ _ us hl => match us, hl with | [_, _], _ => rfl) hB rfl rfl (by decide) (fun X h1 h2 h3 h4 h5 c => by subst h1 h2 h3 h4 h5; exact b_most_runs c)
theorem b__law_set {X : Cx} (c : Ct N__law_set (defScope st__law_set) 0 B X) : PSs X (defBody st__law_set) (tSs X.g P__law_set ir__law_set) :=
  (s_cons (s_asgF c 1 (f_lst a_nil)) (s_cons (s_for c (i_v (c_blt c (b_sorted c.units) (a_cons (c_pl c 0) a_nil))) (g_n c 2) (s_cons (s_if (L2.PW.pt (c_tor (c_tcmp (o_eq c.units) (c_pl c 1) (c_o (c_frz (f_lst a_nil)))) (c_tor1 (c_tcmp (o_ne c.units) (c_o (c_idx c (c_pl c 1) (c_o (c_bin (o := .sub) o_sub (c_o (c_blt c b_len (a_cons (c_pl c 1) a_nil))) (c_o c_int))))) (c_pl c 2))))) (s_cons (s_expr (c_mu u_append PySem.F.plainAttrs_list PySem.F.slot_list_append rfl (c_ow c 1) (a_cons (c_o (c_v c 2)) a_nil))) s_nil) s_nil) s_nil)) (s_cons (s_ret (c_bty c b_tuple (a_cons (c_pl c 1) a_nil))) s_nil)))
theorem sc__law_set : FnScope N__law_set ["things"] (defScope st__law_set) := ⟨rfl, rfl, rfl, by decide +kernel, rfl, by decide +kernel, by decide +kernel⟩
theorem ok__law_set (FD : FunD K "_law_set" "_law_set" (defArgs st__law_set) (defBody st__law_set) (defScope st__law_set) [] [] f fd) (hm : mg "_law_set" = some (.ref f)) (hB : ∀ x ∈ B, mg x = none) : C8.Cal P w K mg base 1 "_law_set" (spF ⟨P, w, K⟩ F__law_set) [] :=
  def_ok FD sc__law_set hm (FD.bindsN fun _ _ _ _ _ _ us hl => match us, hl with | [_], _ => rfl) hB rfl rfl (by decide) (fun X h1 h2 h3 h4 h5 c => by subst h1 h2 h3 h4 h5; exact b__law_set c)
theorem b__law_machine {X : Cx} (c : Ct N__law_machine (defScope st__law_machine) 2 B X) (h__law_next : C8.Cal X.prog X.w X.K X.mg X.base 1 "_law_next" (spF ⟨X.prog, X.w, X.K⟩ F__law_next) []) (h__law_pick : C8.Cal X.prog X.w X.K X.mg X.base 2 "_law_pick" (spF ⟨X.prog, X.w, X.K⟩ F__law_pick) []) (h__law_set : C8.Cal X.prog X.w X.K X.mg X.base 1 "_law_set" (spF ⟨X.prog, X.w, X.K⟩ F__law_set) []) : PSs X (defBody st__law_machine) (tSs X.g P__law_machine ir__law_machine) :=
  (s_cons (s_asg c 1 (c_bin (o := .add) o_add (c_o c_int) (c_o (c_call (r_call c h__law_next (a_cons (c_ow c 0) (a_cons (c_o c_int) a_nil))))))) (s_cons (s_asg c 2 (c_frz (f_lst (a_cons (c_o c_str) (a_cons (c_o c_str) (a_cons (c_o c_str) a_nil)))))) (s_cons (s_setLc2 c 3 [("k", 6)] (i_rng1 c (a_cons (c_o (c_call (r_call c h__law_pick (a_cons (c_ow c 0) (a_cons (c_o (c_frz (f_lst (a_cons (c_o c_int) (a_cons (c_o c_int) (a_cons (c_o c_int) (a_cons (c_o c_int) a_nil))))))) a_nil))))) a_nil)) (fun _ _ _ _ _ c => (g_n c 6)) (fun _ _ _ _ _ c => if_nil) (fun _ _ _ _ _ c => (c_call (r_call c h__law_next (a_cons (c_ow c 0) (a_cons (c_o (c_v c 1)) a_nil)))))) (s_frz 3 (s_cons (s_setLc2 c 4 [("k", 6)] (i_rng1 c (a_cons (c_o (c_bin (o := .add) o_add (c_o c_int) (c_o (c_call (r_call c h__law_next (a_cons (c_ow c 0) (a_cons (c_o c_int) a_nil))))))) a_nil)) (fun _ _ _ _ _ c => (g_n c 6)) (fun _ _ _ _ _ c => if_nil) (fun _ _ _ _ _ c => (c_tup (a_cons (c_o (c_call (r_call c h__law_next (a_cons (c_ow c 0) (a_cons (c_o (c_v c 1)) a_nil))))) (a_cons (c_o (c_call (r_call c h__law_pick (a_cons (c_ow c 0) (a_cons (c_o (c_v c 2)) a_nil))))) a_nil))))) (s_frz 4 (s_cons (s_setLc2 c 5 [("k", 6)] (i_rng1 c (a_cons (c_o (c_call (r_call c h__law_next (a_cons (c_ow c 0) (a_cons (c_o c_int) a_nil))))) a_nil)) (fun _ _ _ _ _ c => (g_n c 6)) (fun _ _ _ _ _ c => if_nil) (fun _ _ _ _ _ c => (c_tup (a_cons (c_o (c_call (r_call c h__law_next (a_cons (c_ow c 0) (a_cons (c_o (c_v c 1)) a_nil))))) (a_cons (c_o (c_call (r_call c h__law_pick (a_cons (c_ow c 0) (a_cons (c_o c_str) a_nil))))) (a_cons (c_o (c_call (r_call c h__law_pick (a_cons (c_ow c 0) (a_cons (c_o (c_v c 2)) a_nil))))) (a_cons (c_o (c_call (r_call c h__law_next (a_cons (c_ow c 0) (a_cons (c_o (c_v c 1)) a_nil))))) a_nil))))))) (s_frz 5 (s_cons (s_ret (c_tup (a_cons (c_o (c_v c 1)) (a_cons (c_o (c_call (r_call c h__law_set (a_cons (c_o (c_v c 3)) a_nil)))) (a_cons (c_o (c_call (r_call c h__law_set (a_cons (c_o (c_v c 4)) a_nil)))) (a_cons (c_o (c_call (r_call c h__law_set (a_cons (c_o (c_v c 5)) a_nil)))) a_nil)))))) s_nil)))))))))
theorem sc__law_machine : FnScope N__law_machine ["w"] (defScope st__law_machine) := ⟨rfl, rfl, rfl, by decide +kernel, rfl, by decide +kernel, by decide +kernel⟩
theorem ok__law_machine (FD : FunD K "_law_machine" "_law_machine" (defArgs st__law_machine) (defBody st__law_machine) (defScope st__law_machine) [] [] f fd) (hm : mg "_law_machine" = some (.ref f)) (hB : ∀ x ∈ B, mg x = none) (h__law_next : C8.Cal P w K mg base 1 "_law_next" (spF ⟨P, w, K⟩ F__law_next) []) (h__law_pick : C8.Cal P w K mg base 2 "_law_pick" (spF ⟨P, w, K⟩ F__law_pick) []) (h__law_set : C8.Cal P w K mg base 1 "_law_set" (spF ⟨P, w, K⟩ F__law_set) []) : C8.Cal P w K mg base 3 "_law_machine" (spF ⟨P, w, K⟩ F__law_machine) [] :=
  def_ok FD sc__law_machine hm (FD.bindsN fun _ _ _ _ _ _ us hl => match us, hl with | [_], _ => rfl) hB rfl rfl (by decide) (fun X h1 h2 h3 h4 h5 c => by subst h1 h2 h3 h4 h5; exact b__law_machine c h__law_next h__law_pick h__law_set)
theorem b__law_runs {X : Cx} (c : Ct N__law_runs (defScope st__law_runs) 0 B X) : PSs X (defBody st__law_runs) (tSs X.g P__law_runs ir__law_runs) :=
  (s_cons (s_asg c 2 (c_frz (f_list c (a_cons (c_o (c_idx c (c_pl c 0) (c_o c_int))) a_nil)))) (s_cons (s_for c (i_pl c 1) (g_n c 3) (s_cons (s_asg c 4 (c_frz (f_lst a_nil))) (s_cons (s_for c (i_pl c 2) (g_n c 5) (s_cons (s_asg c 4 (c_bin (o := .add) o_add (c_pl c 4) (c_o (c_frz (f_lc c [("p", 6), ("own", 7), ("out", 8), ("q", 9)] (i_v (c_idx c (c_pl c 0) (c_o c_int))) (fun _ _ _ _ _ c => (g_t c (gs_cons (g_n c 6) (gs_cons (g_n c 7) (gs_cons (g_n c 8) (gs_cons (g_n c 9) gs_nil)))))) (fun _ _ _ _ _ c => (if_one (L2.PW.pt (c_tand (c_tcmp (o_eq c.units) (c_pl c 6) (c_pl c 5)) (c_tand1 (c_tcmp (o_eq c.units) (c_pl c 7) (c_pl c 3))))))) (fun _ _ _ _ _ c => (c_v c 9))))))) s_nil)) (s_cons (s_asg c 2 (c_v c 4)) s_nil)))) (s_cons (s_ret (c_blt c (b_sum c.calm) (a_cons (c_o (c_frz (f_lc c [("state", 5)] (i_pl c 2) (fun _ _ _ _ _ c => (g_n c 5)) (fun _ _ _ _ _ c => if_nil) (fun _ _ _ _ _ c => (c_blt c b_len (a_cons (c_o (c_frz (f_lc c [("end", 10)] (i_v (c_idx c (c_pl c 0) (c_o c_int))) (fun _ _ _ _ _ c => (g_n c 10)) (fun _ _ _ _ _ c => (if_one (c_tcmp (o_eq c.units) (c_o (c_idx c (c_pl c 10) (c_o c_int))) (c_pl c 5)))) (fun _ _ _ _ _ c => (c_v c 10))))) a_nil)))))) a_nil))) s_nil)))
theorem sc__law_runs : FnScope N__law_runs ["machine", "row"] (defScope st__law_runs) := ⟨rfl, rfl, rfl, by decide +kernel, rfl, by decide +kernel, by decide +kernel⟩
theorem ok__law_runs (FD : FunD K "_law_runs" "_law_runs" (defArgs st__law_runs) (defBody st__law_runs) (defScope st__law_runs) [] [] f fd) (hm : mg "_law_runs" = some (.ref f)) (hB : ∀ x ∈ B, mg x = none) : C8.Cal P w K mg base 1 "_law_runs" (spF ⟨P, w, K⟩ F__law_runs) [] :=
  def_ok FD sc__law_runs hm (FD.bindsN fun _ _ _ _ _ _ us hl => match us, hl with | [_, _], _ => rfl) hB rfl rfl (by decide) (fun X h1 h2 h3 h4 h5 c => by subst h1 h2 h3 h4 h5; exact b__law_runs c)
theorem b__law_rows {X : Cx} (c : Ct N__law_rows (defScope st__law_rows) 0 B X) : PSs X (defBody st__law_rows) (tSs X.g P__law_rows ir__law_rows) :=
  (s_cons (s_asg c 2 (c_frz (f_lst (a_cons (c_o c_str) a_nil)))) (s_cons (s_for c (i_rng1 c (a_cons (c_o (c_v c 1)) a_nil)) (g_n c 3) (s_cons (s_asg c 4 (c_frz (f_lst a_nil))) (s_cons (s_for c (i_pl c 2) (g_n c 5) (s_cons (s_asg c 4 (c_bin (o := .add) o_add (c_pl c 4) (c_o (c_frz (f_lc c [("sign", 6)] (i_pl c 0) (fun _ _ _ _ _ c => (g_n c 6)) (fun _ _ _ _ _ c => if_nil) (fun _ _ _ _ _ c => (c_bin (o := .add) o_add (c_pl c 5) (c_pl c 6)))))))) s_nil)) (s_cons (s_asg c 2 (c_v c 4)) s_nil)))) (s_cons (s_ret (c_v c 2)) s_nil)))
theorem sc__law_rows : FnScope N__law_rows ["signs", "n"] (defScope st__law_rows) := ⟨rfl, rfl, rfl, by decide +kernel, rfl, by decide +kernel, by decide +kernel⟩
theorem ok__law_rows (FD : FunD K "_law_rows" "_law_rows" (defArgs st__law_rows) (defBody st__law_rows) (defScope st__law_rows) [] [] f fd) (hm : mg "_law_rows" = some (.ref f)) (hB : ∀ x ∈ B, mg x = none) : C8.Cal P w K mg base 1 "_law_rows" (spF ⟨P, w, K⟩ F__law_rows) [] :=
  def_ok FD sc__law_rows hm (FD.bindsN fun _ _ _ _ _ _ us hl => match us, hl with | [_, _], _ => rfl) hB rfl rfl (by decide) (fun X h1 h2 h3 h4 h5 c => by subst h1 h2 h3 h4 h5; exact b__law_rows c)
theorem b_law {X : Cx} (c : Ct N_law (defScope st_law) 13 B X) (h__law_alike : C8.Cal X.prog X.w X.K X.mg X.base 13 "_law_alike" (spF ⟨X.prog, X.w, X.K⟩ F__law_alike) []) (h__law_draws : C8.Cal X.prog X.w X.K X.mg X.base 1 "_law_draws" (spF ⟨X.prog, X.w, X.K⟩ F__law_draws) []) (h__law_machine : C8.Cal X.prog X.w X.K X.mg X.base 3 "_law_machine" (spF ⟨X.prog, X.w, X.K⟩ F__law_machine) []) (h__law_next : C8.Cal X.prog X.w X.K X.mg X.base 1 "_law_next" (spF ⟨X.prog, X.w, X.K⟩ F__law_next) []) (h__law_pick : C8.Cal X.prog X.w X.K X.mg X.base 2 "_law_pick" (spF ⟨X.prog, X.w, X.K⟩ F__law_pick) []) (h__law_rows : C8.Cal X.prog X.w X.K X.mg X.base 1 "_law_rows" (spF ⟨X.prog, X.w, X.K⟩ F__law_rows) []) (h__law_runs : C8.Cal X.prog X.w X.K X.mg X.base 1 "_law_runs" (spF ⟨X.prog, X.w, X.K⟩ F__law_runs) []) (h_count_runs : C8.Cal X.prog X.w X.K X.mg X.base 1 "count_runs" (spF ⟨X.prog, X.w, X.K⟩ F_count_runs) []) (h_most_runs : C8.Cal X.prog X.w X.K X.mg X.base 1 "most_runs" (spF ⟨X.prog, X.w, X.K⟩ F_most_runs) []) : PSs X (defBody st_law) (tSs X.g P_law ir_law) :=
  (s_cons (s_asgF c 1 (f_dct (p_cons c_str (c_call (r_call c h__law_draws (a_cons (c_ex c 0) (a_cons (c_o c_int) a_nil)))) (p_cons c_str c_int p_nil)))) (s_cons (s_for c (i_rng1 c (a_cons (c_o c_int) a_nil)) (g_n c 2) (s_cons (s_asg c 3 (c_call (r_call c h__law_machine (a_cons (c_ow c 1) a_nil)))) (s_cons (s_for c (i_rng1 c (a_cons (c_o c_int) a_nil)) (g_n c 4) (s_cons (s_asg c 8 (c_met m_join PySem.F.plainAttrs_str PySem.F.slot_str_join rfl (c_o c_str) (a_cons (c_o (c_frz (f_lc c [("j", 11)] (i_rng1 c (a_cons (c_o (c_call (r_call c h__law_next (a_cons (c_ow c 1) (a_cons (c_o c_int) a_nil))))) a_nil)) (fun _ _ _ _ _ c => (g_n c 11)) (fun _ _ _ _ _ c => if_nil) (fun _ _ _ _ _ c => (c_call (r_call c h__law_pick (a_cons (c_ow c 1) (a_cons (c_o c_str) a_nil)))))))) a_nil))) (s_cons (s_if (c_tnot (c_tv (c_call (r_call c h__law_alike (a_cons (c_o (c_call (r_call c h_count_runs (a_cons (c_o (c_v c 3)) (a_cons (c_o (c_v c 8)) a_nil))))) (a_cons (c_o (c_call (r_call c h__law_runs (a_cons (c_o (c_v c 3)) (a_cons (c_o (c_v c 8)) a_nil))))) a_nil)))))) (s_cons (s_ret c_bool) s_nil) s_nil) s_nil))) (s_cons (s_setLc2 c 5 [("sign", 10)] (i_v c_str) (fun _ _ _ _ _ c => (g_n c 10)) (fun _ _ _ _ _ c => (if_one (c_tcmp (o_in c.units) (c_pl c 10) (c_o (c_frz (f_lc c [("arrow", 12)] (i_v (c_idx c (c_pl c 3) (c_o c_int))) (fun _ _ _ _ _ c => (g_n c 12)) (fun _ _ _ _ _ c => if_nil) (fun _ _ _ _ _ c => (c_idx c (c_pl c 12) (c_o c_int))))))))) (fun _ _ _ _ _ c => (c_v c 10))) (s_frz 5 (s_cons (s_asg c 6 (c_ite (c_tcmp (o_ne c.units) (c_pl c 5) (c_o (c_frz (f_lst a_nil)))) (c_call (r_call c h__law_next (a_cons (c_ow c 1) (a_cons (c_o c_int) a_nil)))) c_int)) (s_cons (s_asg c 7 c_non) (s_cons (s_for c (i_v (c_call (r_call c h__law_rows (a_cons (c_o (c_v c 5)) (a_cons (c_o (c_v c 6)) a_nil))))) (g_n c 8) (s_cons (s_asg c 9 (c_call (r_call c h__law_runs (a_cons (c_o (c_v c 3)) (a_cons (c_o (c_v c 8)) a_nil))))) (s_cons (s_if (L2.PW.pt (c_tor (c_tcmp o_isN (c_pl c 7) (c_o c_non)) (c_tor1 (c_tcmp (o_gt c.units) (c_pl c 9) (c_o (c_idx c (c_pl c 7) (c_o c_int))))))) (s_cons (s_asg c 7 (c_tup (a_cons (c_o (c_v c 9)) (a_cons (c_o (c_v c 8)) a_nil)))) s_nil) s_nil) s_nil))) (s_cons (s_if (c_tnot (c_tv (c_call (r_call c h__law_alike (a_cons (c_o (c_call (r_call c h_most_runs (a_cons (c_o (c_v c 3)) (a_cons (c_o (c_v c 6)) a_nil))))) (a_cons (c_o (c_v c 7)) a_nil)))))) (s_cons (s_ret c_bool) s_nil) s_nil) s_nil))))))))) (s_cons (s_ret c_bool) s_nil)))
theorem sc_law : FnScope N_law ["script"] (defScope st_law) := ⟨rfl, rfl, rfl, by decide +kernel, rfl, by decide +kernel, by decide +kernel⟩
theorem ok_law (FD : FunD K "law" "law" (defArgs st_law) (defBody st_law) (defScope st_law) [] [] f fd) (hm : mg "law" = some (.ref f)) (hB : ∀ x ∈ B, mg x = none) (h__law_alike : C8.Cal P w K mg base 13 "_law_alike" (spF ⟨P, w, K⟩ F__law_alike) []) (h__law_draws : C8.Cal P w K mg base 1 "_law_draws" (spF ⟨P, w, K⟩ F__law_draws) []) (h__law_machine : C8.Cal P w K mg base 3 "_law_machine" (spF ⟨P, w, K⟩ F__law_machine) []) (h__law_next : C8.Cal P w K mg base 1 "_law_next" (spF ⟨P, w, K⟩ F__law_next) []) (h__law_pick : C8.Cal P w K mg base 2 "_law_pick" (spF ⟨P, w, K⟩ F__law_pick) []) (h__law_rows : C8.Cal P w K mg base 1 "_law_rows" (spF ⟨P, w, K⟩ F__law_rows) []) (h__law_runs : C8.Cal P w K mg base 1 "_law_runs" (spF ⟨P, w, K⟩ F__law_runs) []) (h_count_runs : C8.Cal P w K mg base 1 "count_runs" (spF ⟨P, w, K⟩ F_count_runs) []) (h_most_runs : C8.Cal P w K mg base 1 "most_runs" (spF ⟨P, w, K⟩ F_most_runs) []) : C8.Cal P w K mg base 14 "law" (spF ⟨P, w, K⟩ F_law) [] :=
  def_ok FD sc_law hm (FD.bindsN fun _ _ _ _ _ _ us hl => match us, hl with | [_], _ => rfl) hB rfl rfl (by decide) (fun X h1 h2 h3 h4 h5 c => by subst h1 h2 h3 h4 h5; exact b_law c h__law_alike h__law_draws h__law_machine h__law_next h__law_pick h__law_rows h__law_runs h_count_runs h_most_runs)
end
/-! ### the head -/
def d__law_draws : He.DefD := ⟨("_law_draws", none), "_law_draws", "_law_draws", defArgs st__law_draws, defBody st__law_draws, defScope st__law_draws, [], []⟩
def d__law_next : He.DefD := ⟨("_law_next", none), "_law_next", "_law_next", defArgs st__law_next, defBody st__law_next, defScope st__law_next, [], []⟩
def d__law_pick : He.DefD := ⟨("_law_pick", none), "_law_pick", "_law_pick", defArgs st__law_pick, defBody st__law_pick, defScope st__law_pick, [], []⟩
def d__law_alike : He.DefD := ⟨("_law_alike", none), "_law_alike", "_law_alike", defArgs st__law_alike, defBody st__law_alike, defScope st__law_alike, [], []⟩
def d_count_runs : He.DefD := ⟨("count_runs", none), "count_runs", "count_runs", defArgs st_count_runs, defBody st_count_runs, defScope st_count_runs, [], []⟩
def d_most_runs : He.DefD := ⟨("most_runs", none), "most_runs", "most_runs", defArgs st_most_runs, defBody st_most_runs, defScope st_most_runs, [], []⟩
def d__law_set : He.DefD := ⟨("_law_set", none), "_law_set", "_law_set", defArgs st__law_set, defBody st__law_set, defScope st__law_set, [], []⟩
def d__law_machine : He.DefD := ⟨("_law_machine", none), "_law_machine", "_law_machine", defArgs st__law_machine, defBody st__law_machine, defScope st__law_machine, [], []⟩
def d__law_runs : He.DefD := ⟨("_law_runs", none), "_law_runs", "_law_runs", defArgs st__law_runs, defBody st__law_runs, defScope st__law_runs, [], []⟩
def d__law_rows : He.DefD := ⟨("_law_rows", none), "_law_rows", "_law_rows", defArgs st__law_rows, defBody st__law_rows, defScope st__law_rows, [], []⟩
def d_law : He.DefD := ⟨("law", none), "law", "law", defArgs st_law, defBody st_law, defScope st_law, [], []⟩
def fns : List He.DefD := [d__law_draws, d__law_next, d__law_pick, d__law_alike, d_count_runs, d_most_runs, d__law_set, d__law_machine, d__law_runs, d__law_rows, d_law]
def fa : List He.Fa := [.glo "_law_draws", .glo "_law_next", .glo "_law_pick", .glo "_law_alike", .glo "count_runs", .glo "most_runs", .glo "_law_set", .glo "_law_machine", .glo "_law_runs", .glo "_law_rows", .glo "law", .free "abs", .free "bool", .free "dict", .free "int", .free "isinstance", .free "len", .free "list", .free "range", .free "set", .free "sorted", .free "str", .free "sum", .free "tuple"]
abbrev R : PySem.W.OpenRow := PySem.W.OpenLaw.row PySem.Challenge.rw_tapestride_k72_counts_of_runs
abbrev hk : PySem.W.Hook := He.hookD 4 fa fns
def ob (s : PySem.W.SharedT) : He.AlD := He.obsDG 4 fa fns (HandSHeadRun.getT s)
theorem ob_eq (s : PySem.W.SharedT) : ob s = hk.obs s.abs := He.obsDG_eq (HandSHeadRun.getT_eq s)
abbrev loose0 : List PySem.Str := ["count_runs", "most_runs", "_law_draws", "_law_next", "_law_pick", "_law_alike", "_law_set", "_law_machine", "_law_runs", "_law_rows"]
abbrev loose : List PySem.Str := loose0
theorem run (w : World) : HandSHeadRun.RunEq R (PySem.W.view R.prog [12]) hk ob 4000 loose w := by
  intro os
  kernel_rfl
theorem fn_law {P : Program} {w : World} {K : PySem.W.Frag} {mg : Str → Option Value} {base : Heap} {f : Addr} {fd : FuncData} (FD : FunD K "law" "law" (defArgs st_law) (defBody st_law) (defScope st_law) [] [] f fd) (hm : mg "law" = some (.ref f)) (hB : ∀ x ∈ B, mg x = none) (h__law_alike : C8.Cal P w K mg base 13 "_law_alike" (spF ⟨P, w, K⟩ F__law_alike) []) (h__law_draws : C8.Cal P w K mg base 1 "_law_draws" (spF ⟨P, w, K⟩ F__law_draws) []) (h__law_machine : C8.Cal P w K mg base 3 "_law_machine" (spF ⟨P, w, K⟩ F__law_machine) []) (h__law_next : C8.Cal P w K mg base 1 "_law_next" (spF ⟨P, w, K⟩ F__law_next) []) (h__law_pick : C8.Cal P w K mg base 2 "_law_pick" (spF ⟨P, w, K⟩ F__law_pick) []) (h__law_rows : C8.Cal P w K mg base 1 "_law_rows" (spF ⟨P, w, K⟩ F__law_rows) []) (h__law_runs : C8.Cal P w K mg base 1 "_law_runs" (spF ⟨P, w, K⟩ F__law_runs) []) (h_count_runs : C8.Cal P w K mg base 1 "count_runs" (spF ⟨P, w, K⟩ F_count_runs) []) (h_most_runs : C8.Cal P w K mg base 1 "most_runs" (spF ⟨P, w, K⟩ F_most_runs) []) : FnOk P w K mg base C8.CX0 14 f fd ["script"] (spF ⟨P, w, K⟩ F_law) :=
  def_fn FD sc_law hm (FD.bindsN fun _ _ _ _ _ _ us hl => match us, hl with | [_], _ => rfl) hB rfl rfl (by decide) (fun X h1 h2 h3 h4 h5 c => by subst h1 h2 h3 h4 h5; exact b_law c h__law_alike h__law_draws h__law_machine h__law_next h__law_pick h__law_rows h__law_runs h_count_runs h_most_runs)
theorem facts {P : Program} {w : World} {K : PySem.W.Frag} {h : Heap} {mg : Str → Option Value} {f : Addr} (X : K.In h) (G : h.Ns mainGlobals mg) (hfa : mg ("law" : Str) = some (.ref f)) (c : He.SaysD fa fns K) :
    ∃ fd : FuncData, (∀ (s : Shared) (v : Value), BindsTo s fd ⟨[v], []⟩ [("script", v)]) ∧ ∀ base : Heap, K.In base → base.Ns mainGlobals mg → FnOk P w K mg base C8.CX0 14 f fd ["script"] (spF ⟨P, w, K⟩ F_law) := by
  obtain ⟨fd__law_draws, D__law_draws⟩ := c.def_ 0 (d := d__law_draws) rfl
  obtain ⟨fd__law_next, D__law_next⟩ := c.def_ 1 (d := d__law_next) rfl
  obtain ⟨fd__law_pick, D__law_pick⟩ := c.def_ 2 (d := d__law_pick) rfl
  obtain ⟨fd__law_alike, D__law_alike⟩ := c.def_ 3 (d := d__law_alike) rfl
  obtain ⟨fd_count_runs, D_count_runs⟩ := c.def_ 4 (d := d_count_runs) rfl
  obtain ⟨fd_most_runs, D_most_runs⟩ := c.def_ 5 (d := d_most_runs) rfl
  obtain ⟨fd__law_set, D__law_set⟩ := c.def_ 6 (d := d__law_set) rfl
  obtain ⟨fd__law_machine, D__law_machine⟩ := c.def_ 7 (d := d__law_machine) rfl
  obtain ⟨fd__law_runs, D__law_runs⟩ := c.def_ 8 (d := d__law_runs) rfl
  obtain ⟨fd__law_rows, D__law_rows⟩ := c.def_ 9 (d := d__law_rows) rfl
  obtain ⟨fd_law, D_law⟩ := c.def_ 10 (d := d_law) rfl
  have m__law_draws := He.glo_ok X G (c.fact 0 (f := .glo "_law_draws") rfl)
  have m__law_next := He.glo_ok X G (c.fact 1 (f := .glo "_law_next") rfl)
  have m__law_pick := He.glo_ok X G (c.fact 2 (f := .glo "_law_pick") rfl)
  have m__law_alike := He.glo_ok X G (c.fact 3 (f := .glo "_law_alike") rfl)
  have m_count_runs := He.glo_ok X G (c.fact 4 (f := .glo "count_runs") rfl)
  have m_most_runs := He.glo_ok X G (c.fact 5 (f := .glo "most_runs") rfl)
  have m__law_set := He.glo_ok X G (c.fact 6 (f := .glo "_law_set") rfl)
  have m__law_machine := He.glo_ok X G (c.fact 7 (f := .glo "_law_machine") rfl)
  have m__law_runs := He.glo_ok X G (c.fact 8 (f := .glo "_law_runs") rfl)
  have m__law_rows := He.glo_ok X G (c.fact 9 (f := .glo "_law_rows") rfl)
  have m_law := He.glo_ok X G (c.fact 10 (f := .glo "law") rfl)
  have e := hfa.symm.trans m_law
  cases e
  have hB : ∀ x ∈ B, mg x = none := by
    intro x hx
    simp only [B, List.mem_cons, List.not_mem_nil, or_false] at hx
    rcases hx with rfl | rfl | rfl | rfl | rfl | rfl | rfl | rfl | rfl | rfl | rfl | rfl | rfl
    · exact He.free_ok X G (c.fact 11 (f := .free "abs") rfl)
    · exact He.free_ok X G (c.fact 12 (f := .free "bool") rfl)
    · exact He.free_ok X G (c.fact 13 (f := .free "dict") rfl)
    · exact He.free_ok X G (c.fact 14 (f := .free "int") rfl)
    · exact He.free_ok X G (c.fact 15 (f := .free "isinstance") rfl)
    · exact He.free_ok X G (c.fact 16 (f := .free "len") rfl)
    · exact He.free_ok X G (c.fact 17 (f := .free "list") rfl)
    · exact He.free_ok X G (c.fact 18 (f := .free "range") rfl)
    · exact He.free_ok X G (c.fact 19 (f := .free "set") rfl)
    · exact He.free_ok X G (c.fact 20 (f := .free "sorted") rfl)
    · exact He.free_ok X G (c.fact 21 (f := .free "str") rfl)
    · exact He.free_ok X G (c.fact 22 (f := .free "sum") rfl)
    · exact He.free_ok X G (c.fact 23 (f := .free "tuple") rfl)
  have b := FunD.bindsA (ps := ["script"]) D_law fun _ _ _ _ _ _ us hl => match us, hl with | [_], _ => rfl
  refine ⟨fd_law, fun s v => b s [v] rfl, fun base _ _ => ?_⟩
  have h__law_draws := ok__law_draws (P := P) (w := w) (base := base) D__law_draws m__law_draws hB
  have h__law_next := ok__law_next (P := P) (w := w) (base := base) D__law_next m__law_next hB
  have h__law_pick := ok__law_pick (P := P) (w := w) (base := base) D__law_pick m__law_pick hB h__law_next
  have h__law_alike := ok__law_alike (P := P) (w := w) (base := base) D__law_alike m__law_alike hB
  have h_count_runs := ok_count_runs (P := P) (w := w) (base := base) D_count_runs m_count_runs hB
  have h_most_runs := ok_most_runs (P := P) (w := w) (base := base) D_most_runs m_most_runs hB
  have h__law_set := ok__law_set (P := P) (w := w) (base := base) D__law_set m__law_set hB
  have h__law_machine := ok__law_machine (P := P) (w := w) (base := base) D__law_machine m__law_machine hB h__law_next h__law_pick h__law_set
  have h__law_runs := ok__law_runs (P := P) (w := w) (base := base) D__law_runs m__law_runs hB
  have h__law_rows := ok__law_rows (P := P) (w := w) (base := base) D__law_rows m__law_rows hB
  exact fn_law D_law m_law hB h__law_alike h__law_draws h__law_machine h__law_next h__law_pick h__law_rows h__law_runs h_count_runs h_most_runs
/-- the law over the model, of the law in plain terms -/
theorem holds_of (hl : ∀ ns : List Int, ns.length ≤ 63 → F_law [(.ext, .list (ns.map PyData.int))] = some ((false, .bool true), [])) : PySem.Challenge.rw_tapestride_k72_counts_of_runs.Holds := by
  open PySem.W PySem.Calls PyProof.Rows in
  w_on; o_law
  refine HandSHeadRun.head_any (r := PySem.W.OpenLaw.row PySem.Challenge.rw_tapestride_k72_counts_of_runs) (q := PySem.W.view (PySem.W.OpenLaw.row PySem.Challenge.rw_tapestride_k72_counts_of_runs).prog [12]) (H := hk) (ob := ob) (M := 4000) (loose := loose) (d := HandSHeadRun.topDef (PySem.W.OpenLaw.row PySem.Challenge.rw_tapestride_k72_counts_of_runs).prog 12) (kwd := []) ob_eq
    (by kernel_rfl) (fun s => by kernel_rfl) run (by kernel_rfl) (by kernel_rfl) (by kernel_rfl) (by rfl) (by first | assumption | decide +kernel) (by decide +kernel) ⟨rfl, rfl, rfl, rfl, rfl, by decide +kernel⟩ ?hw ?hc
  case hw => w_witness2
  case hc =>
    refine L2.walk_ofE (l := PySem.Challenge.rw_tapestride_k72_counts_of_runs) (n := 63) (k := 14) (x := "script") (CX := C8.CX0) rfl (by decide) (by kernel_rfl) ⟨rfl, by decide, by decide⟩ ?F (fun _ _ _ _ z => z)
    intro w mg fa h Y G hmg0
    obtain ⟨K, KX, c⟩ := Y
    have hmg : mg ("law" : PySem.Str) = some (.ref fa) := by
      have e : (HandSHeadRun.topDef (PySem.W.OpenLaw.row PySem.Challenge.rw_tapestride_k72_counts_of_runs).prog 12).name = ("law" : PySem.Str) := by kernel_rfl
      rw [← e]
      exact hmg0
    obtain ⟨fd, hb, hF⟩ := facts (P := (PySem.Challenge.rw_tapestride_k72_counts_of_runs).prog) (w := w) KX G hmg c
    exact ⟨K, fd, spF ⟨(PySem.Challenge.rw_tapestride_k72_counts_of_runs).prog, w, K⟩ F_law, KX, hb, fun H a ns hl2 ho hS => law_sp ho hS (hl ns hl2), hF⟩
end Lw
namespace Dv
open PySem PySem.Spec L2
/-! ### running the evaluator by simp: what stands ahead first -/
theorem ob_congr {α β : Type} {a a' : Option α} (h : a = a') (f : α → Option β) : a.bind f = a'.bind f := by rw [h]
theorem om_congr {α β : Type} {a a' : Option α} (h : a = a') (f : α → β) : a.map f = a'.map f := by rw [h]
theorem fl_congr {f : D → En → Option Out} {a a' : List D} {e e' : En} (h : a = a') (h2 : e = e') : forL f a e = forL f a' e' := by rw [h, h2]
theorem ll_congr {f : D → En → Option (Option D × En)} {o : List Nat} {a a' : List D} {e e' : En} (h : a = a') (h2 : e = e') : lcL f o a e = lcL f o a' e' := by rw [h, h2]
section
variable {Φ : Nat → Fn} {e : En} {x y z : Sl} {r : En} {i : Nat} {d : D} {f : Fl}
@[simp] theorem sl_0 : sl (x :: r) 0 = x := rfl
@[simp] theorem sl_s : sl (x :: r) (i + 1) = sl r i := rfl
@[simp] theorem getV_i : sl e i = some (.imm, d) → getV e i = some d := fun h => by unfold getV; rw [h]
theorem getV_eq : getV e i = match sl e i with | some (.imm, d) => some d | _ => none := rfl
/-- a slot that may be stored to -/
def fr : Sl → Bool
  | none => true
  | some (.imm, _) => true
  | some (.own, _) => true
  | _ => false
@[simp] theorem fr_n : fr none = true := rfl
@[simp] theorem fr_i : fr (some (.imm, d)) = true := rfl
@[simp] theorem fr_o : fr (some (.own, d)) = true := rfl
theorem setV_fr (h : i < e.length) (hf : fr (sl e i) = true) : setV e i f d = some (e.set i (some (f, d))) := by
  have hs : e[i]? = some (sl e i) := by
    unfold sl
    rw [List.getElem?_eq_getElem h]; rfl
  unfold setV
  rw [hs]
  cases hq : sl e i with
  | none => rfl
  | some p =>
    obtain ⟨g, d'⟩ := p
    rw [hq] at hf
    cases g <;> first | rfl | cases hf
@[simp] theorem setV_0 : setV (x :: r) 0 f d = if fr x = true then some (some (f, d) :: r) else none := by
  cases x with
  | none => rfl
  | some p =>
    obtain ⟨g, d'⟩ := p
    cases g <;> rfl
@[simp] theorem setV_s : setV (x :: r) (i + 1) f d = (setV r i f d).map (x :: ·) := by
  unfold setV
  rw [List.getElem?_cons_succ]
  split <;> simp_all
/-- a slot that holds anything for ever, or nothing -/
def jk (o : Option D) : Sl := o.map fun d => (.imm, d)
@[simp] theorem jk_s {d : D} : jk (some d) = some (.imm, d) := rfl
theorem bind_n : bindT (.n i) d e = setV e i .imm d := by unfold bindT; rfl
theorem bind_t {ts : List Tg} {ds : List D} : bindT (.t ts) (.tuple ds) e = bindTs ts ds e := by rw [bindT]
theorem bind_0 : bindTs [] [] e = some e := by rw [bindTs]
theorem bind_s {t : Tg} {ts : List Tg} {ds : List D} : bindTs (t :: ts) (d :: ds) e = (bindT t d e).bind fun e1 => bindTs ts ds e1 := by rw [bindTs]
@[simp] theorem fr_j {o : Option D} : fr (jk o) = true := by cases o <;> rfl
end
section
variable {i j : Int} {s t : Str} {xs ys : List D}
@[simp] theorem q_add : op2 .add (.int i) (.int j) = some (.int (i + j)) := rfl
@[simp] theorem q_sub : op2 .sub (.int i) (.int j) = some (.int (i - j)) := rfl
@[simp] theorem q_mod (h : 0 < j) : op2 .mod (.int i) (.int j) = some (.int (i % j)) := by simp [op2, modD, h]
@[simp] theorem q_fdiv (h : 0 < j) (h2 : j < 1073741824) : op2 .fdiv (.int i) (.int j) = some (.int (i / j)) := by
  have hs : (decide (0 < j) && decide (j.natAbs < 1073741824)) = true := by
    rw [Bool.and_eq_true, decide_eq_true_eq, decide_eq_true_eq]
    omega
  simp only [op2]
  unfold fdivD
  simp only [hs, if_true]
@[simp] theorem q_mulr (h : -(2 ^ 64) < j) (h2 : j < 2 ^ 64) : op2 .mul (.int i) (.int j) = some (.int (i * j)) := by
  show (if mulOk i j = true then _ else _) = _
  rw [if_pos (by unfold mulOk; rw [Bool.or_eq_true, decide_eq_true_eq, decide_eq_true_eq]; exact .inr (by omega))]
@[simp] theorem q_adds (h : s.length + t.length ≤ 16777216) : op2 .add (.str s) (.str t) = some (.str (s ++ t)) := by
  show (if szOk _ = true then _ else _) = _
  rw [if_pos (show szOk _ = true from decide_eq_true h)]
@[simp] theorem q_addl (h : xs.length + ys.length ≤ 16777216) : op2 .add (.list xs) (.list ys) = some (.list (xs ++ ys)) := by
  show (if szOk _ = true then _ else _) = _
  rw [if_pos (show szOk _ = true from decide_eq_true h)]
@[simp] theorem q_addt (h : xs.length + ys.length ≤ 16777216) : op2 .add (.tuple xs) (.tuple ys) = some (.tuple (xs ++ ys)) := by
  show (if szOk _ = true then _ else _) = _
  rw [if_pos (show szOk _ = true from decide_eq_true h)]
@[simp] theorem g_add : augD .add (.int i) (.int j) = some (.int (i + j)) := rfl
@[simp] theorem g_sub : augD .sub (.int i) (.int j) = some (.int (i - j)) := rfl
@[simp] theorem g_adds (h : s.length + t.length ≤ 16777216) : augD .add (.str s) (.str t) = some (.str (s ++ t)) := by
  show (if szOk _ = true then _ else _) = _
  rw [if_pos (show szOk _ = true from decide_eq_true h)]
@[simp] theorem b_len_l : blt .len [.list xs] = some (.int xs.length) := rfl
@[simp] theorem b_len_t : blt .len [.tuple xs] = some (.int xs.length) := rfl
@[simp] theorem b_len_s (h : s.length ≤ 16777216) : blt .len [.str s] = some (.int s.length) := by
  show (if szOk _ = true then _ else _) = _
  rw [if_pos (show szOk _ = true from decide_eq_true h)]
@[simp] theorem b_int_i : blt .int [.int i] = some (.int i) := rfl
@[simp] theorem b_abs_i : blt .abs [.int i] = some (.int (if i < 0 then -i else i)) := rfl
@[simp] theorem b_tup_l : blt .tuple [.list xs] = some (.tuple xs) := rfl
@[simp] theorem b_tup_t : blt .tuple [.tuple xs] = some (.tuple xs) := rfl
@[simp] theorem u_app {y : D} (h : xs.length + 1 ≤ 16777216) : mutD .append (.list xs) [y] = some (.none, .list (xs ++ [y])) := by
  have hs : szOk (xs.length + 1) = true := decide_eq_true h
  change appendD (.list xs) [y] = _
  unfold appendD
  simp only [hs, if_true]
@[simp] theorem u_ty : muTy .append (.list xs) = true := rfl
theorem rng_1 {n : Nat} (h : n ≤ 16777216) : rangeD [.int n] = some ((List.range n).map fun (k : Nat) => D.int (k : Int)) := by
  have hs : (smallI (n : Int) && szOk (n : Int).toNat) = true := by
    rw [Bool.and_eq_true]
    refine ⟨?_, decide_eq_true (by simpa using h)⟩
    unfold smallI
    rw [decide_eq_true_eq]
    omega
  unfold rangeD
  simp only [hs, if_true]
  simp
theorem q_pow18 : op2 .pow (.int 10) (.int 18) = some (.int 1000000000000000000) := by
  simp only [op2]
  unfold powD
  simp
theorem ixN_nat {n k : Nat} (h : k < n) : ixN n (k : Int) = some k := by
  unfold ixN
  rw [if_pos (by omega), if_pos (by omega)]
  simp
theorem rng_i {i : Int} (h0 : 0 ≤ i) (h : i ≤ 16777216) {n : Nat} (hn : i.toNat = n) : rangeD [.int i] = some ((List.range n).map fun (k : Nat) => D.int (k : Int)) := by
  subst hn
  have e := rng_1 (n := i.toNat) (by omega)
  rw [Int.toNat_of_nonneg h0] at e
  exact e
/-! numbers compared -/
theorem cmp_i (h : ordOk (.int i) (.int j) = true) : True := trivial
@[simp] theorem ord_i : ordOk (.int i) (.int j) = true := by unfold ordOk W.alike pln dOk; rfl
@[simp] theorem lt_i : W.dataLt (.int i) (.int j) = decide (i < j) := W.dataLt_int i j
@[simp] theorem k_lt : cmp2 .lt (.int i) (.int j) = some (decide (i < j)) := by
  rw [cmp2]
  rw [ord_i, if_pos rfl, lt_i]
@[simp] theorem k_gt : cmp2 .gt (.int i) (.int j) = some (decide (j < i)) := by
  rw [cmp2]
  rw [ord_i, if_pos rfl, lt_i]
@[simp] theorem k_le : cmp2 .le (.int i) (.int j) = some (decide (i ≤ j)) := by
  rw [cmp2]
  rw [ord_i, if_pos rfl, lt_i]
  congr 1
  by_cases h : j < i
  · simp [h, Int.not_le.mpr h]
  · simp [h, Int.not_lt.mp h]
@[simp] theorem k_ge : cmp2 .ge (.int i) (.int j) = some (decide (j ≤ i)) := by
  rw [cmp2]
  rw [ord_i, if_pos rfl, lt_i]
  congr 1
  by_cases h : i < j
  · simp [h, Int.not_le.mpr h]
  · simp [h, Int.not_lt.mp h]
end
@[simp] theorem nn_n : isNone .none = true := rfl
@[simp] theorem nn_b {b : Bool} : isNone (.bool b) = false := rfl
@[simp] theorem nn_i {b : Int} : isNone (.int b) = false := rfl
@[simp] theorem nn_s {b : Str} : isNone (.str b) = false := rfl
@[simp] theorem nn_l {b : List D} : isNone (.list b) = false := rfl
@[simp] theorem nn_t {b : List D} : isNone (.tuple b) = false := rfl
@[simp] theorem k_isN {x : D} : cmp2 .isN x .none = some (isNone x) := by rw [cmp2]
@[simp] theorem k_notN {x : D} : cmp2 .notN x .none = some (!isNone x) := by rw [cmp2]
/-! the two words of every law's draws -/
def wD (ds : List Int) (n : Nat) : D := .dict [(.str "draws", .list (ds.map PyData.int)), (.str "at", .int n)]
theorem w_draws {ds : List Int} {n : Nat} : idxD (wD ds n) (.str "draws") = some (.list (ds.map PyData.int)) := by
  have e : PyData.eqv (.str "draws") (.str "draws") = true := by decide +kernel
  simp [idxD, wD, kOk, kind, dGet, e]
theorem w_at {ds : List Int} {n : Nat} : idxD (wD ds n) (.str "at") = some (.int n) := by
  have e : PyData.eqv (.str "draws") (.str "at") = false := by decide +kernel
  have e2 : PyData.eqv (.str "at") (.str "at") = true := by decide +kernel
  simp [idxD, wD, kOk, kind, dGet, e, e2]
theorem w_put {ds : List Int} {n m : Nat} : putD (wD ds n) (.str "at") (.int m) = some (wD ds m) := by
  have e : PyData.eqv (.str "draws") (.str "at") = false := by decide +kernel
  have e2 : PyData.eqv (.str "at") (.str "at") = true := by decide +kernel
  simp [putD, wD, kOk, kind, dPut, dHas, e, e2, szOk]
end Dv
namespace Dv
open PySem PySem.Spec L2
/-! ### loops -/
theorem for_gen {f : D → En → Option Out} (Inv : Nat → En → Prop) (Post : Out → Prop) : ∀ (items : List D) (i : Nat) (e : En), Inv i e →
    (∀ k d e, items[k]? = some d → Inv (i + k) e → ∃ o, f d e = some o ∧ (match o with | .nx e' => Inv (i + k + 1) e' | .ct e' => Inv (i + k + 1) e' | .bk e' => Post (.nx e') | .rt r e' => Post (.rt r e'))) →
    (∀ e, Inv (i + items.length) e → Post (.nx e)) → ∃ o, forL f items e = some o ∧ Post o
  | [], i, e, h0, _, hend => ⟨_, rfl, hend e h0⟩
  | d :: ds, i, e, h0, step, hend => by
    obtain ⟨o, h1, h2⟩ := step 0 d e rfl h0
    have next : ∀ e', Inv (i + 1) e' → ∃ o, forL f ds e' = some o ∧ Post o := fun e' h => for_gen Inv Post ds (i + 1) e' h
      (fun k d' e2 hk hi => by
        have e3 : i + (k + 1) = i + 1 + k := by omega
        have := step (k + 1) d' e2 (by simpa using hk) (by rw [e3]; exact hi)
        rw [e3] at this
        exact this)
      (fun e2 h => hend e2 (by
        have e3 : i + (ds.length + 1) = i + 1 + ds.length := by omega
        rw [List.length_cons, e3]; exact h))
    unfold forL
    rw [h1]
    cases o with
    | nx e' => exact next e' h2
    | ct e' => exact next e' h2
    | bk e' => exact ⟨_, rfl, h2⟩
    | rt r e' => exact ⟨_, rfl, h2⟩
/-- .. that only goes on -/
theorem for_nx {f : D → En → Option Out} (Inv : Nat → En → Prop) (items : List D) (e : En) (h0 : Inv 0 e) (step : ∀ k d e, items[k]? = some d → Inv k e → ∃ e', f d e = some (.nx e') ∧ Inv (k + 1) e') : ∃ e', forL f items e = some (.nx e') ∧ Inv items.length e' := by
  obtain ⟨o, h1, e', h2, h3⟩ := for_gen Inv (fun o => ∃ e', o = .nx e' ∧ Inv items.length e') items 0 e h0
    (fun k d e hk hi => by
      rw [Nat.zero_add] at hi ⊢
      obtain ⟨e', h1, h2⟩ := step k d e hk hi
      exact ⟨_, h1, h2⟩) (fun e h => ⟨e, rfl, by rw [Nat.zero_add] at h; exact h⟩)
  subst h2
  exact ⟨e', h1, h3⟩
/-- a comprehension -/
theorem lc_gen {f : D → En → Option (Option D × En)} {own : List Nat} (Inv : Nat → List D → En → Prop) : ∀ (items : List D) (i : Nat) (acc : List D) (e : En), Inv i acc e →
    (∀ k d acc e, items[k]? = some d → Inv (i + k) acc e → ∃ o e', f d e = some (o, e') ∧ Inv (i + k + 1) (acc ++ o.toList) (wipeF own e')) → ∃ rs e', lcL f own items e = some (rs, e') ∧ Inv (i + items.length) (acc ++ rs) e'
  | [], i, acc, e, h0, _ => ⟨[], e, rfl, by rw [List.append_nil]; exact h0⟩
  | d :: ds, i, acc, e, h0, step => by
    obtain ⟨o, e1, h1, h2⟩ := step 0 d acc e rfl h0
    obtain ⟨rs, e2, h3, h4⟩ := lc_gen Inv ds (i + 1) (acc ++ o.toList) _ h2 (fun k d' acc' e2 hk hi => by
      have e3 : i + (k + 1) = i + 1 + k := by omega
      have := step (k + 1) d' acc' e2 (by simpa using hk) (by rw [e3]; exact hi)
      rw [e3] at this
      exact this)
    refine ⟨o.toList ++ rs, e2, ?_, ?_⟩
    · unfold lcL
      rw [h1]
      show (lcL f own ds (wipeF own e1)).map _ = _
      rw [h3]; rfl
    · have e3 : i + (ds.length + 1) = i + 1 + ds.length := by omega
      rw [List.length_cons, e3, ← List.append_assoc]; exact h4
/-- .. that changes nothing -/
theorem lc_map {f : D → En → Option (Option D × En)} {own : List Nat} {e : En} (g : D → Option D) (hw : True) : ∀ (items : List D), (∀ d ∈ items, ∃ e', f d e = some (g d, e') ∧ wipeF own e' = e) → lcL f own items e = some (items.filterMap g, e)
  | [], _ => rfl
  | d :: ds, h => by
    obtain ⟨e', h1, h2⟩ := h d (by simp)
    unfold lcL
    rw [h1]
    show (lcL f own ds (wipeF own e')).map _ = _
    rw [h2, lc_map g hw ds fun d' hd => h d' (by simp [hd])]
    simp only [Option.map_some, List.filterMap_cons]
    cases g d <;> rfl
theorem lc_mapT {α : Type} (enc : α → D) {f : D → En → Option (Option D × En)} {own : List Nat} {e : En} (g : α → Option D) : ∀ (xs : List α), (∀ a ∈ xs, ∃ e', f (enc a) e = some (g a, e') ∧ wipeF own e' = e) → lcL f own (xs.map enc) e = some (xs.filterMap g, e)
  | [], _ => rfl
  | d :: ds, h => by
    obtain ⟨e', h1, h2⟩ := h d (by simp)
    rw [List.map_cons]
    unfold lcL
    rw [h1]
    show (lcL f own (ds.map enc) (wipeF own e')).map _ = _
    rw [h2, lc_mapT enc g ds fun d' hd => h d' (by simp [hd])]
    simp only [Option.map_some, List.filterMap_cons]
    cases g d <;> rfl
/-! ### while -/
theorem loopN_up {c : En → Option (Bool × En)} {b : En → Option Out} : ∀ {n : Nat} {e : En} {o : Out}, loopN c b n e = some o → loopN c b (n + 1) e = some o
  | 0, e, o, h => by cases h
  | n + 1, e, o, h => by
    unfold loopN at h
    obtain ⟨⟨bv, e2⟩, h1, h2⟩ := Option.bind_eq_some_iff.mp h
    unfold loopN
    rw [h1, Option.bind_some]
    cases bv with
    | false => exact h2
    | true =>
      obtain ⟨o1, h3, h4⟩ := Option.bind_eq_some_iff.mp h2
      show (b e2).bind _ = _
      rw [h3, Option.bind_some]
      cases o1 with
      | nx e1 => exact loopN_up h4
      | ct e1 => exact loopN_up h4
      | bk e1 => exact h4
      | rt r e1 => exact h4
theorem loopN_le {c : En → Option (Bool × En)} {b : En → Option Out} {n : Nat} {e : En} {o : Out} (h : loopN c b n e = some o) : ∀ k, loopN c b (n + k) e = some o
  | 0 => h
  | k + 1 => loopN_up (loopN_le h k)
theorem loop_eq {c : En → Option (Bool × En)} {b : En → Option Out} {n : Nat} {e : En} {o : Out} (h : loopN c b n e = some o) : loop c b e = some o := by
  have hx : ∃ n o, loopN c b n e = some o := ⟨n, o, h⟩
  unfold loop
  rw [dif_pos hx]
  have h2 := hx.choose_spec.choose_spec
  have a := loopN_le h hx.choose
  have b' := loopN_le h2 n
  rw [Nat.add_comm] at b'
  rw [a] at b'
  exact b'.symm
/-- a while by a measure -/
theorem while_gen {c : En → Option (Bool × En)} {b : En → Option Out} (Inv : Nat → En → Prop) (Post : Out → Prop) (step : ∀ m e, Inv m e → ∃ bv e2, c e = some (bv, e2) ∧ (bv = false → Post (.nx e2)) ∧ (bv = true → ∃ o, b e2 = some o ∧ (match o with | .nx e' => ∃ m', m' < m ∧ Inv m' e' | .ct e' => ∃ m', m' < m ∧ Inv m' e' | .bk e' => Post (.nx e') | .rt r e' => Post (.rt r e')))) :
    ∀ (m : Nat) (e : En), Inv m e → ∃ o, loop c b e = some o ∧ Post o := by
  have key : ∀ (m : Nat), (∀ m', m' < m → ∀ e, Inv m' e → ∃ n o, loopN c b n e = some o ∧ Post o) → ∀ e, Inv m e → ∃ n o, loopN c b n e = some o ∧ Post o := fun m ih e hi => by
    obtain ⟨bv, e2, h1, h2, h3⟩ := step m e hi
    cases bv with
    | false => exact ⟨1, .nx e2, by unfold loopN; rw [h1]; rfl, h2 rfl⟩
    | true =>
      obtain ⟨o, h4, h5⟩ := h3 rfl
      have next : ∀ e', (∃ m', m' < m ∧ Inv m' e') → (o = .nx e' ∨ o = .ct e') → ∃ n o, loopN c b n e = some o ∧ Post o := fun e' ⟨m', hm, hi'⟩ ho => by
        obtain ⟨n, o2, g1, g2⟩ := ih m' hm e' hi'
        refine ⟨n + 1, o2, ?_, g2⟩
        unfold loopN
        rw [h1]
        show (b e2).bind _ = _
        rw [h4]
        rcases ho with rfl | rfl <;> exact g1
      cases o with
      | nx e' => exact next e' h5 (.inl rfl)
      | ct e' => exact next e' h5 (.inr rfl)
      | bk e' => exact ⟨1, .nx e', by unfold loopN; rw [h1]; show (b e2).bind _ = _; rw [h4]; rfl, h5⟩
      | rt r e' => exact ⟨1, .rt r e', by unfold loopN; rw [h1]; show (b e2).bind _ = _; rw [h4]; rfl, h5⟩
  intro m
  induction m using Nat.strongRecOn with
  | ind m ih =>
    intro e hi
    have ih' : ∀ m', m' < m → ∀ e, Inv m' e → ∃ n o, loopN c b n e = some o ∧ Post o := by
      intro m' hm
      induction m' using Nat.strongRecOn with
      | ind m' ih2 => exact key m' fun m'' h'' => ih2 m'' h'' (by omega)
    obtain ⟨n, o, h1, h2⟩ := key m ih' e hi
    exact ⟨o, loop_eq h1, h2⟩
theorem rng_2step {n : Nat} (h : n ≤ 1000000) : rangeD [.int 0, .int ((n : Int) - 1), .int 2] = some ((List.range (n / 2)).map fun (k : Nat) => D.int (0 + (k : Int) * 2)) := by
  have hz : Builtin.Range.rangeSize 0 ((n : Int) - 1) 2 = ((n / 2 : Nat) : Int) := by
    unfold Builtin.Range.rangeSize
    rw [if_pos (by decide)]
    by_cases h0 : (0 : Int) < (n : Int) - 1
    · rw [if_pos h0]; omega
    · rw [if_neg h0]; omega
  have hf : ∀ x : Int, -1000 ≤ x → x ≤ 1000100 → Builtin.Range.rangeFitsLong x = true := fun x h1 h2 => by
    unfold Builtin.Range.rangeFitsLong
    simp
    omega
  have hs : Builtin.Range.small 0 ((n : Int) - 1) 2 = true := by
    unfold Builtin.Range.small
    rw [hz, hf 0 (by omega) (by omega), hf ((n : Int) - 1) (by omega) (by omega), hf 2 (by omega) (by omega), hf _ (by omega) (by omega), if_pos (by decide), hf _ (by omega) (by omega)]
    simp
  have hc : (decide ((2 : Int) ≠ 0) && decide ((2 : Int).natAbs < 1073741824) && Builtin.Range.small 0 ((n : Int) - 1) 2 && decide (0 ≤ Builtin.Range.rangeSize 0 ((n : Int) - 1) 2) && szOk (Builtin.Range.rangeSize 0 ((n : Int) - 1) 2).toNat) = true := by
    rw [hs, hz]
    simp [szOk]
    omega
  unfold rangeD
  simp only [hc, if_true]
  rw [hz, Int.toNat_natCast]
theorem rng_any {i : Int} (h : i.natAbs ≤ 16777216) {n : Nat} (hn : i.toNat = n) : rangeD [.int i] = some ((List.range n).map fun (k : Nat) => D.int (k : Int)) := by
  subst hn
  have hs : (smallI i && szOk i.toNat) = true := by
    rw [Bool.and_eq_true]
    refine ⟨?_, decide_eq_true (by omega)⟩
    unfold smallI
    rw [decide_eq_true_eq]
    omega
  unfold rangeD
  simp only [hs, if_true]
end Dv
namespace Dv
open PySem PySem.Spec L2
/-! ### statement by statement -/
theorem ss_cons {Φ : Nat → Fn} {a : IS} {b : List IS} {e e1 : En} (h : evS Φ a e = some (.nx e1)) : evSs Φ (a :: b) e = evSs Φ b e1 := by rw [evSs, h]; rfl
theorem ss_nil {Φ : Nat → Fn} {e : En} : evSs Φ [] e = some (.nx e) := by rw [evSs]
theorem as_ev {Φ : Nat → Fn} {a : IE} {i : Nat} {e e1 e2 : En} {d : D} (h : evE Φ a e = some (d, e1)) (h2 : setV e1 i .imm d = some e2) : evS Φ (.asg i a) e = some (.nx e2) := by rw [evS, h]; show (setV e1 i .imm d).map _ = _; rw [h2]; rfl
theorem if_no {Φ : Nat → Fn} {c : IE} {a : List IS} {e e1 : En} (h : evE Φ c e = some (.bool false, e1)) : evS Φ (.ifs c a []) e = some (.nx e1) := by
  rw [evS, h]
  show evSs Φ [] e1 = _
  rw [evSs]
/-! ### loops over encoded lists -/
theorem for_fold {α σ : Type} {f : D → En → Option Out} (enc : α → D) (E : σ → En) (g : σ → α → σ) (I : σ → Prop) : ∀ (xs : List α) (s : σ), I s → (∀ a ∈ xs, ∀ s, I s → f (enc a) (E s) = some (.nx (E (g s a))) ∧ I (g s a)) →
    forL f (xs.map enc) (E s) = some (.nx (E (xs.foldl g s))) ∧ I (xs.foldl g s)
  | [], s, h, _ => ⟨rfl, h⟩
  | a :: xs, s, h, st => by
    obtain ⟨h1, h2⟩ := st a List.mem_cons_self s h
    obtain ⟨h3, h4⟩ := for_fold enc E g I xs (g s a) h2 fun b hb => st b (List.mem_cons_of_mem _ hb)
    refine ⟨?_, h4⟩
    rw [List.map_cons]
    unfold forL
    rw [h1]
    exact h3
/-- .. the prefix known -/
theorem for_pre {α : Type} {f : D → En → Option Out} (enc : α → D) (I : List α → En → Prop) : ∀ (xs pre : List α) (e : En), I pre e → (∀ p a q e, pre ++ xs = p ++ a :: q → I p e → ∃ e', f (enc a) e = some (.nx e') ∧ I (p ++ [a]) e') →
    ∃ e', forL f (xs.map enc) e = some (.nx e') ∧ I (pre ++ xs) e'
  | [], pre, e, h, _ => ⟨e, rfl, by rw [List.append_nil]; exact h⟩
  | a :: xs, pre, e, h, st => by
    obtain ⟨e1, h1, h2⟩ := st pre a xs e rfl h
    obtain ⟨e2, h3, h4⟩ := for_pre enc I xs (pre ++ [a]) e1 h2 fun p b q e he hi => st p b q e (by rw [← he]; simp) hi
    refine ⟨e2, ?_, by simpa using h4⟩
    rw [List.map_cons]
    unfold forL
    rw [h1]
    exact h3
/-- a comprehension that draws: the state goes on -/
theorem lc_pre {α : Type} {f : D → En → Option (Option D × En)} {own : List Nat} (enc : α → D) (I : List α → List D → En → Prop) : ∀ (xs pre : List α) (acc : List D) (e : En), I pre acc e →
    (∀ p a q acc e, pre ++ xs = p ++ a :: q → I p acc e → ∃ o e', f (enc a) e = some (o, e') ∧ I (p ++ [a]) (acc ++ o.toList) (wipeF own e')) → ∃ rs e', lcL f own (xs.map enc) e = some (rs, e') ∧ I (pre ++ xs) (acc ++ rs) e'
  | [], pre, acc, e, h, _ => ⟨[], e, rfl, by rw [List.append_nil, List.append_nil]; exact h⟩
  | a :: xs, pre, acc, e, h, st => by
    obtain ⟨o, e1, h1, h2⟩ := st pre a xs acc e rfl h
    obtain ⟨rs, e2, h3, h4⟩ := lc_pre enc I xs (pre ++ [a]) (acc ++ o.toList) _ h2 fun p b q acc e he hi => st p b q acc e (by rw [← he]; simp) hi
    refine ⟨o.toList ++ rs, e2, ?_, by simpa using h4⟩
    rw [List.map_cons]
    unfold lcL
    rw [h1]
    show (lcL f own (xs.map enc) (wipeF own e1)).map _ = _
    rw [h3]
    rfl
abbrev eI (k : Nat) : D := .int (k : Int)
theorem rng_e {n : Nat} (h : n ≤ 16777216) : rangeD [.int n] = some ((List.range n).map eI) := rng_1 h
theorem sz_e {α : Type} {enc : α → D} {xs : List α} (h : xs.length ≤ 16777216) : szOk (xs.map enc).length = true := decide_eq_true (by simpa using h)
/-! ### places of lists and tuples -/
theorem idx_lst {xs : List D} {i : Int} {n : Nat} (hi : i = n) (h : n < xs.length) : idxD (.list xs) (.int i) = some (xs.getD n .none) := by
  subst hi
  show (ixN _ _).bind _ = _
  rw [ixN_nat h]
  simp [h, List.getElem?_eq_getElem]
theorem idx_tup {xs : List D} {i : Int} {n : Nat} (hi : i = n) (h : n < xs.length) : idxD (.tuple xs) (.int i) = some (xs.getD n .none) := by
  subst hi
  show (ixN _ _).bind _ = _
  rw [ixN_nat h]
  simp [h, List.getElem?_eq_getElem]
theorem t_0 {a : D} {r : List D} : idxD (.tuple (a :: r)) (.int 0) = some a := idx_tup (n := 0) rfl (by simp)
theorem t_1 {a b : D} {r : List D} : idxD (.tuple (a :: b :: r)) (.int 1) = some b := idx_tup (n := 1) rfl (by simp)
theorem t_2 {a b c : D} {r : List D} : idxD (.tuple (a :: b :: c :: r)) (.int 2) = some c := idx_tup (n := 2) rfl (by simp)
theorem t_3 {a b c d : D} {r : List D} : idxD (.tuple (a :: b :: c :: d :: r)) (.int 3) = some d := idx_tup (n := 3) rfl (by simp)
theorem l_0 {a : D} {r : List D} : idxD (.list (a :: r)) (.int 0) = some a := idx_lst (n := 0) rfl (by simp)
theorem idx_e {α : Type} {enc : α → D} {xs : List α} {n : Nat} {x : α} (h : xs[n]? = some x) : idxD (.tuple (xs.map enc)) (.int n) = some (enc x) := by
  have hl := (List.getElem?_eq_some_iff.mp h).1
  rw [idx_tup rfl (by simpa using hl)]
  simp [h]
theorem idx_el {α : Type} {enc : α → D} {xs : List α} {n : Nat} {x : α} (h : xs[n]? = some x) : idxD (.list (xs.map enc)) (.int n) = some (enc x) := by
  have hl := (List.getElem?_eq_some_iff.mp h).1
  rw [idx_lst rfl (by simpa using hl)]
  simp [h]
/-! ### what is the same -/
theorem pln_b {b : Bool} : pln (.bool b) = true := rfl
theorem pln_i {b : Int} : pln (.int b) = true := rfl
theorem pln_s {b : Str} : pln (.str b) = true := rfl
theorem pln_n : pln .none = true := rfl
theorem eq_bb {a b : Bool} : cmp2 .eq (.bool a) (.bool b) = some (a == b) := by
  rw [cmp2, pln_b, pln_b]
  simp [PyData.eqv]
theorem eq_ii {a b : Int} : cmp2 .eq (.int a) (.int b) = some (a == b) := by
  rw [cmp2, pln_i, pln_i]
  simp [PyData.eqv]
theorem eq_ss {a b : Str} : cmp2 .eq (.str a) (.str b) = some (a == b) := by
  rw [cmp2, pln_s, pln_s]
  simp [PyData.eqv]
theorem ne_ii {a b : Int} : cmp2 .ne (.int a) (.int b) = some (!(a == b)) := by
  rw [cmp2, pln_i, pln_i]
  simp [PyData.eqv]
theorem ne_ss {a b : Str} : cmp2 .ne (.str a) (.str b) = some (!(a == b)) := by
  rw [cmp2, pln_s, pln_s]
  simp [PyData.eqv]
theorem eqv_ii {a b : Int} : PyData.eqv (.int a) (.int b) = (a == b) := by simp [PyData.eqv]
theorem eqv_ss {a b : Str} : PyData.eqv (.str a) (.str b) = (a == b) := by simp [PyData.eqv]
theorem beq_nn {a b : Nat} : ((a : Int) == (b : Int)) = (a == b) := by
  by_cases h : a = b
  · subst h; simp
  · have : (a : Int) ≠ b := by omega
    rw [beq_eq_false_iff_ne.mpr h, beq_eq_false_iff_ne.mpr this]
theorem cmp_empty {xs : List D} (h : pln (.list xs) = true) : cmp2 .eq (.list xs) (.list []) = some xs.isEmpty ∧ cmp2 .ne (.list xs) (.list []) = some (!xs.isEmpty) := by
  constructor
  · rw [cmp2, h]; cases xs <;> rfl
  · rw [cmp2, h]; cases xs <;> rfl
mutual
theorem dOk_up : ∀ (d : D) (n : Nat), dOk d n = true → dOk d (n + 1) = true
  | .none, _, _ => rfl
  | .bool _, _, _ => rfl
  | .int _, _, _ => rfl
  | .str _, _, _ => rfl
  | .list xs, n, h => by
    rw [dOk, Bool.and_eq_true, decide_eq_true_eq] at h ⊢
    obtain ⟨m, rfl⟩ : ∃ m, n = m + 1 := ⟨n - 1, by omega⟩
    exact ⟨by omega, dOkAll_up xs _ h.2⟩
  | .tuple xs, n, h => by
    rw [dOk, Bool.and_eq_true, decide_eq_true_eq] at h ⊢
    obtain ⟨m, rfl⟩ : ∃ m, n = m + 1 := ⟨n - 1, by omega⟩
    exact ⟨by omega, dOkAll_up xs _ h.2⟩
  | .dict _, _, h => by rw [dOk] at h; cases h
theorem dOkAll_up : ∀ (ds : List D) (n : Nat), dOkAll ds n = true → dOkAll ds (n + 1) = true
  | [], _, _ => rfl
  | d :: ds, n, h => by
    rw [dOkAll, Bool.and_eq_true] at h ⊢
    exact ⟨dOk_up d n h.1, dOkAll_up ds n h.2⟩
end
theorem dOk_all {α : Type} {enc : α → D} {n : Nat} (h : ∀ a, dOk (enc a) n = true) : ∀ xs : List α, dOkAll (xs.map enc) n = true
  | [] => rfl
  | x :: xs => by rw [List.map_cons, dOkAll, h, dOk_all h xs]; rfl
theorem pln_le {α : Type} {enc : α → D} (h : ∀ a, dOk (enc a) 39 = true) (xs : List α) : pln (.list (xs.map enc)) = true := by
  unfold pln
  rw [dOk, dOk_all h xs]; rfl
theorem pln_te {α : Type} {enc : α → D} (h : ∀ a, dOk (enc a) 39 = true) (xs : List α) : pln (.tuple (xs.map enc)) = true := by
  unfold pln
  rw [dOk, dOk_all h xs]; rfl
/-! ### texts as lists of signs -/
abbrev S (l : List Nat) : Str := ⟨l.toArray⟩
abbrev eS (l : List Nat) : D := .str (S l)
abbrev eC (c : Nat) : D := .str (S [c])
theorem S_add (a b : List Nat) : S a ++ S b = S (a ++ b) := SX.S_cat a b
theorem S_len (a : List Nat) : (S a).length = a.length := SX.S_len a
theorem S_signs (a : List Nat) : signs (S a) = a.map eC := by simp [signs]
theorem q_addS {a b : List Nat} (h : a.length + b.length ≤ 16777216) : op2 .add (eS a) (eS b) = some (eS (a ++ b)) := by
  rw [q_adds (by rw [S_len, S_len]; exact h), S_add]
theorem S_inj {a b : List Nat} : S a = S b ↔ a = b := ⟨SX.S_inj, fun h => by rw [h]⟩
theorem S_beq {a b : List Nat} : (S a == S b) = (a == b) := SX.S_beq a b
theorem S_nil : (Str.ofString "") = S [] := by decide +kernel
theorem C_beq {a b : Nat} : (S [a] == S [b]) = (a == b) := by rw [S_beq]; simp
theorem S_lt {a b : List Nat} : W.dataLt (eS a) (eS b) = decide (a < b) := by rw [W.dataLt_str]
/-! ### sums -/
theorem ints_e : ∀ xs : List Nat, intsOf (xs.map eI) = some (xs.map fun (k : Nat) => (k : Int))
  | [] => rfl
  | x :: xs => by
    rw [List.map_cons]
    show (intsOf (xs.map eI)).map _ = _
    rw [ints_e xs]
    rfl
theorem sum_e (xs : List Nat) : blt .sum [.list (xs.map eI)] = some (eI xs.sum) := by
  show (intsOf (xs.map eI)).map _ = _
  rw [ints_e]
  show some (PyData.int _) = _
  congr 2
  induction xs with
  | nil => rfl
  | cons x xs ih => rw [List.map_cons, List.sum_cons, List.sum_cons, ih]; simp
/-! ### dicts of numbers -/
abbrev KV := List (Nat × Nat)
abbrev eP (p : Nat × Nat) : D × D := (.int p.1, .int p.2)
abbrev eD (kv : KV) : D := .dict (kv.map eP)
def has (kv : KV) (k : Nat) : Bool := kv.any fun p => p.1 == k
def val (kv : KV) (k : Nat) : Nat := ((kv.find? fun p => p.1 == k).map (·.2)).getD 0
def ins (kv : KV) (k v : Nat) : KV := if has kv k = true then kv.map (fun p => if (p.1 == k) = true then (p.1, v) else p) else kv ++ [(k, v)]
theorem has_val {kv : KV} {k : Nat} (h : has kv k = false) : val kv k = 0 := by
  unfold has at h
  unfold val
  rw [List.find?_eq_none.mpr]
  · rfl
  · intro p hp hk
    have := List.any_eq_false.mp h p hp
    exact this hk
theorem val_get {kv : KV} {k : Nat} (h : has kv k = true) : (kv.find? fun p => p.1 == k).map (·.2) = some (val kv k) := by
  unfold has at h
  unfold val
  cases e : kv.find? fun p => p.1 == k with
  | none =>
    have := List.find?_eq_none.mp e
    obtain ⟨p, hp, hk⟩ := List.any_eq_true.mp h
    exact absurd hk (this p hp)
  | some p => rfl
theorem val_ins (kv : KV) (k v j : Nat) : val (ins kv k v) j = if j = k then v else val kv j := by
  unfold ins
  by_cases h : has kv k = true
  · rw [if_pos h]
    unfold val
    have go : ∀ kv : KV, (kv.map fun p => if (p.1 == k) = true then (p.1, v) else p).find? (fun p => p.1 == j) = (kv.find? fun p => p.1 == j).map fun p => if (p.1 == k) = true then (p.1, v) else p := by
      intro kv
      rw [List.find?_map]
      congr 1
      congr 1
      funext p
      simp only [Function.comp]
      by_cases e : (p.1 == k) = true
      · rw [if_pos e]
      · rw [if_neg e]
    rw [go]
    by_cases e : j = k
    · subst e
      rw [if_pos rfl]
      have hv := val_get h
      cases hf : kv.find? fun p => p.1 == j with
      | none => rw [hf] at hv; cases hv
      | some p =>
        have := List.find?_some hf
        simp only [Option.map_some, this, if_true, Option.getD_some]
    · rw [if_neg e]
      cases hf : kv.find? fun p => p.1 == j with
      | none => rfl
      | some p =>
        have h1 := List.find?_some hf
        have h2 : p.1 = j := by simpa using h1
        have h3 : ¬ ((p.1 == k) = true) := by
          intro z
          have : p.1 = k := by simpa using z
          exact e (h2.symm.trans this)
        simp only [Option.map_some, h3, if_false, Option.getD_some, Bool.false_eq_true]
  · rw [if_neg h]
    have h0 : has kv k = false := by simpa using h
    unfold val
    rw [List.find?_append]
    by_cases e : j = k
    · subst e
      rw [if_pos rfl]
      have : kv.find? (fun p => p.1 == j) = none := List.find?_eq_none.mpr fun p hp hk => List.any_eq_false.mp h0 p hp hk
      rw [this]
      simp
    · rw [if_neg e]
      have : ([(k, v)] : KV).find? (fun p => p.1 == j) = none := by simp; omega
      rw [this, Option.or_none]
theorem ins_len (kv : KV) (k v : Nat) : (ins kv k v).length ≤ kv.length + 1 := by
  unfold ins
  split
  · simp
  · simp
theorem kOk_e (kv : KV) (k : Nat) : kOk (kv.map eP) (eI k) = true := by
  unfold kOk
  cases kv with
  | nil => rfl
  | cons p r => rfl
theorem dHas_e (kv : KV) (k : Nat) : dHas (kv.map eP) (eI k) = has kv k := by
  unfold dHas has
  rw [List.any_map]
  congr 1
  funext p
  show PyData.eqv (.int p.1) (.int k) = _
  rw [eqv_ii, beq_nn]
theorem dGet_e (kv : KV) (k : Nat) : dGet (kv.map eP) (eI k) = ((kv.find? fun p => p.1 == k).map (·.2)).map eI := by
  unfold dGet
  rw [List.find?_map]
  have : ((fun p : D × D => PyData.eqv p.1 (eI k)) ∘ eP) = fun p : Nat × Nat => p.1 == k := by
    funext p
    show PyData.eqv (.int p.1) (.int k) = _
    rw [eqv_ii, beq_nn]
  rw [this]
  cases kv.find? fun p => p.1 == k <;> rfl
theorem dPut_e (kv : KV) (k v : Nat) : dPut (kv.map eP) (eI k) (eI v) = (ins kv k v).map eP := by
  unfold dPut ins
  rw [dHas_e]
  by_cases h : has kv k = true
  · rw [if_pos h, if_pos h, List.map_map, List.map_map]
    congr 1
    funext p
    show (if PyData.eqv (.int p.1) (.int k) = true then _ else _) = eP (if _ then _ else _)
    rw [eqv_ii, beq_nn]
    by_cases e : (p.1 == k) = true
    · rw [if_pos e, if_pos e]
    · rw [if_neg e, if_neg e]
  · rw [if_neg h, if_neg h, List.map_append]
    rfl
theorem put_e {kv : KV} {k v : Nat} (h : kv.length + 1 ≤ 16777216) : putD (eD kv) (eI k) (eI v) = some (eD (ins kv k v)) := by
  have hs : (kOk (kv.map eP) (eI k) && szOk ((kv.map eP).length + 1)) = true := by
    rw [kOk_e, List.length_map]
    exact decide_eq_true h
  show (if _ then _ else _) = _
  rw [if_pos hs, dPut_e]
theorem in_e (kv : KV) (k : Nat) : cmp2 .isin (eI k) (eD kv) = some (has kv k) := by
  show (if kOk (kv.map eP) (eI k) = true then _ else _) = _
  rw [if_pos (kOk_e kv k), dHas_e]
theorem idx_d {kv : KV} {k : Nat} (h : has kv k = true) : idxD (eD kv) (eI k) = some (eI (val kv k)) := by
  show (if kOk (kv.map eP) (eI k) = true then _ else _) = _
  rw [if_pos (kOk_e kv k), dGet_e, val_get h]
  rfl
theorem get_e (kv : KV) (k : Nat) : met .get (eD kv) [eI k, .int 0] = some (eI (val kv k)) := by
  show (if kOk (kv.map eP) (eI k) = true then _ else _) = _
  rw [if_pos (kOk_e kv k), dGet_e]
  unfold val
  cases kv.find? fun p => p.1 == k <;> rfl
abbrev e2 (p : Nat × Nat) : D := .tuple [eI p.1, eI p.2]
theorem pairs_e : ∀ xs : KV, pairsOf (xs.map e2) = some (xs.map eP)
  | [] => rfl
  | p :: xs => by
    rw [List.map_cons]
    show (pairsOf (xs.map e2)).map _ = _
    rw [pairs_e xs]
    rfl
theorem fill_e : ∀ (xs kv : KV), dFill (kv.map eP) (xs.map eP) = some ((xs.foldl (fun kv p => ins kv p.1 p.2) kv).map eP)
  | [], kv => rfl
  | p :: xs, kv => by
    rw [List.map_cons]
    show (if kOk (kv.map eP) (eI p.1) = true then dFill (dPut (kv.map eP) (eI p.1) (eI p.2)) (xs.map eP) else none) = _
    rw [if_pos (kOk_e kv p.1), dPut_e, fill_e xs]
    rfl
theorem dct_e (xs : KV) : blt .dict [.list (xs.map e2)] = some (eD (xs.foldl (fun kv p => ins kv p.1 p.2) [])) := by
  show (pairsOf (xs.map e2)).bind _ = _
  rw [pairs_e, Option.bind_some, if_pos, show dFill [] (xs.map eP) = _ from fill_e xs []]
  · rfl
  · rw [List.all_map, List.all_eq_true]
    intro p _
    rfl
theorem get_ty {kvs : List (D × D)} : metTy .get (.dict kvs) = true := rfl
/-! ### dicts whose keys are rows of numbers -/
abbrev eV (v : List Nat) : D := .tuple (v.map eI)
abbrev TV := List (List Nat × List Nat)
abbrev eQ (p : List Nat × List Nat) : D × D := (eV p.1, eS p.2)
abbrev eTV (T : TV) : D := .dict (T.map eQ)
theorem eqvAll_n : ∀ v u : List Nat, PyData.eqvAll (v.map eI) (u.map eI) = decide (v = u)
  | [], [] => rfl
  | [], _ :: _ => rfl
  | _ :: _, [] => rfl
  | a :: v, b :: u => by
    rw [List.map_cons, List.map_cons, W.eqv_all_cons, eqv_ii, beq_nn, eqvAll_n v u, Bool.eq_iff_iff]
    simp
theorem eqv_v (v u : List Nat) : PyData.eqv (eV v) (eV u) = decide (v = u) := by
  show PyData.eqv (.tuple _) (.tuple _) = _
  rw [PyData.eqv, eqvAll_n]
theorem kind_v (v : List Nat) : kind (eV v) = some true := by
  have h1 : dOk (eV v) 7 = true := by rw [dOk, dOk_all (fun _ => rfl) v]; rfl
  have h2 : kind.noList (eV v) = true := by
    show kind.noLists (v.map eI) = true
    induction v with
    | nil => rfl
    | cons a v ih => rw [List.map_cons, kind.noLists, ih (by rw [dOk, dOk_all (fun _ => rfl) v]; rfl)]; rfl
  rw [kind, h1, h2]
  rfl
theorem kOk_v (T : TV) (v : List Nat) : kOk (T.map eQ) (eV v) = true := by
  unfold kOk
  rw [kind_v]
  cases T with
  | nil => rfl
  | cons p r =>
    rw [List.map_cons]
    show (true && decide (kind (eV p.1) = some true)) = true
    rw [kind_v]
    rfl
def hasV (T : TV) (v : List Nat) : Bool := T.any fun p => decide (p.1 = v)
theorem dHas_v (T : TV) (v : List Nat) : dHas (T.map eQ) (eV v) = hasV T v := by
  unfold dHas hasV
  rw [List.any_map]
  congr 1
  funext p
  exact eqv_v p.1 v
def sdV (T : TV) (p : List Nat × List Nat) : TV := if hasV T p.1 = true then T else T ++ [p]
theorem sd_v {T : TV} (v r : List Nat) (h : T.length + 1 ≤ 16777216) : ∃ d, mutD .setdefault (eTV T) [eV v, eS r] = some (d, eTV (sdV T (v, r))) := by
  have hs : (kOk (T.map eQ) (eV v) && szOk ((T.map eQ).length + 1)) = true := by
    rw [kOk_v, List.length_map]
    exact decide_eq_true h
  refine ⟨(dGet (T.map eQ) (eV v)).getD (eS r), ?_⟩
  show (if _ then _ else _) = _
  rw [if_pos hs, dHas_v]
  unfold sdV
  by_cases e : hasV T v = true
  · rw [if_pos e, if_pos e]
  · rw [if_neg e, if_neg e, eTV, List.map_append]
    rfl
theorem idx_v {T : TV} {p : List Nat × List Nat} (hn : (T.map (·.1)).Nodup) (hp : p ∈ T) : idxD (eTV T) (eV p.1) = some (eS p.2) := by
  show (if kOk (T.map eQ) (eV p.1) = true then _ else _) = _
  rw [if_pos (kOk_v T p.1)]
  unfold dGet
  induction T with
  | nil => cases hp
  | cons q T ih =>
    rw [List.map_cons, List.find?_cons]
    rw [List.map_cons, List.nodup_cons] at hn
    rcases List.mem_cons.mp hp with rfl | hp
    · rw [show PyData.eqv (eQ p).1 (eV p.1) = true by show PyData.eqv (eV p.1) (eV p.1) = true; rw [eqv_v]; simp]
      rfl
    · have : q.1 ≠ p.1 := fun e => hn.1 (e ▸ List.mem_map.mpr ⟨p, hp, rfl⟩)
      rw [show PyData.eqv (eQ q).1 (eV p.1) = false by show PyData.eqv (eV q.1) (eV p.1) = false; rw [eqv_v]; simp [this]]
      exact ih hn.2 hp
theorem sdV_nd {T : TV} {p : List Nat × List Nat} (h : (T.map (·.1)).Nodup) : ((sdV T p).map (·.1)).Nodup := by
  unfold sdV
  by_cases e : hasV T p.1 = true
  · rw [if_pos e]; exact h
  · rw [if_neg e, List.map_append, List.nodup_append]
    refine ⟨h, by simp, fun a ha b hb => ?_⟩
    simp at hb
    subst hb
    rintro rfl
    apply e
    unfold hasV
    rw [List.any_eq_true]
    obtain ⟨q, hq, e2⟩ := List.mem_map.mp ha
    exact ⟨q, hq, by simp [e2]⟩
theorem sdV_len (T : TV) (p : List Nat × List Nat) : (sdV T p).length ≤ T.length + 1 := by
  unfold sdV
  split
  · omega
  · simp
theorem mu_sd {kvs : List (D × D)} : muTy .setdefault (.dict kvs) = true := rfl
theorem put_l {xs : List Nat} {k v : Nat} (h : k < xs.length) : putD (.list (xs.map eI)) (eI k) (eI v) = some (.list ((xs.set k v).map eI)) := by
  show (ixN (xs.map eI).length (k : Int)).map _ = _
  rw [List.length_map, ixN_nat h]
  show some (PyData.list ((xs.map eI).set k (eI v))) = _
  rw [List.map_set]
theorem rep_0 {n : Nat} (h : n ≤ 1000) : repD [.int 0] (eI n) = some (.list ((List.replicate n 0).map eI)) := by
  have hs : (szOk (([.int 0] : List D).length * (n : Int).toNat) && smallI (n : Int)) = true := by
    rw [Bool.and_eq_true]
    refine ⟨decide_eq_true (by simp; omega), ?_⟩
    unfold smallI
    rw [decide_eq_true_eq]
    omega
  show (if _ then _ else _) = _
  rw [if_pos hs]
  have : ∀ n : Nat, (List.replicate n ([.int 0] : List D)).flatten = (List.replicate n 0).map eI := fun n => by
    induction n with
    | zero => rfl
    | succ n ih => rw [List.replicate_succ, List.replicate_succ, List.flatten_cons, ih]; rfl
  rw [Int.toNat_natCast, this]
theorem idx_n {xs : List Nat} {k : Nat} (h : k < xs.length) : idxD (.list (xs.map eI)) (eI k) = some (eI (xs.getD k 0)) := by
  rw [idx_el (x := xs[k]) (List.getElem?_eq_getElem h)]
  simp [h]
theorem idx_nt {xs : List Nat} {k : Nat} (h : k < xs.length) : idxD (eV xs) (eI k) = some (eI (xs.getD k 0)) := by
  rw [idx_e (x := xs[k]) (List.getElem?_eq_getElem h)]
  simp [h]
theorem add_n (a b : Nat) : augD .add (eI a) (eI b) = some (eI (a + b)) := by
  rw [g_add]
  simp [eI]
/-! ### texts joined -/
theorem joinL_nil : ∀ ls : List (List Nat), TL.joinL [] ls = ls.flatten
  | [] => rfl
  | [a] => by simp [TL.joinL]
  | a :: b :: r => by
    have := joinL_nil (b :: r)
    simp [TL.joinL] at this ⊢
    exact this
theorem join_S0 (ls : List (List Nat)) : Str.join (S []) (ls.map S) = S ls.flatten := by
  have h := SX.join_S [] ls
  rw [TL.join_eq, joinL_nil] at h
  exact h
theorem strs_S : ∀ ls : List (List Nat), strsOf (ls.map eS) = some (ls.map S)
  | [] => rfl
  | a :: r => by
    show (strsOf (r.map eS)).map _ = _
    rw [strs_S r]; rfl
theorem sum_len : ∀ ls : List (List Nat), ((ls.map S).map (·.length)).sum = ls.flatten.length
  | [] => rfl
  | a :: r => by
    rw [List.map_cons, List.map_cons, List.sum_cons, sum_len r, List.flatten_cons, List.length_append, S_len]
theorem j_list {ls : List (List Nat)} (h : ls.flatten.length ≤ 16777216) : met .join (eS []) [.list (ls.map eS)] = some (eS ls.flatten) := by
  have hs : szOk (((ls.map S).map (·.length)).sum + (ls.map S).length * (S []).length) = true := decide_eq_true (by rw [sum_len, S_len]; simpa using h)
  simp only [met]
  unfold joinD
  simp only [strs_S, Option.bind_some, hs, if_true, join_S0]
theorem j_tup {ls : List (List Nat)} (h : ls.flatten.length ≤ 16777216) : met .join (eS []) [.tuple (ls.map eS)] = some (eS ls.flatten) := by
  have hs : szOk (((ls.map S).map (·.length)).sum + (ls.map S).length * (S []).length) = true := decide_eq_true (by rw [sum_len, S_len]; simpa using h)
  simp only [met]
  unfold joinD
  simp only [strs_S, Option.bind_some, hs, if_true, join_S0]
theorem flat_one : ∀ cs : List Nat, (cs.map fun c => [c]).flatten = cs
  | [] => rfl
  | c :: cs => by rw [List.map_cons, List.flatten_cons, flat_one cs]; rfl
theorem j_C {cs : List Nat} (h : cs.length ≤ 16777216) : met .join (eS []) [.list (cs.map eC)] = some (eS cs) := by
  have := j_list (ls := cs.map fun c => [c]) (by rw [flat_one]; exact h)
  rw [flat_one, List.map_map] at this
  exact this
end Dv
namespace Lp
open PySem PySem.Spec L2 Dv Lw
/-! ### the draws -/
def nxt (ds : List Int) (n : Nat) (m : Int) : Int := if ds.length < n + 1 then 0 else (ds.getD n 0) % m
theorem nxt_lt (ds : List Int) (n : Nat) {m : Int} (hm : 0 < m) : 0 ≤ nxt ds n m ∧ nxt ds n m < m := by
  unfold nxt
  split
  · exact ⟨Int.le_refl _, hm⟩
  · exact ⟨Int.emod_nonneg _ (by omega), Int.emod_lt_of_pos _ hm⟩
theorem idx_lst {xs : List D} {i : Int} {n : Nat} (hi : i = n) (h : n < xs.length) : idxD (.list xs) (.int i) = some (xs.getD n .none) := by
  subst hi
  have : (ixN xs.length (n : Int)) = some n := by
    unfold ixN
    rw [if_pos (by omega), if_pos (by omega)]
    simp
  show (ixN _ _).bind _ = _
  rw [this]
  simp [h, List.getElem?_eq_getElem]
theorem idx_tup {xs : List D} {i : Int} {n : Nat} (hi : i = n) (h : n < xs.length) : idxD (.tuple xs) (.int i) = some (xs.getD n .none) := by
  subst hi
  have : (ixN xs.length (n : Int)) = some n := by
    unfold ixN
    rw [if_pos (by omega), if_pos (by omega)]
    simp
  show (ixN _ _).bind _ = _
  rw [this]
  simp [h, List.getElem?_eq_getElem]
theorem idx_int {ds : List Int} {i : Int} {n : Nat} (hi : i = n) (h : n < ds.length) : idxD (.list (ds.map PyData.int)) (.int i) = some (.int (ds.getD n 0)) := by
  rw [idx_lst hi (by simpa using h)]
  simp [h]
theorem e_next (ds : List Int) (n : Nat) (m : Int) (hm : 0 < m) : F__law_next [(.own, wD ds n), (.imm, .int m)] = some ((false, .int (nxt ds n m)), [wD ds (n + 1)]) := by
  have h1 : ((n : Int) + 1) = ((n + 1 : Nat) : Int) := by simp
  unfold F__law_next evFn nxt
  by_cases h : ds.length < n + 1
  · have h2 : ((ds.length : Int) < ((n + 1 : Nat) : Int)) := by omega
    simp only [ir__law_next, evSs, evS, evE, evEs, evO, evIfs, evF, testE, getO, getP, getV_eq, getX, setC, rd, rdAll, sl_0, sl_s, Option.bind_some, Option.map_some, Option.bind_none, Option.map_none, List.set_cons_zero, List.set_cons_succ, q_add, q_sub, q_mod, q_fdiv, q_mulr, q_adds, q_addl, q_addt, g_add, g_sub, g_adds, b_len_l, b_len_t, b_len_s, b_int_i, b_abs_i, b_tup_l, b_tup_t, k_lt, k_gt, k_le, k_ge, w_at, w_put, w_draws, List.length_map, startE, List.map_cons, List.map_nil, flIn, List.length_cons, List.length_nil, List.replicate, List.append_nil, List.cons_append, List.nil_append, outsC, Nat.zero_add, Nat.reduceAdd, Nat.reduceSub, Nat.sub_self, ↓reduceIte, if_true, if_false, Bool.false_eq_true, Int.reduceLT, Int.reduceNeg, Int.reducePow, Bool.not_true, Bool.not_false, decide_true, decide_false, nn_n, nn_b, nn_i, nn_s, nn_l, nn_t, k_isN, k_notN, argsC, backC, setV_0, setV_s, fr_n, fr_i, fr_o, fr_j, jk_s, bind_n, bind_t, bind_0, bind_s, u_ty, getX, wipeOk, wipeF, unwipe, List.all_cons, List.all_nil, List.foldr_cons, List.foldr_nil, Bool.and_true, Bool.true_and, lendI, itemsD, unlend, outI, q_pow18, h1, h2, h]
  · have h2 : ¬ ((ds.length : Int) < ((n + 1 : Nat) : Int)) := by omega
    have h3 : idxD (.list (ds.map PyData.int)) (.int (((n + 1 : Nat) : Int) - 1)) = some (.int (ds.getD n 0)) := idx_int (by omega) (by omega)
    simp only [ir__law_next, evSs, evS, evE, evEs, evO, evIfs, evF, testE, getO, getP, getV_eq, getX, setC, rd, rdAll, sl_0, sl_s, Option.bind_some, Option.map_some, Option.bind_none, Option.map_none, List.set_cons_zero, List.set_cons_succ, q_add, q_sub, q_mod, q_fdiv, q_mulr, q_adds, q_addl, q_addt, g_add, g_sub, g_adds, b_len_l, b_len_t, b_len_s, b_int_i, b_abs_i, b_tup_l, b_tup_t, k_lt, k_gt, k_le, k_ge, w_at, w_put, w_draws, List.length_map, startE, List.map_cons, List.map_nil, flIn, List.length_cons, List.length_nil, List.replicate, List.append_nil, List.cons_append, List.nil_append, outsC, Nat.zero_add, Nat.reduceAdd, Nat.reduceSub, Nat.sub_self, ↓reduceIte, if_true, if_false, Bool.false_eq_true, Int.reduceLT, Int.reduceNeg, Int.reducePow, Bool.not_true, Bool.not_false, decide_true, decide_false, nn_n, nn_b, nn_i, nn_s, nn_l, nn_t, k_isN, k_notN, argsC, backC, setV_0, setV_s, fr_n, fr_i, fr_o, fr_j, jk_s, bind_n, bind_t, bind_0, bind_s, u_ty, getX, wipeOk, wipeF, unwipe, List.all_cons, List.all_nil, List.foldr_cons, List.foldr_nil, Bool.and_true, Bool.true_and, lendI, itemsD, unlend, outI, q_pow18, h1, h2, h, h3, hm]
theorem e_pick (ds : List Int) (n : Nat) (rows : List D) (h : 0 < rows.length) : F__law_pick [(.own, wD ds n), (.imm, .list rows)] = some ((false, rows.getD (nxt ds n rows.length).toNat .none), [wD ds (n + 1)]) := by
  have hm : (0 : Int) < rows.length := by omega
  obtain ⟨g1, g2⟩ := nxt_lt ds n hm
  have h3 := idx_lst (xs := rows) (i := nxt ds n rows.length) (n := (nxt ds n rows.length).toNat) (by omega) (by omega)
  unfold F__law_pick evFn
  simp only [ir__law_pick, evSs, evS, evE, evEs, evO, evIfs, evF, testE, getO, getP, getV_eq, getX, setC, rd, rdAll, sl_0, sl_s, Option.bind_some, Option.map_some, Option.bind_none, Option.map_none, List.set_cons_zero, List.set_cons_succ, q_add, q_sub, q_mod, q_fdiv, q_mulr, q_adds, q_addl, q_addt, g_add, g_sub, g_adds, b_len_l, b_len_t, b_len_s, b_int_i, b_abs_i, b_tup_l, b_tup_t, k_lt, k_gt, k_le, k_ge, w_at, w_put, w_draws, List.length_map, startE, List.map_cons, List.map_nil, flIn, List.length_cons, List.length_nil, List.replicate, List.append_nil, List.cons_append, List.nil_append, outsC, Nat.zero_add, Nat.reduceAdd, Nat.reduceSub, Nat.sub_self, ↓reduceIte, if_true, if_false, Bool.false_eq_true, Int.reduceLT, Int.reduceNeg, Int.reducePow, Bool.not_true, Bool.not_false, decide_true, decide_false, nn_n, nn_b, nn_i, nn_s, nn_l, nn_t, k_isN, k_notN, argsC, backC, setV_0, setV_s, fr_n, fr_i, fr_o, fr_j, jk_s, bind_n, bind_t, bind_0, bind_s, u_ty, getX, wipeOk, wipeF, unwipe, List.all_cons, List.all_nil, List.foldr_cons, List.foldr_nil, Bool.and_true, Bool.true_and, lendI, itemsD, unlend, outI, q_pow18, P__law_pick, e_next ds n _ hm, h3]
theorem e_pickS (ds : List Int) (n : Nat) (x : Str) (h : 0 < x.cps.size) (h2 : x.cps.size ≤ 16777216) : ∃ c ∈ x.cps.toList, F__law_pick [(.own, wD ds n), (.imm, .str x)] = some ((false, .str ⟨#[c]⟩), [wD ds (n + 1)]) := by
  have hm : (0 : Int) < x.length := by show (0 : Int) < (x.cps.size : Int); omega
  obtain ⟨g1, g2⟩ := nxt_lt ds n hm
  have hlt : (nxt ds n x.length).toNat < x.cps.size := by have : (x.length : Int) = (x.cps.size : Int) := rfl; omega
  have h3 : idxD (.str x) (.int (nxt ds n x.length)) = some (.str ⟨#[x.cps[(nxt ds n x.length).toNat]]⟩) := by
    have e1 : ixN x.cps.toList.length (nxt ds n x.length) = some (nxt ds n x.length).toNat := by
      unfold ixN
      rw [if_pos g1, if_pos (by rw [Array.length_toList]; exact g2)]
    show (if szOk x.length = true then (ixN _ _).bind _ else _) = _
    rw [if_pos (show szOk x.length = true from decide_eq_true h2), e1]
    show ((x.cps.toList[(nxt ds n x.length).toNat]?).map _) = _
    rw [List.getElem?_eq_getElem (by simpa using hlt)]
    simp
  refine ⟨x.cps[(nxt ds n x.length).toNat], by simp, ?_⟩
  have h4 : blt .len [.str x] = some (.int x.length) := b_len_s h2
  unfold F__law_pick evFn
  simp only [ir__law_pick, evSs, evS, evE, evEs, evO, evIfs, evF, testE, getO, getP, getV_eq, getX, setC, rd, rdAll, sl_0, sl_s, Option.bind_some, Option.map_some, Option.bind_none, Option.map_none, List.set_cons_zero, List.set_cons_succ, q_add, q_sub, q_mod, q_fdiv, q_mulr, q_adds, q_addl, q_addt, g_add, g_sub, g_adds, b_len_l, b_len_t, b_len_s, b_int_i, b_abs_i, b_tup_l, b_tup_t, k_lt, k_gt, k_le, k_ge, w_at, w_put, w_draws, List.length_map, startE, List.map_cons, List.map_nil, flIn, List.length_cons, List.length_nil, List.replicate, List.append_nil, List.cons_append, List.nil_append, outsC, Nat.zero_add, Nat.reduceAdd, Nat.reduceSub, Nat.sub_self, ↓reduceIte, if_true, if_false, Bool.false_eq_true, Int.reduceLT, Int.reduceNeg, Int.reducePow, Bool.not_true, Bool.not_false, decide_true, decide_false, nn_n, nn_b, nn_i, nn_s, nn_l, nn_t, k_isN, k_notN, argsC, backC, setV_0, setV_s, fr_n, fr_i, fr_o, fr_j, jk_s, bind_n, bind_t, bind_0, bind_s, u_ty, getX, wipeOk, wipeF, unwipe, List.all_cons, List.all_nil, List.foldr_cons, List.foldr_nil, Bool.and_true, Bool.true_and, lendI, itemsD, unlend, outI, q_pow18, P__law_pick, e_next ds n _ hm, h3, h4]
/-- the draws of a script: whole numbers, as many as are asked -/
def dEnv (L : List D) (ds : List Int) (m : Int) (j4 j5 j6 j7 : Option D) : En := [some (.ext, .list L), some (.imm, .int 400), some (.own, .list (ds.map PyData.int)), some (.imm, .int m), jk j4, jk j5, jk j6, jk j7]
theorem draws_0 (L : List D) (m c : Int) (j4 : Option D) (t : Nat) (d : D) (ds : List Int) (r : Int) (j7 : Option D) (hd : ds.length + 1 ≤ 16777216) :
    ∃ ds' r', ((bindT (.n 7) d (dEnv L ds m j4 (some (.int c)) (some (.int r)) j7)).bind fun e1 => evSs P__law_draws bd__law_draws_0 e1) = some (.nx (dEnv L ds' m j4 (some (.int c)) (some (.int r')) (some d))) ∧ ds'.length ≤ ds.length + 1 := by
  unfold dEnv
  by_cases hr : (0 : Int) < r
  · refine ⟨ds ++ [r % 997], r / 997, ?_, by simp⟩
    have h1 : mutD .append (.list (ds.map PyData.int)) [D.int (r % 997)] = some (.none, .list ((ds ++ [r % 997]).map PyData.int)) := by
      rw [u_app (by simpa using hd), List.map_append]; rfl
    simp only [bd__law_draws_0, evSs, evS, evE, evEs, evO, evIfs, evF, testE, getO, getP, getV_eq, getX, setC, rd, rdAll, sl_0, sl_s, Option.bind_some, Option.map_some, Option.bind_none, Option.map_none, List.set_cons_zero, List.set_cons_succ, q_add, q_sub, q_mod, q_fdiv, q_mulr, q_adds, q_addl, q_addt, g_add, g_sub, g_adds, b_len_l, b_len_t, b_len_s, b_int_i, b_abs_i, b_tup_l, b_tup_t, k_lt, k_gt, k_le, k_ge, w_at, w_put, w_draws, List.length_map, startE, List.map_cons, List.map_nil, flIn, List.length_cons, List.length_nil, List.replicate, List.append_nil, List.cons_append, List.nil_append, outsC, Nat.zero_add, Nat.reduceAdd, Nat.reduceSub, Nat.sub_self, ↓reduceIte, if_true, if_false, Bool.false_eq_true, Int.reduceLT, Int.reduceNeg, Int.reducePow, Bool.not_true, Bool.not_false, decide_true, decide_false, nn_n, nn_b, nn_i, nn_s, nn_l, nn_t, k_isN, k_notN, argsC, backC, setV_0, setV_s, fr_n, fr_i, fr_o, fr_j, jk_s, bind_n, bind_t, bind_0, bind_s, u_ty, getX, wipeOk, wipeF, unwipe, List.all_cons, List.all_nil, List.foldr_cons, List.foldr_nil, Bool.and_true, Bool.true_and, lendI, itemsD, unlend, outI, q_pow18, hr, h1]
  · refine ⟨ds, r, ?_, by simp⟩
    simp only [bd__law_draws_0, evSs, evS, evE, evEs, evO, evIfs, evF, testE, getO, getP, getV_eq, getX, setC, rd, rdAll, sl_0, sl_s, Option.bind_some, Option.map_some, Option.bind_none, Option.map_none, List.set_cons_zero, List.set_cons_succ, q_add, q_sub, q_mod, q_fdiv, q_mulr, q_adds, q_addl, q_addt, g_add, g_sub, g_adds, b_len_l, b_len_t, b_len_s, b_int_i, b_abs_i, b_tup_l, b_tup_t, k_lt, k_gt, k_le, k_ge, w_at, w_put, w_draws, List.length_map, startE, List.map_cons, List.map_nil, flIn, List.length_cons, List.length_nil, List.replicate, List.append_nil, List.cons_append, List.nil_append, outsC, Nat.zero_add, Nat.reduceAdd, Nat.reduceSub, Nat.sub_self, ↓reduceIte, if_true, if_false, Bool.false_eq_true, Int.reduceLT, Int.reduceNeg, Int.reducePow, Bool.not_true, Bool.not_false, decide_true, decide_false, nn_n, nn_b, nn_i, nn_s, nn_l, nn_t, k_isN, k_notN, argsC, backC, setV_0, setV_s, fr_n, fr_i, fr_o, fr_j, jk_s, bind_n, bind_t, bind_0, bind_s, u_ty, getX, wipeOk, wipeF, unwipe, List.all_cons, List.all_nil, List.foldr_cons, List.foldr_nil, Bool.and_true, Bool.true_and, lendI, itemsD, unlend, outI, q_pow18, hr]
theorem draws_1 (ns : List Int) (k : Nat) (hk : k < ns.length) (ds : List Int) (m : Int) (j4 j5 j6 j7 : Option D) (hd : ds.length + 62 ≤ 16777216) :
    ∃ ds' m' k5 k6 k7, ((bindT (.n 4) (.int k) (dEnv (ns.map PyData.int) ds m j4 j5 j6 j7)).bind fun e1 => evSs P__law_draws bd__law_draws_1 e1) = some (.nx (dEnv (ns.map PyData.int) ds' m' (some (.int k)) k5 k6 k7)) ∧ ds'.length ≤ ds.length + 62 := by
  have h1 := ixN_nat hk
  have h2 : (ns.map PyData.int)[k]? = some (.int (ns.getD k 0)) := by simp [hk]
  generalize hc : (if ns.getD k 0 < 0 then -ns.getD k 0 else ns.getD k 0) = c
  generalize hm' : (m * 48271 + c % 1000003 + k) % 65537 = m'
  have loop : ∀ (ds2 : List Int) (r : Int), ds2.length ≤ ds.length + 2 → ∃ ds' r' k7, forL (fun d e => (bindT (.n 7) d e).bind fun e1 => evSs P__law_draws bd__law_draws_0 e1) ((List.range 60).map fun (k : Nat) => D.int (k : Int)) (dEnv (ns.map PyData.int) ds2 m' (some (.int k)) (some (.int c)) (some (.int r)) j7) = some (.nx (dEnv (ns.map PyData.int) ds' m' (some (.int k)) (some (.int c)) (some (.int r')) k7)) ∧ ds'.length ≤ ds.length + 62 := fun ds2 r hl => by
    obtain ⟨e', hf, ds', r', k7, he, hl'⟩ := for_nx (f := fun d e => (bindT (.n 7) d e).bind fun e1 => evSs P__law_draws bd__law_draws_0 e1) (fun t e => ∃ ds' r' k7, e = dEnv (ns.map PyData.int) ds' m' (some (.int k)) (some (.int c)) (some (.int r')) k7 ∧ ds'.length ≤ ds.length + 2 + t) ((List.range 60).map fun (k : Nat) => D.int (k : Int)) _ ⟨ds2, r, j7, rfl, by omega⟩
      (fun t d e ht hi => by
        obtain ⟨ds', r', k7, rfl, hl'⟩ := hi
        have : t < 60 := by
          have := (List.getElem?_eq_some_iff.mp ht).1
          simpa using this
        obtain ⟨ds3, r3, h3, h4⟩ := draws_0 (ns.map PyData.int) m' c (some (.int k)) t d ds' r' k7 (by omega)
        exact ⟨_, h3, ds3, r3, some d, rfl, by omega⟩)
    subst he
    exact ⟨ds', r', k7, hf, by simpa using hl'⟩
  have r60 : rangeD [.int 60] = some ((List.range 60).map fun (k : Nat) => D.int (k : Int)) := rng_i (by omega) (by omega) (by omega)
  by_cases hge : 1000000000000000000 ≤ c
  · obtain ⟨ds', r', k7, hf, hl⟩ := loop ds c (by omega)
    refine ⟨ds', m', some (.int c), some (.int r'), k7, ?_, hl⟩
    generalize ((List.range 60).map fun (k : Nat) => D.int (k : Int)) = L2 at r60 hf
    unfold dEnv at hf ⊢
    simp only [jk_s, bind_n] at hf
    simp only [bd__law_draws_1, evSs, evS, evE, evEs, evO, evIfs, evF, testE, getO, getP, getV_eq, getX, setC, rd, rdAll, sl_0, sl_s, Option.bind_some, Option.map_some, Option.bind_none, Option.map_none, List.set_cons_zero, List.set_cons_succ, q_add, q_sub, q_mod, q_fdiv, q_mulr, q_adds, q_addl, q_addt, g_add, g_sub, g_adds, b_len_l, b_len_t, b_len_s, b_int_i, b_abs_i, b_tup_l, b_tup_t, k_lt, k_gt, k_le, k_ge, w_at, w_put, w_draws, List.length_map, startE, List.map_cons, List.map_nil, flIn, List.length_cons, List.length_nil, List.replicate, List.append_nil, List.cons_append, List.nil_append, outsC, Nat.zero_add, Nat.reduceAdd, Nat.reduceSub, Nat.sub_self, ↓reduceIte, if_true, if_false, Bool.false_eq_true, Int.reduceLT, Int.reduceNeg, Int.reducePow, Bool.not_true, Bool.not_false, decide_true, decide_false, nn_n, nn_b, nn_i, nn_s, nn_l, nn_t, k_isN, k_notN, argsC, backC, setV_0, setV_s, fr_n, fr_i, fr_o, fr_j, jk_s, bind_n, bind_t, bind_0, bind_s, u_ty, getX, wipeOk, wipeF, unwipe, List.all_cons, List.all_nil, List.foldr_cons, List.foldr_nil, Bool.and_true, Bool.true_and, lendI, itemsD, unlend, outI, q_pow18, h1, h2, hc, hm', hge, r60, hf]
  · obtain ⟨ds', r', k7, hf, hl⟩ := loop (ds ++ [c % 997] ++ [(m' * 69621 + 5) % 65521 % 997]) 0 (by simp)
    refine ⟨ds', m', some (.int c), some (.int r'), k7, ?_, hl⟩
    generalize ((List.range 60).map fun (k : Nat) => D.int (k : Int)) = L2 at r60 hf
    have a1 : mutD .append (.list (ds.map PyData.int)) [D.int (c % 997)] = some (.none, .list ((ds ++ [c % 997]).map PyData.int)) := by
      rw [u_app (by simp; omega), List.map_append]; rfl
    have a2 : mutD .append (.list ((ds ++ [c % 997]).map PyData.int)) [D.int ((m' * 69621 + 5) % 65521 % 997)] = some (.none, .list ((ds ++ [c % 997] ++ [(m' * 69621 + 5) % 65521 % 997]).map PyData.int)) := by
      rw [u_app (by simp; omega), List.map_append (l₁ := ds ++ [c % 997])]; rfl
    unfold dEnv at hf ⊢
    simp only [jk_s, bind_n] at hf
    simp only [bd__law_draws_1, evSs, evS, evE, evEs, evO, evIfs, evF, testE, getO, getP, getV_eq, getX, setC, rd, rdAll, sl_0, sl_s, Option.bind_some, Option.map_some, Option.bind_none, Option.map_none, List.set_cons_zero, List.set_cons_succ, q_add, q_sub, q_mod, q_fdiv, q_mulr, q_adds, q_addl, q_addt, g_add, g_sub, g_adds, b_len_l, b_len_t, b_len_s, b_int_i, b_abs_i, b_tup_l, b_tup_t, k_lt, k_gt, k_le, k_ge, w_at, w_put, w_draws, List.length_map, startE, List.map_cons, List.map_nil, flIn, List.length_cons, List.length_nil, List.replicate, List.append_nil, List.cons_append, List.nil_append, outsC, Nat.zero_add, Nat.reduceAdd, Nat.reduceSub, Nat.sub_self, ↓reduceIte, if_true, if_false, Bool.false_eq_true, Int.reduceLT, Int.reduceNeg, Int.reducePow, Bool.not_true, Bool.not_false, decide_true, decide_false, nn_n, nn_b, nn_i, nn_s, nn_l, nn_t, k_isN, k_notN, argsC, backC, setV_0, setV_s, fr_n, fr_i, fr_o, fr_j, jk_s, bind_n, bind_t, bind_0, bind_s, u_ty, getX, wipeOk, wipeF, unwipe, List.all_cons, List.all_nil, List.foldr_cons, List.foldr_nil, Bool.and_true, Bool.true_and, lendI, itemsD, unlend, outI, q_pow18, h1, h2, hc, hm', hge, r60, a1, a2, hf]
theorem draws_2 (L : List D) (k : Nat) (ds : List Int) (m : Int) (j4 j5 j6 j7 : Option D) (hd : ds.length + 1 ≤ 16777216) :
    ∃ x m', ((bindT (.n 4) (.int k) (dEnv L ds m j4 j5 j6 j7)).bind fun e1 => evSs P__law_draws bd__law_draws_2 e1) = some (.nx (dEnv L (ds ++ [x]) m' (some (.int k)) j5 j6 j7)) := by
  generalize hm' : (m * 16807 + k + 1) % 65537 = m'
  have a1 : mutD .append (.list (ds.map PyData.int)) [D.int (m' % 997)] = some (.none, .list ((ds ++ [m' % 997]).map PyData.int)) := by
    rw [u_app (by simp; omega), List.map_append]; rfl
  refine ⟨m' % 997, m', ?_⟩
  unfold dEnv
  simp only [bd__law_draws_2, evSs, evS, evE, evEs, evO, evIfs, evF, testE, getO, getP, getV_eq, getX, setC, rd, rdAll, sl_0, sl_s, Option.bind_some, Option.map_some, Option.bind_none, Option.map_none, List.set_cons_zero, List.set_cons_succ, q_add, q_sub, q_mod, q_fdiv, q_mulr, q_adds, q_addl, q_addt, g_add, g_sub, g_adds, b_len_l, b_len_t, b_len_s, b_int_i, b_abs_i, b_tup_l, b_tup_t, k_lt, k_gt, k_le, k_ge, w_at, w_put, w_draws, List.length_map, startE, List.map_cons, List.map_nil, flIn, List.length_cons, List.length_nil, List.replicate, List.append_nil, List.cons_append, List.nil_append, outsC, Nat.zero_add, Nat.reduceAdd, Nat.reduceSub, Nat.sub_self, ↓reduceIte, if_true, if_false, Bool.false_eq_true, Int.reduceLT, Int.reduceNeg, Int.reducePow, Bool.not_true, Bool.not_false, decide_true, decide_false, nn_n, nn_b, nn_i, nn_s, nn_l, nn_t, k_isN, k_notN, argsC, backC, setV_0, setV_s, fr_n, fr_i, fr_o, fr_j, jk_s, bind_n, bind_t, bind_0, bind_s, u_ty, getX, wipeOk, wipeF, unwipe, List.all_cons, List.all_nil, List.foldr_cons, List.foldr_nil, Bool.and_true, Bool.true_and, lendI, itemsD, unlend, outI, q_pow18, hm', a1]
theorem e_draws (ns : List Int) (hn : ns.length ≤ 63) : ∃ ds : List Int, F__law_draws [(.ext, .list (ns.map PyData.int)), (.imm, .int 400)] = some ((false, .list (ds.map PyData.int)), []) := by
  obtain ⟨e1, f1, ds1, m1, k4, k5, k6, k7, he1, hl1⟩ := for_nx (f := fun d e => (bindT (.n 4) d e).bind fun e1 => evSs P__law_draws bd__law_draws_1 e1) (fun t e => ∃ ds' m' k4 k5 k6 k7, e = dEnv (ns.map PyData.int) ds' m' k4 k5 k6 k7 ∧ ds'.length ≤ 62 * t) ((List.range ns.length).map fun (k : Nat) => D.int (k : Int)) (dEnv (ns.map PyData.int) [] 7 none none none none) ⟨[], 7, none, none, none, none, rfl, by simp⟩
    (fun t d e ht hi => by
      obtain ⟨ds', m', k4, k5, k6, k7, rfl, hl⟩ := hi
      have hlt : t < ns.length := by
        have := (List.getElem?_eq_some_iff.mp ht).1
        simpa using this
      have hd : d = .int t := by
        rw [List.getElem?_map, List.getElem?_range hlt] at ht
        cases ht; rfl
      subst hd
      obtain ⟨ds3, m3, a5, a6, a7, h3, h4⟩ := draws_1 ns t hlt ds' m' k4 k5 k6 k7 (by omega)
      exact ⟨_, h3, ds3, m3, _, a5, a6, a7, rfl, by omega⟩)
  subst he1
  rw [List.length_map, List.length_range] at hl1
  obtain ⟨e2, f2, ds2, m2, k4', he2, hl2⟩ := for_nx (f := fun d e => (bindT (.n 4) d e).bind fun e1 => evSs P__law_draws bd__law_draws_2 e1) (fun t e => ∃ ds' m' k4, e = dEnv (ns.map PyData.int) ds' m' k4 k5 k6 k7 ∧ ds'.length ≤ 62 * 63 + t) ((List.range 400).map fun (k : Nat) => D.int (k : Int)) (dEnv (ns.map PyData.int) ds1 m1 k4 k5 k6 k7) ⟨ds1, m1, k4, rfl, by omega⟩
    (fun t d e ht hi => by
      obtain ⟨ds', m', k4, rfl, hl⟩ := hi
      have hlt : t < 400 := by
        have := (List.getElem?_eq_some_iff.mp ht).1
        simpa using this
      have hd : d = .int t := by
        rw [List.getElem?_map, List.getElem?_range hlt] at ht
        cases ht; rfl
      subst hd
      obtain ⟨x, m3, h3⟩ := draws_2 (ns.map PyData.int) t ds' m' k4 k5 k6 k7 (by omega)
      exact ⟨_, h3, ds' ++ [x], m3, _, rfl, by simp; omega⟩)
  subst he2
  have r1 : rangeD [.int (ns.length : Int)] = some ((List.range ns.length).map fun (k : Nat) => D.int (k : Int)) := rng_1 (by omega)
  have r2 : rangeD [.int 400] = some ((List.range 400).map fun (k : Nat) => D.int (k : Int)) := rng_i (by omega) (by omega) (by omega)
  refine ⟨cutL ds2 none (some 400), ?_⟩
  have hcut : cutD (.list (ds2.map PyData.int)) none (some 400) = some (.list ((cutL ds2 none (some 400)).map PyData.int)) := by
    simp only [cutD, cutL, List.length_map, List.map_take, List.map_drop]
  have i0 : jk none = none := rfl
  unfold dEnv at f1 f2
  simp only [i0, List.map_nil, bind_n] at f1 f2
  generalize ((List.range ns.length).map fun (k : Nat) => D.int (k : Int)) = L1 at r1 f1
  generalize ((List.range 400).map fun (k : Nat) => D.int (k : Int)) = L2 at r2 f2
  unfold F__law_draws evFn
  simp only [ir__law_draws, evSs, evS, evE, evEs, evO, evIfs, evF, testE, getO, getP, getV_eq, getX, setC, rd, rdAll, sl_0, sl_s, Option.bind_some, Option.map_some, Option.bind_none, Option.map_none, List.set_cons_zero, List.set_cons_succ, q_add, q_sub, q_mod, q_fdiv, q_mulr, q_adds, q_addl, q_addt, g_add, g_sub, g_adds, b_len_l, b_len_t, b_len_s, b_int_i, b_abs_i, b_tup_l, b_tup_t, k_lt, k_gt, k_le, k_ge, w_at, w_put, w_draws, List.length_map, startE, List.map_cons, List.map_nil, flIn, List.length_cons, List.length_nil, List.replicate, List.append_nil, List.cons_append, List.nil_append, outsC, Nat.zero_add, Nat.reduceAdd, Nat.reduceSub, Nat.sub_self, ↓reduceIte, if_true, if_false, Bool.false_eq_true, Int.reduceLT, Int.reduceNeg, Int.reducePow, Bool.not_true, Bool.not_false, decide_true, decide_false, nn_n, nn_b, nn_i, nn_s, nn_l, nn_t, k_isN, k_notN, argsC, backC, setV_0, setV_s, fr_n, fr_i, fr_o, fr_j, jk_s, bind_n, bind_t, bind_0, bind_s, u_ty, getX, wipeOk, wipeF, unwipe, List.all_cons, List.all_nil, List.foldr_cons, List.foldr_nil, Bool.and_true, Bool.true_and, lendI, itemsD, unlend, outI, q_pow18, r1, r2, f1, f2, hcut]
end Lp
namespace Lp
open PySem PySem.Spec L2 Dv Lw
/-! ### alike: the same datum -/
mutual
def tupD : D → Nat → Bool
  | .none, _ => true
  | .bool _, _ => true
  | .int _, _ => true
  | .str _, _ => true
  | .tuple xs, n => decide (0 < n) && tupAll xs (n - 1)
  | .list _, _ => false
  | .dict _, _ => false
def tupAll : List D → Nat → Bool
  | [], _ => true
  | x :: xs, n => tupD x n && tupAll xs n
end
theorem tupAll_get : ∀ {xs : List D} {n k : Nat} {d : D}, tupAll xs n = true → xs[k]? = some d → tupD d n = true
  | [], _, _, _, _, h => by simp at h
  | x :: xs, n, k, d, ht, h => by
    rw [tupAll, Bool.and_eq_true] at ht
    cases k with
    | zero => simp at h; subst h; exact ht.1
    | succ k => exact tupAll_get ht.2 (by simpa using h)
theorem cmp_nil {ns : List Nat} : cmp2 .eq (.list (ns.map fun (k : Nat) => D.int (k : Int))) (.list []) = some ns.isEmpty := by
  have h1 : pln (.list (ns.map fun (k : Nat) => D.int (k : Int))) = true := by
    have : ∀ (ns : List Nat) (m : Nat), dOkAll (ns.map fun (k : Nat) => D.int (k : Int)) m = true := fun ns m => by
      induction ns with
      | nil => rfl
      | cons n r ih => rw [List.map_cons, dOkAll, ih]; rfl
    unfold pln
    rw [dOk, this]; rfl
  rw [cmp2, h1]
  cases ns <;> rfl
theorem isi_ok {d : D} {t : Ty} {n : Nat} (h : tupD d n = true) (e : En) {Φ : Nat → Fn} {a : IE} (ha : evE Φ a e = some (d, e)) : evE Φ (.isi a t) e = some (.bool (isTy t d), e) := by
  rw [evE, ha]
  cases d <;> first | rfl | (rw [tupD] at h; cases h)
theorem pln_b {b : Bool} : pln (.bool b) = true := rfl
theorem pln_i {b : Int} : pln (.int b) = true := rfl
theorem pln_s {b : Str} : pln (.str b) = true := rfl
theorem pln_n : pln .none = true := rfl
theorem eq_bb {a b : Bool} : cmp2 .eq (.bool a) (.bool b) = some (a == b) := by
  rw [cmp2, pln_b, pln_b]
  simp [PyData.eqv]
theorem eq_ii {a b : Int} : cmp2 .eq (.int a) (.int b) = some (a == b) := by
  rw [cmp2, pln_i, pln_i]
  simp [PyData.eqv]
theorem eq_ss {a b : Str} : cmp2 .eq (.str a) (.str b) = some (a == b) := by
  rw [cmp2, pln_s, pln_s]
  simp [PyData.eqv]
theorem alike_at (self : Fn) (told due : D) (n : Nat) (ht : tupD told n = true) (hd : ∀ ys, due ≠ .tuple ys) (hd2 : tupD due 0 = true) :
    ∃ b, evFn (P__law_alike self) 2 3 ir__law_alike [(.imm, told), (.imm, due)] = some ((false, .bool b), []) ∧ (b = true ↔ told = due) := by
  cases due with
  | none =>
    refine ⟨isNone told, ?_, by cases told <;> simp [isNone]⟩
    unfold evFn
    simp only [ir__law_alike, evSs, evS, evE, evEs, evO, evIfs, evF, testE, getO, getP, getV_eq, getX, setC, rd, rdAll, sl_0, sl_s, Option.bind_some, Option.map_some, Option.bind_none, Option.map_none, List.set_cons_zero, List.set_cons_succ, q_add, q_sub, q_mod, q_fdiv, q_mulr, q_adds, q_addl, q_addt, g_add, g_sub, g_adds, b_len_l, b_len_t, b_len_s, b_int_i, b_abs_i, b_tup_l, b_tup_t, k_lt, k_gt, k_le, k_ge, w_at, w_put, w_draws, List.length_map, startE, List.map_cons, List.map_nil, flIn, List.length_cons, List.length_nil, List.replicate, List.append_nil, List.cons_append, List.nil_append, outsC, Nat.zero_add, Nat.reduceAdd, Nat.reduceSub, Nat.sub_self, ↓reduceIte, if_true, if_false, Bool.false_eq_true, Int.reduceLT, Int.reduceNeg, Int.reducePow, Bool.not_true, Bool.not_false, decide_true, decide_false, nn_n, nn_b, nn_i, nn_s, nn_l, nn_t, k_isN, k_notN, argsC, backC, setV_0, setV_s, fr_n, fr_i, fr_o, fr_j, jk_s, bind_n, bind_t, bind_0, bind_s, u_ty, getX, wipeOk, wipeF, unwipe, List.all_cons, List.all_nil, List.foldr_cons, List.foldr_nil, Bool.and_true, Bool.true_and, lendI, itemsD, unlend, outI, q_pow18, isTy]
  | bool y =>
    unfold evFn
    cases told with
    | bool x => exact ⟨x == y, by simp only [ir__law_alike, evSs, evS, evE, evEs, evO, evIfs, evF, testE, getO, getP, getV_eq, getX, setC, rd, rdAll, sl_0, sl_s, Option.bind_some, Option.map_some, Option.bind_none, Option.map_none, List.set_cons_zero, List.set_cons_succ, q_add, q_sub, q_mod, q_fdiv, q_mulr, q_adds, q_addl, q_addt, g_add, g_sub, g_adds, b_len_l, b_len_t, b_len_s, b_int_i, b_abs_i, b_tup_l, b_tup_t, k_lt, k_gt, k_le, k_ge, w_at, w_put, w_draws, List.length_map, startE, List.map_cons, List.map_nil, flIn, List.length_cons, List.length_nil, List.replicate, List.append_nil, List.cons_append, List.nil_append, outsC, Nat.zero_add, Nat.reduceAdd, Nat.reduceSub, Nat.sub_self, ↓reduceIte, if_true, if_false, Bool.false_eq_true, Int.reduceLT, Int.reduceNeg, Int.reducePow, Bool.not_true, Bool.not_false, decide_true, decide_false, nn_n, nn_b, nn_i, nn_s, nn_l, nn_t, k_isN, k_notN, argsC, backC, setV_0, setV_s, fr_n, fr_i, fr_o, fr_j, jk_s, bind_n, bind_t, bind_0, bind_s, u_ty, getX, wipeOk, wipeF, unwipe, List.all_cons, List.all_nil, List.foldr_cons, List.foldr_nil, Bool.and_true, Bool.true_and, lendI, itemsD, unlend, outI, q_pow18, isTy, eq_bb], by simp⟩
    | list _ => rw [tupD] at ht; cases ht
    | dict _ => rw [tupD] at ht; cases ht
    | _ => exact ⟨false, by simp only [ir__law_alike, evSs, evS, evE, evEs, evO, evIfs, evF, testE, getO, getP, getV_eq, getX, setC, rd, rdAll, sl_0, sl_s, Option.bind_some, Option.map_some, Option.bind_none, Option.map_none, List.set_cons_zero, List.set_cons_succ, q_add, q_sub, q_mod, q_fdiv, q_mulr, q_adds, q_addl, q_addt, g_add, g_sub, g_adds, b_len_l, b_len_t, b_len_s, b_int_i, b_abs_i, b_tup_l, b_tup_t, k_lt, k_gt, k_le, k_ge, w_at, w_put, w_draws, List.length_map, startE, List.map_cons, List.map_nil, flIn, List.length_cons, List.length_nil, List.replicate, List.append_nil, List.cons_append, List.nil_append, outsC, Nat.zero_add, Nat.reduceAdd, Nat.reduceSub, Nat.sub_self, ↓reduceIte, if_true, if_false, Bool.false_eq_true, Int.reduceLT, Int.reduceNeg, Int.reducePow, Bool.not_true, Bool.not_false, decide_true, decide_false, nn_n, nn_b, nn_i, nn_s, nn_l, nn_t, k_isN, k_notN, argsC, backC, setV_0, setV_s, fr_n, fr_i, fr_o, fr_j, jk_s, bind_n, bind_t, bind_0, bind_s, u_ty, getX, wipeOk, wipeF, unwipe, List.all_cons, List.all_nil, List.foldr_cons, List.foldr_nil, Bool.and_true, Bool.true_and, lendI, itemsD, unlend, outI, q_pow18, isTy], by simp⟩
  | int y =>
    unfold evFn
    cases told with
    | int x => exact ⟨x == y, by simp only [ir__law_alike, evSs, evS, evE, evEs, evO, evIfs, evF, testE, getO, getP, getV_eq, getX, setC, rd, rdAll, sl_0, sl_s, Option.bind_some, Option.map_some, Option.bind_none, Option.map_none, List.set_cons_zero, List.set_cons_succ, q_add, q_sub, q_mod, q_fdiv, q_mulr, q_adds, q_addl, q_addt, g_add, g_sub, g_adds, b_len_l, b_len_t, b_len_s, b_int_i, b_abs_i, b_tup_l, b_tup_t, k_lt, k_gt, k_le, k_ge, w_at, w_put, w_draws, List.length_map, startE, List.map_cons, List.map_nil, flIn, List.length_cons, List.length_nil, List.replicate, List.append_nil, List.cons_append, List.nil_append, outsC, Nat.zero_add, Nat.reduceAdd, Nat.reduceSub, Nat.sub_self, ↓reduceIte, if_true, if_false, Bool.false_eq_true, Int.reduceLT, Int.reduceNeg, Int.reducePow, Bool.not_true, Bool.not_false, decide_true, decide_false, nn_n, nn_b, nn_i, nn_s, nn_l, nn_t, k_isN, k_notN, argsC, backC, setV_0, setV_s, fr_n, fr_i, fr_o, fr_j, jk_s, bind_n, bind_t, bind_0, bind_s, u_ty, getX, wipeOk, wipeF, unwipe, List.all_cons, List.all_nil, List.foldr_cons, List.foldr_nil, Bool.and_true, Bool.true_and, lendI, itemsD, unlend, outI, q_pow18, isTy, eq_ii], by simp⟩
    | list _ => rw [tupD] at ht; cases ht
    | dict _ => rw [tupD] at ht; cases ht
    | _ => exact ⟨false, by simp only [ir__law_alike, evSs, evS, evE, evEs, evO, evIfs, evF, testE, getO, getP, getV_eq, getX, setC, rd, rdAll, sl_0, sl_s, Option.bind_some, Option.map_some, Option.bind_none, Option.map_none, List.set_cons_zero, List.set_cons_succ, q_add, q_sub, q_mod, q_fdiv, q_mulr, q_adds, q_addl, q_addt, g_add, g_sub, g_adds, b_len_l, b_len_t, b_len_s, b_int_i, b_abs_i, b_tup_l, b_tup_t, k_lt, k_gt, k_le, k_ge, w_at, w_put, w_draws, List.length_map, startE, List.map_cons, List.map_nil, flIn, List.length_cons, List.length_nil, List.replicate, List.append_nil, List.cons_append, List.nil_append, outsC, Nat.zero_add, Nat.reduceAdd, Nat.reduceSub, Nat.sub_self, ↓reduceIte, if_true, if_false, Bool.false_eq_true, Int.reduceLT, Int.reduceNeg, Int.reducePow, Bool.not_true, Bool.not_false, decide_true, decide_false, nn_n, nn_b, nn_i, nn_s, nn_l, nn_t, k_isN, k_notN, argsC, backC, setV_0, setV_s, fr_n, fr_i, fr_o, fr_j, jk_s, bind_n, bind_t, bind_0, bind_s, u_ty, getX, wipeOk, wipeF, unwipe, List.all_cons, List.all_nil, List.foldr_cons, List.foldr_nil, Bool.and_true, Bool.true_and, lendI, itemsD, unlend, outI, q_pow18, isTy], by simp⟩
  | str y =>
    unfold evFn
    cases told with
    | str x => exact ⟨x == y, by simp only [ir__law_alike, evSs, evS, evE, evEs, evO, evIfs, evF, testE, getO, getP, getV_eq, getX, setC, rd, rdAll, sl_0, sl_s, Option.bind_some, Option.map_some, Option.bind_none, Option.map_none, List.set_cons_zero, List.set_cons_succ, q_add, q_sub, q_mod, q_fdiv, q_mulr, q_adds, q_addl, q_addt, g_add, g_sub, g_adds, b_len_l, b_len_t, b_len_s, b_int_i, b_abs_i, b_tup_l, b_tup_t, k_lt, k_gt, k_le, k_ge, w_at, w_put, w_draws, List.length_map, startE, List.map_cons, List.map_nil, flIn, List.length_cons, List.length_nil, List.replicate, List.append_nil, List.cons_append, List.nil_append, outsC, Nat.zero_add, Nat.reduceAdd, Nat.reduceSub, Nat.sub_self, ↓reduceIte, if_true, if_false, Bool.false_eq_true, Int.reduceLT, Int.reduceNeg, Int.reducePow, Bool.not_true, Bool.not_false, decide_true, decide_false, nn_n, nn_b, nn_i, nn_s, nn_l, nn_t, k_isN, k_notN, argsC, backC, setV_0, setV_s, fr_n, fr_i, fr_o, fr_j, jk_s, bind_n, bind_t, bind_0, bind_s, u_ty, getX, wipeOk, wipeF, unwipe, List.all_cons, List.all_nil, List.foldr_cons, List.foldr_nil, Bool.and_true, Bool.true_and, lendI, itemsD, unlend, outI, q_pow18, isTy, eq_ss], by simp⟩
    | list _ => rw [tupD] at ht; cases ht
    | dict _ => rw [tupD] at ht; cases ht
    | _ => exact ⟨false, by simp only [ir__law_alike, evSs, evS, evE, evEs, evO, evIfs, evF, testE, getO, getP, getV_eq, getX, setC, rd, rdAll, sl_0, sl_s, Option.bind_some, Option.map_some, Option.bind_none, Option.map_none, List.set_cons_zero, List.set_cons_succ, q_add, q_sub, q_mod, q_fdiv, q_mulr, q_adds, q_addl, q_addt, g_add, g_sub, g_adds, b_len_l, b_len_t, b_len_s, b_int_i, b_abs_i, b_tup_l, b_tup_t, k_lt, k_gt, k_le, k_ge, w_at, w_put, w_draws, List.length_map, startE, List.map_cons, List.map_nil, flIn, List.length_cons, List.length_nil, List.replicate, List.append_nil, List.cons_append, List.nil_append, outsC, Nat.zero_add, Nat.reduceAdd, Nat.reduceSub, Nat.sub_self, ↓reduceIte, if_true, if_false, Bool.false_eq_true, Int.reduceLT, Int.reduceNeg, Int.reducePow, Bool.not_true, Bool.not_false, decide_true, decide_false, nn_n, nn_b, nn_i, nn_s, nn_l, nn_t, k_isN, k_notN, argsC, backC, setV_0, setV_s, fr_n, fr_i, fr_o, fr_j, jk_s, bind_n, bind_t, bind_0, bind_s, u_ty, getX, wipeOk, wipeF, unwipe, List.all_cons, List.all_nil, List.foldr_cons, List.foldr_nil, Bool.and_true, Bool.true_and, lendI, itemsD, unlend, outI, q_pow18, isTy], by simp⟩
  | tuple ys => exact absurd rfl (hd ys)
  | list _ => rw [tupD] at hd2; cases hd2
  | dict _ => rw [tupD] at hd2; cases hd2
theorem alike_tup (self : Fn) (xs ys : List D) (hl : xs.length = ys.length) (hz : ys.length ≤ 16777216) (hs : ∀ (k : Nat) x y, xs[k]? = some x → ys[k]? = some y → ∃ b, self [(.imm, x), (.imm, y)] = some ((false, .bool b), []) ∧ (b = true ↔ x = y)) :
    ∃ b, evFn (P__law_alike self) 2 3 ir__law_alike [(.imm, .tuple xs), (.imm, .tuple ys)] = some ((false, .bool b), []) ∧ (b = true ↔ PyData.tuple xs = PyData.tuple ys) := by
  obtain ⟨rs, e', h1, h2, ns, h3, h4⟩ := lc_gen (f := fun d e => (bindT (.n 2) d e).bind fun e1 => (evIfs (P__law_alike self) cd__law_alike_0 e1).bind fun b => if b.1 = true then (evE (P__law_alike self) (.v 2) b.2).map fun y => (some y.1, y.2) else some (none, b.2)) (own := [2])
    (fun i acc e => e = [some (.imm, .tuple xs), some (.imm, .tuple ys), none] ∧ ∃ ns : List Nat, acc = (ns.map fun (k : Nat) => D.int (k : Int)) ∧ (ns = [] ↔ ∀ k, k < i → xs[k]? = ys[k]?)) ((List.range ys.length).map fun (k : Nat) => D.int (k : Int)) 0 [] [some (.imm, .tuple xs), some (.imm, .tuple ys), none]
    ⟨rfl, [], rfl, by simp⟩ (fun k d acc e hk hi => by
      obtain ⟨rfl, ns, rfl, hn⟩ := hi
      have hlt : k < ys.length := by
        have := (List.getElem?_eq_some_iff.mp hk).1
        simpa using this
      have hd : d = .int k := by
        rw [List.getElem?_map, List.getElem?_range hlt] at hk
        cases hk; rfl
      subst hd
      have hlx : k < xs.length := by omega
      obtain ⟨b, hb1, hb2⟩ := hs k xs[k] ys[k] (List.getElem?_eq_getElem hlx) (List.getElem?_eq_getElem hlt)
      have i1 : idxD (.tuple xs) (.int k) = some xs[k] := by rw [idx_tup rfl hlx]; simp [hlx]
      have i2 : idxD (.tuple ys) (.int k) = some ys[k] := by rw [idx_tup rfl hlt]; simp [hlt]
      have step : (∀ j, j < 0 + k + 1 → xs[j]? = ys[j]?) ↔ (∀ j, j < 0 + k → xs[j]? = ys[j]?) ∧ xs[k]? = ys[k]? := by
        constructor
        · intro h; exact ⟨fun j hj => h j (by omega), h k (by omega)⟩
        · rintro ⟨h, h'⟩ j hj
          by_cases hjk : j = k
          · subst hjk; exact h'
          · exact h j (by omega)
      have he : xs[k]? = ys[k]? ↔ b = true := by rw [hb2, List.getElem?_eq_getElem hlx, List.getElem?_eq_getElem hlt]; simp
      cases b with
      | true =>
        refine ⟨none, [some (.imm, .tuple xs), some (.imm, .tuple ys), some (.imm, .int k)], ?_, rfl, ns, by simp, ?_⟩
        · simp only [cd__law_alike_0, evSs, evS, evE, evEs, evO, evIfs, evF, testE, getO, getP, getV_eq, getX, setC, rd, rdAll, sl_0, sl_s, Option.bind_some, Option.map_some, Option.bind_none, Option.map_none, List.set_cons_zero, List.set_cons_succ, q_add, q_sub, q_mod, q_fdiv, q_mulr, q_adds, q_addl, q_addt, g_add, g_sub, g_adds, b_len_l, b_len_t, b_len_s, b_int_i, b_abs_i, b_tup_l, b_tup_t, k_lt, k_gt, k_le, k_ge, w_at, w_put, w_draws, List.length_map, startE, List.map_cons, List.map_nil, flIn, List.length_cons, List.length_nil, List.replicate, List.append_nil, List.cons_append, List.nil_append, outsC, Nat.zero_add, Nat.reduceAdd, Nat.reduceSub, Nat.sub_self, ↓reduceIte, if_true, if_false, Bool.false_eq_true, Int.reduceLT, Int.reduceNeg, Int.reducePow, Bool.not_true, Bool.not_false, decide_true, decide_false, nn_n, nn_b, nn_i, nn_s, nn_l, nn_t, k_isN, k_notN, argsC, backC, setV_0, setV_s, fr_n, fr_i, fr_o, fr_j, jk_s, bind_n, bind_t, bind_0, bind_s, u_ty, getX, wipeOk, wipeF, unwipe, List.all_cons, List.all_nil, List.foldr_cons, List.foldr_nil, Bool.and_true, Bool.true_and, lendI, itemsD, unlend, outI, q_pow18, i1, i2, P__law_alike, hb1]
        · rw [hn, step]; simp [he]
      | false =>
        refine ⟨some (.int k), [some (.imm, .tuple xs), some (.imm, .tuple ys), some (.imm, .int k)], ?_, rfl, ns ++ [k], by simp, ?_⟩
        · simp only [cd__law_alike_0, evSs, evS, evE, evEs, evO, evIfs, evF, testE, getO, getP, getV_eq, getX, setC, rd, rdAll, sl_0, sl_s, Option.bind_some, Option.map_some, Option.bind_none, Option.map_none, List.set_cons_zero, List.set_cons_succ, q_add, q_sub, q_mod, q_fdiv, q_mulr, q_adds, q_addl, q_addt, g_add, g_sub, g_adds, b_len_l, b_len_t, b_len_s, b_int_i, b_abs_i, b_tup_l, b_tup_t, k_lt, k_gt, k_le, k_ge, w_at, w_put, w_draws, List.length_map, startE, List.map_cons, List.map_nil, flIn, List.length_cons, List.length_nil, List.replicate, List.append_nil, List.cons_append, List.nil_append, outsC, Nat.zero_add, Nat.reduceAdd, Nat.reduceSub, Nat.sub_self, ↓reduceIte, if_true, if_false, Bool.false_eq_true, Int.reduceLT, Int.reduceNeg, Int.reducePow, Bool.not_true, Bool.not_false, decide_true, decide_false, nn_n, nn_b, nn_i, nn_s, nn_l, nn_t, k_isN, k_notN, argsC, backC, setV_0, setV_s, fr_n, fr_i, fr_o, fr_j, jk_s, bind_n, bind_t, bind_0, bind_s, u_ty, getX, wipeOk, wipeF, unwipe, List.all_cons, List.all_nil, List.foldr_cons, List.foldr_nil, Bool.and_true, Bool.true_and, lendI, itemsD, unlend, outI, q_pow18, i1, i2, P__law_alike, hb1]
        · rw [step]; simp [he])
  subst h2
  have hsz : szOk ((List.range ys.length).map fun (k : Nat) => D.int (k : Int)).length = true := decide_eq_true (by simpa using hz)
  have r1 : rangeD [.int (ys.length : Int)] = some ((List.range ys.length).map fun (k : Nat) => D.int (k : Int)) := rng_1 hz
  have hall : ns = [] ↔ PyData.tuple xs = PyData.tuple ys := by
    rw [h4]
    constructor
    · intro h
      congr 1
      apply List.ext_getElem?
      intro k
      by_cases hk : k < ys.length
      · exact h k (by simpa using hk)
      · rw [List.getElem?_eq_none (by omega), List.getElem?_eq_none (by omega)]
    · intro h k _
      cases h; rfl
  refine ⟨ns.isEmpty, ?_, by rw [← hall]; simp⟩
  rw [List.nil_append] at h3
  subst h3
  generalize hL : ((List.range ys.length).map fun (k : Nat) => D.int (k : Int)) = L at r1 h1 hsz
  have hne : cmp2 .ne (.int (xs.length : Int)) (.int (ys.length : Int)) = some false := by
    rw [cmp2, pln_i, pln_i, hl]; simp [PyData.eqv]
  simp only [evSs, evS, evE, evEs, evO, evIfs, evF, testE, getO, getP, getV_eq, getX, setC, rd, rdAll, sl_0, sl_s, Option.bind_some, Option.map_some, Option.bind_none, Option.map_none, List.set_cons_zero, List.set_cons_succ, q_add, q_sub, q_mod, q_fdiv, q_mulr, q_adds, q_addl, q_addt, g_add, g_sub, g_adds, b_len_l, b_len_t, b_len_s, b_int_i, b_abs_i, b_tup_l, b_tup_t, k_lt, k_gt, k_le, k_ge, w_at, w_put, w_draws, List.length_map, startE, List.map_cons, List.map_nil, flIn, List.length_cons, List.length_nil, List.replicate, List.append_nil, List.cons_append, List.nil_append, outsC, Nat.zero_add, Nat.reduceAdd, Nat.reduceSub, Nat.sub_self, ↓reduceIte, if_true, if_false, Bool.false_eq_true, Int.reduceLT, Int.reduceNeg, Int.reducePow, Bool.not_true, Bool.not_false, decide_true, decide_false, nn_n, nn_b, nn_i, nn_s, nn_l, nn_t, k_isN, k_notN, argsC, backC, setV_0, setV_s, fr_n, fr_i, fr_o, fr_j, jk_s, bind_n, bind_t, bind_0, bind_s, u_ty, getX, wipeOk, wipeF, unwipe, List.all_cons, List.all_nil, List.foldr_cons, List.foldr_nil, Bool.and_true, Bool.true_and, lendI, itemsD, unlend, outI, q_pow18] at h1
  unfold evFn
  simp only [ir__law_alike, evSs, evS, evE, evEs, evO, evIfs, evF, testE, getO, getP, getV_eq, getX, setC, rd, rdAll, sl_0, sl_s, Option.bind_some, Option.map_some, Option.bind_none, Option.map_none, List.set_cons_zero, List.set_cons_succ, q_add, q_sub, q_mod, q_fdiv, q_mulr, q_adds, q_addl, q_addt, g_add, g_sub, g_adds, b_len_l, b_len_t, b_len_s, b_int_i, b_abs_i, b_tup_l, b_tup_t, k_lt, k_gt, k_le, k_ge, w_at, w_put, w_draws, List.length_map, startE, List.map_cons, List.map_nil, flIn, List.length_cons, List.length_nil, List.replicate, List.append_nil, List.cons_append, List.nil_append, outsC, Nat.zero_add, Nat.reduceAdd, Nat.reduceSub, Nat.sub_self, ↓reduceIte, if_true, if_false, Bool.false_eq_true, Int.reduceLT, Int.reduceNeg, Int.reducePow, Bool.not_true, Bool.not_false, decide_true, decide_false, nn_n, nn_b, nn_i, nn_s, nn_l, nn_t, k_isN, k_notN, argsC, backC, setV_0, setV_s, fr_n, fr_i, fr_o, fr_j, jk_s, bind_n, bind_t, bind_0, bind_s, u_ty, getX, wipeOk, wipeF, unwipe, List.all_cons, List.all_nil, List.foldr_cons, List.foldr_nil, Bool.and_true, Bool.true_and, lendI, itemsD, unlend, outI, q_pow18, isTy, hne, r1, hsz, h1, cmp_nil]
theorem alike_no (self : Fn) (told : D) (ys : List D) (n : Nat) (ht : tupD told n = true) (hl : ∀ xs, told = .tuple xs → xs.length ≠ ys.length) :
    evFn (P__law_alike self) 2 3 ir__law_alike [(.imm, told), (.imm, .tuple ys)] = some ((false, .bool false), []) := by
  unfold evFn
  cases told with
  | tuple xs =>
    have h := hl xs rfl
    have hne : cmp2 .ne (.int (xs.length : Int)) (.int (ys.length : Int)) = some true := by
      rw [cmp2, pln_i, pln_i]
      have : ¬ ((xs.length : Int) = (ys.length : Int)) := by omega
      simp [PyData.eqv, this]
    simp only [ir__law_alike, evSs, evS, evE, evEs, evO, evIfs, evF, testE, getO, getP, getV_eq, getX, setC, rd, rdAll, sl_0, sl_s, Option.bind_some, Option.map_some, Option.bind_none, Option.map_none, List.set_cons_zero, List.set_cons_succ, q_add, q_sub, q_mod, q_fdiv, q_mulr, q_adds, q_addl, q_addt, g_add, g_sub, g_adds, b_len_l, b_len_t, b_len_s, b_int_i, b_abs_i, b_tup_l, b_tup_t, k_lt, k_gt, k_le, k_ge, w_at, w_put, w_draws, List.length_map, startE, List.map_cons, List.map_nil, flIn, List.length_cons, List.length_nil, List.replicate, List.append_nil, List.cons_append, List.nil_append, outsC, Nat.zero_add, Nat.reduceAdd, Nat.reduceSub, Nat.sub_self, ↓reduceIte, if_true, if_false, Bool.false_eq_true, Int.reduceLT, Int.reduceNeg, Int.reducePow, Bool.not_true, Bool.not_false, decide_true, decide_false, nn_n, nn_b, nn_i, nn_s, nn_l, nn_t, k_isN, k_notN, argsC, backC, setV_0, setV_s, fr_n, fr_i, fr_o, fr_j, jk_s, bind_n, bind_t, bind_0, bind_s, u_ty, getX, wipeOk, wipeF, unwipe, List.all_cons, List.all_nil, List.foldr_cons, List.foldr_nil, Bool.and_true, Bool.true_and, lendI, itemsD, unlend, outI, q_pow18, isTy, hne]
  | list _ => rw [tupD] at ht; cases ht
  | dict _ => rw [tupD] at ht; cases ht
  | _ => simp only [ir__law_alike, evSs, evS, evE, evEs, evO, evIfs, evF, testE, getO, getP, getV_eq, getX, setC, rd, rdAll, sl_0, sl_s, Option.bind_some, Option.map_some, Option.bind_none, Option.map_none, List.set_cons_zero, List.set_cons_succ, q_add, q_sub, q_mod, q_fdiv, q_mulr, q_adds, q_addl, q_addt, g_add, g_sub, g_adds, b_len_l, b_len_t, b_len_s, b_int_i, b_abs_i, b_tup_l, b_tup_t, k_lt, k_gt, k_le, k_ge, w_at, w_put, w_draws, List.length_map, startE, List.map_cons, List.map_nil, flIn, List.length_cons, List.length_nil, List.replicate, List.append_nil, List.cons_append, List.nil_append, outsC, Nat.zero_add, Nat.reduceAdd, Nat.reduceSub, Nat.sub_self, ↓reduceIte, if_true, if_false, Bool.false_eq_true, Int.reduceLT, Int.reduceNeg, Int.reducePow, Bool.not_true, Bool.not_false, decide_true, decide_false, nn_n, nn_b, nn_i, nn_s, nn_l, nn_t, k_isN, k_notN, argsC, backC, setV_0, setV_s, fr_n, fr_i, fr_o, fr_j, jk_s, bind_n, bind_t, bind_0, bind_s, u_ty, getX, wipeOk, wipeF, unwipe, List.all_cons, List.all_nil, List.foldr_cons, List.foldr_nil, Bool.and_true, Bool.true_and, lendI, itemsD, unlend, outI, q_pow18, isTy]
theorem tup_len {xs : List D} {n : Nat} (h : tupD (.tuple xs) n = true) : 0 < n ∧ tupAll xs (n - 1) = true := by
  rw [tupD, Bool.and_eq_true, decide_eq_true_eq] at h
  exact h
/-- no tuple in it is longer than the line -/
def small : D → Prop
  | .tuple xs => xs.length ≤ 16777216 ∧ ∀ x ∈ xs, small x
  | _ => True
theorem alike_spec : ∀ (m : Nat) (due told : D) (n : Nat), tupD due m = true → tupD told n = true → small due → ∃ b, R__law_alike (m + 1) [(.imm, told), (.imm, due)] = some ((false, .bool b), []) ∧ (b = true ↔ told = due) := by
  intro m
  induction m with
  | zero =>
    intro due told n hd ht hs
    cases due with
    | tuple ys => have := (tup_len hd).1; omega
    | _ => exact alike_at _ told _ n ht (fun _ => nofun) hd
  | succ m ih =>
    intro due told n hd ht hs
    cases due with
    | tuple ys =>
      by_cases hx : ∃ xs, told = .tuple xs ∧ xs.length = ys.length
      · obtain ⟨xs, rfl, hl⟩ := hx
        rw [small] at hs
        exact alike_tup _ xs ys hl hs.1 fun k x y h1 h2 => ih y x (n - 1) (tupAll_get (tup_len hd).2 h2) (tupAll_get (tup_len ht).2 h1) (hs.2 y (List.mem_of_getElem? h2))
      · refine ⟨false, alike_no _ told ys n ht (fun xs e hl => hx ⟨xs, e, hl⟩), ?_⟩
        constructor
        · intro h; cases h
        · rintro rfl; exact absurd ⟨ys, rfl, rfl⟩ hx
    | none => exact alike_at _ told _ n ht (fun _ => nofun) rfl
    | bool b => exact alike_at _ told _ n ht (fun _ => nofun) rfl
    | int b => exact alike_at _ told _ n ht (fun _ => nofun) rfl
    | str b => exact alike_at _ told _ n ht (fun _ => nofun) rfl
    | list _ => rw [tupD] at hd; cases hd
    | dict _ => rw [tupD] at hd; cases hd
theorem tupD_mono : ∀ {m : Nat} {d : D} {n : Nat}, tupD d m = true → m ≤ n → tupD d n = true := by
  intro m
  induction m with
  | zero =>
    intro d n h _
    cases d with
    | tuple xs => have := (tup_len h).1; omega
    | list _ => rw [tupD] at h; cases h
    | dict _ => rw [tupD] at h; cases h
    | _ => rfl
  | succ m ih =>
    intro d n h hn
    cases d with
    | tuple xs =>
      obtain ⟨_, h2⟩ := tup_len h
      rw [tupD, Bool.and_eq_true, decide_eq_true_eq]
      refine ⟨by omega, ?_⟩
      have key : ∀ (l : List D), tupAll l m = true → tupAll l (n - 1) = true := fun l => by
        induction l with
        | nil => intro _; rfl
        | cons x r ih2 =>
          intro h
          rw [tupAll, Bool.and_eq_true] at h ⊢
          exact ⟨ih h.1 (by omega), ih2 h.2⟩
      exact key xs h2
    | list _ => rw [tupD] at h; cases h
    | dict _ => rw [tupD] at h; cases h
    | _ => rfl
/-- .. to the def's own depth -/
theorem e_alike (due told : D) (hd : tupD due 11 = true) (ht : tupD told 11 = true) (hs : small due) : ∃ b, F__law_alike [(.imm, told), (.imm, due)] = some ((false, .bool b), []) ∧ (b = true ↔ told = due) := alike_spec 11 due told 11 hd ht hs
end Lp
namespace Lp
open PySem PySem.Spec L2 Dv Lw
/-! ### draws, typed -/
def nx (ds : List Int) (n m : Nat) : Nat := (nxt ds n m).toNat
theorem nx_lt (ds : List Int) (n : Nat) {m : Nat} (hm : 0 < m) : nx ds n m < m := by
  obtain ⟨h1, h2⟩ := nxt_lt ds n (m := (m : Int)) (by omega)
  unfold nx
  omega
theorem e_nextN (ds : List Int) (n m : Nat) (hm : 0 < m) : F__law_next [(.own, wD ds n), (.imm, .int (m : Int))] = some ((false, eI (nx ds n m)), [wD ds (n + 1)]) := by
  rw [e_next ds n m (by omega)]
  obtain ⟨h1, h2⟩ := nxt_lt ds n (m := (m : Int)) (by omega)
  unfold nx
  rw [show eI (nxt ds n m).toNat = .int (nxt ds n m) from congrArg PyData.int (Int.toNat_of_nonneg h1)]
theorem e_pickE {α : Type} (enc : α → D) (ds : List Int) (n : Nat) (xs : List α) (h : 0 < xs.length) : ∃ x ∈ xs, F__law_pick [(.own, wD ds n), (.imm, .list (xs.map enc))] = some ((false, enc x), [wD ds (n + 1)]) := by
  have hl := nxt_lt ds n (m := ((xs.map enc).length : Int)) (by rw [List.length_map]; omega)
  rw [List.length_map] at hl
  have hk : (nxt ds n xs.length).toNat < xs.length := by omega
  refine ⟨xs[(nxt ds n xs.length).toNat], List.getElem_mem hk, ?_⟩
  rw [e_pick ds n _ (by rw [List.length_map]; exact h), List.length_map]
  congr 3
  rw [List.getD_eq_getElem?_getD, List.getElem?_map, List.getElem?_eq_getElem hk]
  rfl
theorem e_pickC (ds : List Int) (n : Nat) (l : List Nat) (h : 0 < l.length) (h2 : l.length ≤ 16777216) : ∃ c ∈ l, F__law_pick [(.own, wD ds n), (.imm, eS l)] = some ((false, eC c), [wD ds (n + 1)]) := by
  obtain ⟨c, h3, h4⟩ := e_pickS ds n (S l) (by simpa using h) (by simpa using h2)
  exact ⟨c, by simpa using h3, h4⟩
theorem fill_w (x y : D) : dFill [] [(.str "draws", x), (.str "at", y)] = some [(.str "draws", x), (.str "at", y)] := by
  have e : PyData.eqv (.str "draws") (.str "at") = false := by decide +kernel
  simp [dFill, kOk, kind, dPut, dHas, e]
theorem w_all (x y : D) : (([(PyData.str "draws", x), (PyData.str "at", y)] : List (D × D)).all fun q => decide (kind q.1 = some false)) = true := rfl
end Lp
namespace Lp
open PySem PySem.Spec L2 Dv Lw
/-! ### in order, each once -/
section
variable {α : Type} [DecidableEq α]
def stA (acc : List α) (a : α) : List α := if acc.getLast? = some a then acc else acc ++ [a]
def dda (xs : List α) : List α := xs.foldl stA []
theorem stA_mem {acc : List α} {a b : α} (h : b ∈ stA acc a) : b ∈ acc ∨ b = a := by
  unfold stA at h
  split at h
  · exact .inl h
  · simpa using h
theorem stA_len (acc : List α) (a : α) : (stA acc a).length ≤ acc.length + 1 := by
  unfold stA
  split
  · omega
  · simp
theorem fold_mem : ∀ (xs acc : List α) (b : α), b ∈ xs.foldl stA acc → b ∈ acc ∨ b ∈ xs
  | [], _, _, h => .inl h
  | a :: xs, acc, b, h => by
    rcases fold_mem xs _ b h with h | h
    · rcases stA_mem h with h | h
      · exact .inl h
      · exact .inr (by simp [h])
    · exact .inr (by simp [h])
theorem fold_len : ∀ (xs acc : List α), (xs.foldl stA acc).length ≤ acc.length + xs.length
  | [], _ => Nat.le_refl _
  | a :: xs, acc => by
    have := fold_len xs (stA acc a)
    have := stA_len acc a
    rw [List.foldl_cons, List.length_cons]
    omega
def ord (enc : α → D) (xs : List α) : List α := dda (xs.mergeSort fun a b => dle (enc a) (enc b))
theorem ord_mem {enc : α → D} {xs : List α} {b : α} (h : b ∈ ord enc xs) : b ∈ xs := by
  rcases fold_mem _ _ b h with h | h
  · cases h
  · exact (List.mergeSort_perm xs _).mem_iff.mp h
theorem ord_len (enc : α → D) (xs : List α) : (ord enc xs).length ≤ xs.length := by
  have := fold_len (xs.mergeSort fun a b => dle (enc a) (enc b)) []
  rw [List.length_mergeSort, List.length_nil] at this
  unfold ord dda
  omega
theorem ord_two {enc : α → D} {xs : List α} (h : xs.length ≤ 2) : (ord enc xs).Nodup := by
  have hl : (xs.mergeSort fun a b => dle (enc a) (enc b)).length ≤ 2 := by rw [List.length_mergeSort]; exact h
  unfold ord
  generalize (xs.mergeSort fun a b => dle (enc a) (enc b)) = ys at hl
  match ys, hl with
  | [], _ => exact List.nodup_nil
  | [a], _ => simp [dda, stA]
  | [a, b], _ =>
    show (stA (stA [] a) b).Nodup
    have h1 : stA [] a = [a] := rfl
    rw [h1]
    unfold stA
    by_cases e : a = b
    · rw [if_pos (by simp [e])]; simp
    · rw [if_neg (by simpa using e)]; simp [e]
theorem srt_e (enc : α → D) (xs : List α) : srtD (xs.map enc) = (xs.mergeSort fun a b => dle (enc a) (enc b)).map enc := (List.map_mergeSort (f := enc) (r := fun a b => dle (enc a) (enc b)) (s := dle) (l := xs) (fun a _ b _ => rfl)).symm
theorem set_step (enc : α → D) (hq : ∀ a b, PyData.eqv (enc a) (enc b) = decide (a = b)) (hd : ∀ a, dOk (enc a) 39 = true) (L : D) (acc : List α) (a : α) (hz : acc.length + 1 ≤ 16777216) (j : Option D) :
    ((bindT (.n 2) (enc a) [some (.imm, L), some (.own, .list (acc.map enc)), jk j]).bind fun e1 => evSs P__law_set bd__law_set_0 e1) = some (.nx [some (.imm, L), some (.own, .list ((stA acc a).map enc)), jk (some (enc a))]) := by
  have h0 := (cmp_empty (pln_le hd acc)).1
  rcases List.eq_nil_or_concat acc with rfl | ⟨r, b, rfl⟩
  · have h1 : mutD .append (.list []) [enc a] = some (.none, .list ((stA [] a).map enc)) := u_app (by simp)
    generalize hE : enc a = x at h1 ⊢
    simp only [List.map_nil, List.isEmpty_nil] at h0
    simp only [bd__law_set_0, evSs, evS, evE, evEs, evO, evIfs, evF, testE, getO, getP, getV_eq, getX, setC, rd, rdAll, sl_0, sl_s, Option.bind_some, Option.map_some, Option.bind_none, Option.map_none, List.set_cons_zero, List.set_cons_succ, q_add, q_sub, q_mod, q_fdiv, q_mulr, q_adds, q_addl, q_addt, g_add, g_sub, g_adds, b_len_l, b_len_t, b_len_s, b_int_i, b_abs_i, b_tup_l, b_tup_t, k_lt, k_gt, k_le, k_ge, w_at, w_put, w_draws, List.length_map, startE, List.map_cons, List.map_nil, flIn, List.length_cons, List.length_nil, List.replicate, List.append_nil, List.cons_append, List.nil_append, outsC, Nat.zero_add, Nat.reduceAdd, Nat.reduceSub, Nat.sub_self, ↓reduceIte, if_true, if_false, Bool.false_eq_true, Int.reduceLT, Int.reduceNeg, Int.reducePow, Bool.not_true, Bool.not_false, decide_true, decide_false, nn_n, nn_b, nn_i, nn_s, nn_l, nn_t, k_isN, k_notN, argsC, backC, setV_0, setV_s, fr_n, fr_i, fr_o, fr_j, jk_s, bind_n, bind_t, bind_0, bind_s, u_ty, getX, wipeOk, wipeF, unwipe, List.all_cons, List.all_nil, List.foldr_cons, List.foldr_nil, Bool.and_true, Bool.true_and, lendI, itemsD, unlend, outI, q_pow18, h0, h1]
  · rw [List.concat_eq_append] at *
    have h1 : ((r ++ [b]).map enc).isEmpty = false := by simp
    rw [h1] at h0
    have hi : idxD (.list ((r ++ [b]).map enc)) (.int (((r ++ [b]).length : Int) - 1)) = some (enc b) := by
      rw [show (((r ++ [b]).length : Int) - 1) = ((r.length : Nat) : Int) by simp]
      exact idx_el (by simp)
    have hb : pln (enc b) = true := dOk_up _ _ (hd b)
    have ha : pln (enc a) = true := dOk_up _ _ (hd a)
    have hn : cmp2 .ne (enc b) (enc a) = some (!decide (b = a)) := by rw [cmp2, hb, ha, hq]; rfl
    by_cases e : b = a
    · have e2 : stA (r ++ [b]) a = r ++ [b] := by unfold stA; rw [if_pos (by simp [e])]
      rw [e2]
      rw [decide_eq_true e] at hn
      have hlen : ((r ++ [b]).map enc).length = (r ++ [b]).length := by simp
      generalize enc a = x at hn ⊢
      generalize enc b = y at hn hi ⊢
      generalize (r ++ [b]).map enc = xs at h0 hi hlen ⊢
      rw [← hlen] at hi
      simp only [bd__law_set_0, evSs, evS, evE, evEs, evO, evIfs, evF, testE, getO, getP, getV_eq, getX, setC, rd, rdAll, sl_0, sl_s, Option.bind_some, Option.map_some, Option.bind_none, Option.map_none, List.set_cons_zero, List.set_cons_succ, q_add, q_sub, q_mod, q_fdiv, q_mulr, q_adds, q_addl, q_addt, g_add, g_sub, g_adds, b_len_l, b_len_t, b_len_s, b_int_i, b_abs_i, b_tup_l, b_tup_t, k_lt, k_gt, k_le, k_ge, w_at, w_put, w_draws, List.length_map, startE, List.map_cons, List.map_nil, flIn, List.length_cons, List.length_nil, List.replicate, List.append_nil, List.cons_append, List.nil_append, outsC, Nat.zero_add, Nat.reduceAdd, Nat.reduceSub, Nat.sub_self, ↓reduceIte, if_true, if_false, Bool.false_eq_true, Int.reduceLT, Int.reduceNeg, Int.reducePow, Bool.not_true, Bool.not_false, decide_true, decide_false, nn_n, nn_b, nn_i, nn_s, nn_l, nn_t, k_isN, k_notN, argsC, backC, setV_0, setV_s, fr_n, fr_i, fr_o, fr_j, jk_s, bind_n, bind_t, bind_0, bind_s, u_ty, getX, wipeOk, wipeF, unwipe, List.all_cons, List.all_nil, List.foldr_cons, List.foldr_nil, Bool.and_true, Bool.true_and, lendI, itemsD, unlend, outI, q_pow18, h0, hi, hn]
    · have e2 : stA (r ++ [b]) a = r ++ [b] ++ [a] := by unfold stA; rw [if_neg (by simpa using e)]
      rw [e2]
      rw [decide_eq_false e] at hn
      have hlen : ((r ++ [b]).map enc).length = (r ++ [b]).length := by simp
      have hap : mutD .append (.list ((r ++ [b]).map enc)) [enc a] = some (.none, .list ((r ++ [b] ++ [a]).map enc)) := by
        rw [u_app (by rw [hlen]; exact hz), List.map_append (l₁ := r ++ [b])]; rfl
      generalize (r ++ [b] ++ [a]).map enc = zs at hap ⊢
      generalize enc a = x at hn hap ⊢
      generalize enc b = y at hn hi ⊢
      generalize (r ++ [b]).map enc = xs at h0 hi hlen hap ⊢
      rw [← hlen] at hi
      simp only [bd__law_set_0, evSs, evS, evE, evEs, evO, evIfs, evF, testE, getO, getP, getV_eq, getX, setC, rd, rdAll, sl_0, sl_s, Option.bind_some, Option.map_some, Option.bind_none, Option.map_none, List.set_cons_zero, List.set_cons_succ, q_add, q_sub, q_mod, q_fdiv, q_mulr, q_adds, q_addl, q_addt, g_add, g_sub, g_adds, b_len_l, b_len_t, b_len_s, b_int_i, b_abs_i, b_tup_l, b_tup_t, k_lt, k_gt, k_le, k_ge, w_at, w_put, w_draws, List.length_map, startE, List.map_cons, List.map_nil, flIn, List.length_cons, List.length_nil, List.replicate, List.append_nil, List.cons_append, List.nil_append, outsC, Nat.zero_add, Nat.reduceAdd, Nat.reduceSub, Nat.sub_self, ↓reduceIte, if_true, if_false, Bool.false_eq_true, Int.reduceLT, Int.reduceNeg, Int.reducePow, Bool.not_true, Bool.not_false, decide_true, decide_false, nn_n, nn_b, nn_i, nn_s, nn_l, nn_t, k_isN, k_notN, argsC, backC, setV_0, setV_s, fr_n, fr_i, fr_o, fr_j, jk_s, bind_n, bind_t, bind_0, bind_s, u_ty, getX, wipeOk, wipeF, unwipe, List.all_cons, List.all_nil, List.foldr_cons, List.foldr_nil, Bool.and_true, Bool.true_and, lendI, itemsD, unlend, outI, q_pow18, h0, hi, hn, hap]
theorem e_set (enc : α → D) (hq : ∀ a b, PyData.eqv (enc a) (enc b) = decide (a = b)) (hd : ∀ a, dOk (enc a) 39 = true) (xs : List α) (hs : srtOk (xs.map enc) = true) (hz : xs.length + 1 ≤ 16777216) :
    F__law_set [(.imm, .list (xs.map enc))] = some ((false, .tuple ((ord enc xs).map enc)), []) := by
  obtain ⟨e1, h1, j, h2⟩ := for_pre (f := fun d e => (bindT (.n 2) d e).bind fun e1 => evSs P__law_set bd__law_set_0 e1) enc (fun p e => ∃ j, e = [some (.imm, .list (xs.map enc)), some (.own, .list ((dda p).map enc)), jk j])
    (xs.mergeSort fun a b => dle (enc a) (enc b)) [] [some (.imm, .list (xs.map enc)), some (.own, .list []), none] ⟨none, rfl⟩ fun p a q e he ⟨j, hi⟩ => by
      subst hi
      have hl : p.length + 1 ≤ xs.length := by
        have := congrArg List.length he
        rw [List.nil_append, List.length_mergeSort, List.length_append, List.length_cons] at this
        omega
      have hl2 := fold_len p ([] : List α)
      rw [List.length_nil] at hl2
      refine ⟨_, set_step enc hq hd (.list (xs.map enc)) (dda p) a (by unfold dda; omega) j, some (enc a), ?_⟩
      rw [show dda (p ++ [a]) = stA (dda p) a by unfold dda; rw [List.foldl_append]; rfl]
  subst h2
  rw [List.nil_append] at h1
  have hb : blt .sorted [.list (xs.map enc)] = some (.list ((xs.mergeSort fun a b => dle (enc a) (enc b)).map enc)) := by
    show (if srtOk (xs.map enc) = true then _ else _) = _
    rw [if_pos hs, srt_e]
  show F__law_set _ = some ((false, .tuple ((dda (xs.mergeSort fun a b => dle (enc a) (enc b))).map enc)), [])
  generalize (xs.mergeSort fun a b => dle (enc a) (enc b)).map enc = L1 at h1 hb
  generalize (dda (xs.mergeSort fun a b => dle (enc a) (enc b))).map enc = L2 at h1 ⊢
  generalize xs.map enc = L at h1 hb ⊢
  try simp only [evSs, evS, evE, evEs, evO, evIfs, evF, testE, getO, getP, getV_eq, getX, setC, rd, rdAll, sl_0, sl_s, Option.bind_some, Option.map_some, Option.bind_none, Option.map_none, List.set_cons_zero, List.set_cons_succ, q_add, q_sub, q_mod, q_fdiv, q_mulr, q_adds, q_addl, q_addt, g_add, g_sub, g_adds, b_len_l, b_len_t, b_len_s, b_int_i, b_abs_i, b_tup_l, b_tup_t, k_lt, k_gt, k_le, k_ge, w_at, w_put, w_draws, List.length_map, startE, List.map_cons, List.map_nil, flIn, List.length_cons, List.length_nil, List.replicate, List.append_nil, List.cons_append, List.nil_append, outsC, Nat.zero_add, Nat.reduceAdd, Nat.reduceSub, Nat.sub_self, ↓reduceIte, if_true, if_false, Bool.false_eq_true, Int.reduceLT, Int.reduceNeg, Int.reducePow, Bool.not_true, Bool.not_false, decide_true, decide_false, nn_n, nn_b, nn_i, nn_s, nn_l, nn_t, k_isN, k_notN, argsC, backC, setV_0, setV_s, fr_n, fr_i, fr_o, fr_j, jk_s, bind_n, bind_t, bind_0, bind_s, u_ty, getX, wipeOk, wipeF, unwipe, List.all_cons, List.all_nil, List.foldr_cons, List.foldr_nil, Bool.and_true, Bool.true_and, lendI, itemsD, unlend, outI, q_pow18] at h1
  unfold F__law_set evFn
  simp only [ir__law_set, evSs, evS, evE, evEs, evO, evIfs, evF, testE, getO, getP, getV_eq, getX, setC, rd, rdAll, sl_0, sl_s, Option.bind_some, Option.map_some, Option.bind_none, Option.map_none, List.set_cons_zero, List.set_cons_succ, q_add, q_sub, q_mod, q_fdiv, q_mulr, q_adds, q_addl, q_addt, g_add, g_sub, g_adds, b_len_l, b_len_t, b_len_s, b_int_i, b_abs_i, b_tup_l, b_tup_t, k_lt, k_gt, k_le, k_ge, w_at, w_put, w_draws, List.length_map, startE, List.map_cons, List.map_nil, flIn, List.length_cons, List.length_nil, List.replicate, List.append_nil, List.cons_append, List.nil_append, outsC, Nat.zero_add, Nat.reduceAdd, Nat.reduceSub, Nat.sub_self, ↓reduceIte, if_true, if_false, Bool.false_eq_true, Int.reduceLT, Int.reduceNeg, Int.reducePow, Bool.not_true, Bool.not_false, decide_true, decide_false, nn_n, nn_b, nn_i, nn_s, nn_l, nn_t, k_isN, k_notN, argsC, backC, setV_0, setV_s, fr_n, fr_i, fr_o, fr_j, jk_s, bind_n, bind_t, bind_0, bind_s, u_ty, getX, wipeOk, wipeF, unwipe, List.all_cons, List.all_nil, List.foldr_cons, List.foldr_nil, Bool.and_true, Bool.true_and, lendI, itemsD, unlend, outI, q_pow18, hb, h1]
end
end Lp
namespace Lp
open PySem PySem.Spec L2 Dv Lw
/-! ### machines with runs -/
abbrev En2 := Nat × List Nat
abbrev Ar := Nat × Nat × List Nat × Nat
def eEd (e : En2) : D := .tuple [eI e.1, eS e.2]
def eA (a : Ar) : D := .tuple [eI a.1, eC a.2.1, eS a.2.2.1, eI a.2.2.2]
structure Mc where
  many : Nat
  beg : List Nat
  ends : List En2
  arr : List Ar
def eM (M : Mc) : D := .tuple [eI M.many, .tuple (M.beg.map eI), .tuple (M.ends.map eEd), .tuple (M.arr.map eA)]
structure Ok (M : Mc) : Prop where
  pos : 0 < M.many
  few : M.many ≤ 3
  bnd : M.beg.Nodup
  bl : M.beg.length ≤ 2
  bm : ∀ b ∈ M.beg, b < M.many
  el : M.ends.length ≤ 3
  em : ∀ e ∈ M.ends, e.1 < M.many
  al : M.arr.length ≤ 6
  am : ∀ a ∈ M.arr, a.1 < M.many ∧ (a.2.1 = 97 ∨ a.2.1 = 98) ∧ a.2.2.2 < M.many
theorem srt_ok {α : Type} {enc : α → D} (hal : ∀ a b, W.alike (enc a) (enc b) = true) (hd : ∀ a, dOk (enc a) 39 = true) (hk : (∀ a, ∃ x r, enc a = .tuple (x :: r)) ∨ ∀ a, (match enc a with | .tuple _ => false | .none => false | _ => true) = true) (xs : List α) : srtOk (xs.map enc) = true := by
  unfold srtOk
  rw [Bool.and_eq_true, Bool.and_eq_true, Bool.or_eq_true]
  refine ⟨⟨?_, dOkAll_up _ _ (dOk_all hd xs)⟩, ?_⟩
  · rw [List.all_eq_true]
    intro x hx
    obtain ⟨a, _, rfl⟩ := List.mem_map.mp hx
    rw [List.all_eq_true]
    intro y hy
    obtain ⟨b, _, rfl⟩ := List.mem_map.mp hy
    exact hal a b
  · rcases hk with hk | hk
    · left
      rw [List.all_eq_true]
      intro x hx
      obtain ⟨a, _, rfl⟩ := List.mem_map.mp hx
      obtain ⟨y, r, e⟩ := hk a
      rw [e]
    · right
      rw [List.all_eq_true]
      intro x hx
      obtain ⟨a, _, rfl⟩ := List.mem_map.mp hx
      exact hk a
theorem q_I (a b : Nat) : PyData.eqv (eI a) (eI b) = decide (a = b) := by rw [eqv_ii, beq_nn]; rfl
theorem q_Ed (a b : En2) : PyData.eqv (eEd a) (eEd b) = decide (a = b) := by
  obtain ⟨a1, a2⟩ := a
  obtain ⟨b1, b2⟩ := b
  rw [Bool.eq_iff_iff]
  simp [eEd, PyData.eqv, PyData.eqvAll, Prod.ext_iff]
  omega
theorem q_A (a b : Ar) : PyData.eqv (eA a) (eA b) = decide (a = b) := by
  obtain ⟨a1, a2, a3, a4⟩ := a
  obtain ⟨b1, b2, b3, b4⟩ := b
  rw [Bool.eq_iff_iff]
  simp [eA, PyData.eqv, PyData.eqvAll, Prod.ext_iff]
  rw [Int.ofNat_inj, Int.ofNat_inj]
theorem o_I (xs : List Nat) : srtOk (xs.map eI) = true := srt_ok (fun _ _ => rfl) (fun _ => rfl) (.inr fun _ => rfl) xs
theorem o_Ed (xs : List En2) : srtOk (xs.map eEd) = true := srt_ok (fun a b => by simp [eEd, W.alike, W.alikeAll]) (fun _ => rfl) (.inl fun a => ⟨_, _, rfl⟩) xs
theorem o_A (xs : List Ar) : srtOk (xs.map eA) = true := srt_ok (fun a b => by simp [eA, W.alike, W.alikeAll]) (fun _ => rfl) (.inl fun a => ⟨_, _, rfl⟩) xs
def mE (ds : List Int) (n : Nat) (j1 j2 j3 j4 j5 j6 : Option D) : En := [some (.par, wD ds n), jk j1, jk j2, jk j3, jk j4, jk j5, jk j6]
def outs : List (List Nat) := [[], [97], [98]]
theorem outs_e : ([PyData.str "", PyData.str "a", PyData.str "b"] : List D) = outs.map eS := by
  show _ = [PyData.str (S []), PyData.str (S [97]), PyData.str (S [98])]
  have e1 : (Str.ofString "a") = S [97] := by decide +kernel
  have e2 : (Str.ofString "b") = S [98] := by decide +kernel
  rw [S_nil, e1, e2]
theorem ab_e : (Str.ofString "ab") = S [97, 98] := by decide +kernel
/-- the states that are begun with -/
theorem mach_0 (ds : List Int) (n k many : Nat) (hm : 0 < many) (j2 : Option D) : ∃ (bs : List Nat) (n' : Nat), bs.length = k ∧ (∀ b ∈ bs, b < many) ∧
    lcL (fun d e => (bindT (.n 6) d e).bind fun e1 => (evIfs P__law_machine [] e1).bind fun b => if b.1 = true then (evE P__law_machine el__law_machine_0 b.2).map fun y => (some y.1, y.2) else some (none, b.2)) [6] ((List.range k).map eI) (mE ds n (some (eI many)) j2 none none none none) =
      some (bs.map eI, mE ds n' (some (eI many)) j2 none none none none) := by
  obtain ⟨rs, e', h1, bs, m, h2, h3, h4, h5⟩ := lc_pre (f := fun d e => (bindT (.n 6) d e).bind fun e1 => (evIfs P__law_machine [] e1).bind fun b => if b.1 = true then (evE P__law_machine el__law_machine_0 b.2).map fun y => (some y.1, y.2) else some (none, b.2)) (own := [6]) eI
    (fun p acc e => ∃ (bs : List Nat) (m : Nat), acc = bs.map eI ∧ bs.length = p.length ∧ (∀ b ∈ bs, b < many) ∧ e = mE ds m (some (eI many)) j2 none none none none) (List.range k) [] [] _ ⟨[], n, rfl, rfl, by simp, rfl⟩ (fun p a q acc e he ⟨bs, m, h2, h3, h4, h5⟩ => by
      subst h2 h5
      refine ⟨some (eI (nx ds m many)), [some (.par, wD ds (m + 1)), some (.imm, eI many), jk j2, none, none, none, some (.imm, eI a)], ?_, bs ++ [nx ds m many], m + 1, by simp, by simp [h3], fun b hb => ?_, rfl⟩
      · have hn := e_nextN ds m many hm
        unfold mE
        have j0 : jk none = none := rfl
        rw [j0]
        simp only [el__law_machine_0, evSs, evS, evE, evEs, evO, evIfs, evF, testE, getO, getP, getV_eq, getX, setC, rd, rdAll, sl_0, sl_s, Option.bind_some, Option.map_some, Option.bind_none, Option.map_none, List.set_cons_zero, List.set_cons_succ, q_add, q_sub, q_mod, q_fdiv, q_mulr, q_adds, q_addl, q_addt, g_add, g_sub, g_adds, b_len_l, b_len_t, b_len_s, b_int_i, b_abs_i, b_tup_l, b_tup_t, k_lt, k_gt, k_le, k_ge, w_at, w_put, w_draws, List.length_map, startE, List.map_cons, List.map_nil, flIn, List.length_cons, List.length_nil, List.replicate, List.append_nil, List.cons_append, List.nil_append, outsC, Nat.zero_add, Nat.reduceAdd, Nat.reduceSub, Nat.sub_self, ↓reduceIte, if_true, if_false, Bool.false_eq_true, Int.reduceLT, Int.reduceNeg, Int.reducePow, Bool.not_true, Bool.not_false, decide_true, decide_false, nn_n, nn_b, nn_i, nn_s, nn_l, nn_t, k_isN, k_notN, argsC, backC, setV_0, setV_s, fr_n, fr_i, fr_o, fr_j, jk_s, bind_n, bind_t, bind_0, bind_s, u_ty, getX, wipeOk, wipeF, unwipe, List.all_cons, List.all_nil, List.foldr_cons, List.foldr_nil, Bool.and_true, Bool.true_and, lendI, itemsD, unlend, outI, q_pow18, P__law_machine, hn]
      · rcases List.mem_append.mp hb with hb | hb
        · exact h4 b hb
        · rw [List.mem_singleton.mp hb]
          exact nx_lt ds m hm)
  subst h5
  rw [List.nil_append] at h2 h3
  subst h2
  exact ⟨bs, m, by simpa using h3, h4, h1⟩
/-- the ends -/
theorem mach_1 (ds : List Int) (n k many : Nat) (hm : 0 < many) (j3 : Option D) : ∃ (bs : List En2) (n' : Nat), bs.length = k ∧ (∀ b ∈ bs, b.1 < many) ∧
    lcL (fun d e => (bindT (.n 6) d e).bind fun e1 => (evIfs P__law_machine [] e1).bind fun b => if b.1 = true then (evE P__law_machine el__law_machine_1 b.2).map fun y => (some y.1, y.2) else some (none, b.2)) [6] ((List.range k).map eI) (mE ds n (some (eI many)) (some (.list (outs.map eS))) j3 none none none) =
      some (bs.map eEd, mE ds n' (some (eI many)) (some (.list (outs.map eS))) j3 none none none) := by
  obtain ⟨rs, e', h1, bs, m, h2, h3, h4, h5⟩ := lc_pre (f := fun d e => (bindT (.n 6) d e).bind fun e1 => (evIfs P__law_machine [] e1).bind fun b => if b.1 = true then (evE P__law_machine el__law_machine_1 b.2).map fun y => (some y.1, y.2) else some (none, b.2)) (own := [6]) eI
    (fun p acc e => ∃ (bs : List En2) (m : Nat), acc = bs.map eEd ∧ bs.length = p.length ∧ (∀ b ∈ bs, b.1 < many) ∧ e = mE ds m (some (eI many)) (some (.list (outs.map eS))) j3 none none none) (List.range k) [] [] _ ⟨[], n, rfl, rfl, by simp, rfl⟩ (fun p a q acc e he ⟨bs, m, h2, h3, h4, h5⟩ => by
      subst h2 h5
      have hn := e_nextN ds m many hm
      obtain ⟨o, _, hp⟩ := e_pickE eS ds (m + 1) outs (by decide)
      refine ⟨some (eEd (nx ds m many, o)), [some (.par, wD ds (m + 1 + 1)), some (.imm, eI many), some (.imm, .list (outs.map eS)), jk j3, none, none, some (.imm, eI a)], ?_, bs ++ [(nx ds m many, o)], m + 1 + 1, by simp, by simp [h3], fun b hb => ?_, rfl⟩
      · unfold mE eEd
        have j0 : jk none = none := rfl
        rw [j0]
        generalize outs.map eS = OO at hp ⊢
        simp only [el__law_machine_1, evSs, evS, evE, evEs, evO, evIfs, evF, testE, getO, getP, getV_eq, getX, setC, rd, rdAll, sl_0, sl_s, Option.bind_some, Option.map_some, Option.bind_none, Option.map_none, List.set_cons_zero, List.set_cons_succ, q_add, q_sub, q_mod, q_fdiv, q_mulr, q_adds, q_addl, q_addt, g_add, g_sub, g_adds, b_len_l, b_len_t, b_len_s, b_int_i, b_abs_i, b_tup_l, b_tup_t, k_lt, k_gt, k_le, k_ge, w_at, w_put, w_draws, List.length_map, startE, List.map_cons, List.map_nil, flIn, List.length_cons, List.length_nil, List.replicate, List.append_nil, List.cons_append, List.nil_append, outsC, Nat.zero_add, Nat.reduceAdd, Nat.reduceSub, Nat.sub_self, ↓reduceIte, if_true, if_false, Bool.false_eq_true, Int.reduceLT, Int.reduceNeg, Int.reducePow, Bool.not_true, Bool.not_false, decide_true, decide_false, nn_n, nn_b, nn_i, nn_s, nn_l, nn_t, k_isN, k_notN, argsC, backC, setV_0, setV_s, fr_n, fr_i, fr_o, fr_j, jk_s, bind_n, bind_t, bind_0, bind_s, u_ty, getX, wipeOk, wipeF, unwipe, List.all_cons, List.all_nil, List.foldr_cons, List.foldr_nil, Bool.and_true, Bool.true_and, lendI, itemsD, unlend, outI, q_pow18, P__law_machine, hn, hp]
      · rcases List.mem_append.mp hb with hb | hb
        · exact h4 b hb
        · rw [List.mem_singleton.mp hb]
          exact nx_lt ds m hm)
  subst h5
  rw [List.nil_append] at h2 h3
  subst h2
  exact ⟨bs, m, by simpa using h3, h4, h1⟩
/-- the arrows -/
theorem mach_2 (ds : List Int) (n k many : Nat) (hm : 0 < many) (j3 j4 : Option D) : ∃ (bs : List Ar) (n' : Nat), bs.length = k ∧ (∀ a ∈ bs, a.1 < many ∧ (a.2.1 = 97 ∨ a.2.1 = 98) ∧ a.2.2.2 < many) ∧
    lcL (fun d e => (bindT (.n 6) d e).bind fun e1 => (evIfs P__law_machine [] e1).bind fun b => if b.1 = true then (evE P__law_machine el__law_machine_2 b.2).map fun y => (some y.1, y.2) else some (none, b.2)) [6] ((List.range k).map eI) (mE ds n (some (eI many)) (some (.list (outs.map eS))) j3 j4 none none) =
      some (bs.map eA, mE ds n' (some (eI many)) (some (.list (outs.map eS))) j3 j4 none none) := by
  obtain ⟨rs, e', h1, bs, m, h2, h3, h4, h5⟩ := lc_pre (f := fun d e => (bindT (.n 6) d e).bind fun e1 => (evIfs P__law_machine [] e1).bind fun b => if b.1 = true then (evE P__law_machine el__law_machine_2 b.2).map fun y => (some y.1, y.2) else some (none, b.2)) (own := [6]) eI
    (fun p acc e => ∃ (bs : List Ar) (m : Nat), acc = bs.map eA ∧ bs.length = p.length ∧ (∀ a ∈ bs, a.1 < many ∧ (a.2.1 = 97 ∨ a.2.1 = 98) ∧ a.2.2.2 < many) ∧ e = mE ds m (some (eI many)) (some (.list (outs.map eS))) j3 j4 none none) (List.range k) [] [] _ ⟨[], n, rfl, rfl, by simp, rfl⟩ (fun p a q acc e he ⟨bs, m, h2, h3, h4, h5⟩ => by
      subst h2 h5
      have hn := e_nextN ds m many hm
      obtain ⟨c, hc, hp1⟩ := e_pickC ds (m + 1) [97, 98] (by decide) (by decide)
      obtain ⟨o, _, hp⟩ := e_pickE eS ds (m + 1 + 1) outs (by decide)
      have hn2 := e_nextN ds (m + 1 + 1 + 1) many hm
      refine ⟨some (eA (nx ds m many, c, o, nx ds (m + 1 + 1 + 1) many)), [some (.par, wD ds (m + 1 + 1 + 1 + 1)), some (.imm, eI many), some (.imm, .list (outs.map eS)), jk j3, jk j4, none, some (.imm, eI a)], ?_, bs ++ [(nx ds m many, c, o, nx ds (m + 1 + 1 + 1) many)], m + 1 + 1 + 1 + 1, by simp, by simp [h3], fun b hb => ?_, rfl⟩
      · unfold mE eA
        have j0 : jk none = none := rfl
        rw [j0]
        generalize outs.map eS = OO at hp ⊢
        simp only [el__law_machine_2, evSs, evS, evE, evEs, evO, evIfs, evF, testE, getO, getP, getV_eq, getX, setC, rd, rdAll, sl_0, sl_s, Option.bind_some, Option.map_some, Option.bind_none, Option.map_none, List.set_cons_zero, List.set_cons_succ, q_add, q_sub, q_mod, q_fdiv, q_mulr, q_adds, q_addl, q_addt, g_add, g_sub, g_adds, b_len_l, b_len_t, b_len_s, b_int_i, b_abs_i, b_tup_l, b_tup_t, k_lt, k_gt, k_le, k_ge, w_at, w_put, w_draws, List.length_map, startE, List.map_cons, List.map_nil, flIn, List.length_cons, List.length_nil, List.replicate, List.append_nil, List.cons_append, List.nil_append, outsC, Nat.zero_add, Nat.reduceAdd, Nat.reduceSub, Nat.sub_self, ↓reduceIte, if_true, if_false, Bool.false_eq_true, Int.reduceLT, Int.reduceNeg, Int.reducePow, Bool.not_true, Bool.not_false, decide_true, decide_false, nn_n, nn_b, nn_i, nn_s, nn_l, nn_t, k_isN, k_notN, argsC, backC, setV_0, setV_s, fr_n, fr_i, fr_o, fr_j, jk_s, bind_n, bind_t, bind_0, bind_s, u_ty, getX, wipeOk, wipeF, unwipe, List.all_cons, List.all_nil, List.foldr_cons, List.foldr_nil, Bool.and_true, Bool.true_and, lendI, itemsD, unlend, outI, q_pow18, P__law_machine, ab_e, hn, hp, hp1, hn2]
      · rcases List.mem_append.mp hb with hb | hb
        · exact h4 b hb
        · rw [List.mem_singleton.mp hb]
          exact ⟨nx_lt ds m hm, by simpa using hc, nx_lt ds _ hm⟩)
  subst h5
  rw [List.nil_append] at h2 h3
  subst h2
  exact ⟨bs, m, by simpa using h3, h4, h1⟩
theorem e_machine (ds : List Int) (n : Nat) : ∃ M n', Ok M ∧ F__law_machine [(.own, wD ds n)] = some ((false, eM M), [wD ds n']) := by
  have hm : 0 < 1 + nx ds n 3 := by omega
  have hm3 : 1 + nx ds n 3 ≤ 3 := by have := nx_lt ds n (m := 3) (by omega); omega
  have hn : F__law_next [(.own, wD ds n), (.imm, .int 3)] = some ((false, eI (nx ds n 3)), [wD ds (n + 1)]) := e_nextN ds n 3 (by omega)
  have hadd : op2 .add (.int 1) (eI (nx ds n 3)) = some (eI (1 + nx ds n 3)) := by rw [q_add]; simp [eI]
  obtain ⟨k1, hk1, hp1⟩ := e_pickE eI ds (n + 1) [1, 1, 2, 0] (by decide)
  have hk1 : k1 ≤ 2 := by simp at hk1; omega
  obtain ⟨bs, n1, b1, b2, b3⟩ := mach_0 ds (n + 1 + 1) k1 (1 + nx ds n 3) hm (some (.list (outs.map eS)))
  have hn2 : F__law_next [(.own, wD ds n1), (.imm, .int 3)] = some ((false, eI (nx ds n1 3)), [wD ds (n1 + 1)]) := e_nextN ds n1 3 (by omega)
  have hk2 : 1 + nx ds n1 3 ≤ 3 := by have := nx_lt ds n1 (m := 3) (by omega); omega
  have hadd2 : op2 .add (.int 1) (eI (nx ds n1 3)) = some (eI (1 + nx ds n1 3)) := by rw [q_add]; simp [eI]
  obtain ⟨es, n2, c1, c2, c3⟩ := mach_1 ds (n1 + 1) (1 + nx ds n1 3) (1 + nx ds n 3) hm (some (.list (bs.map eI)))
  have hn3 : F__law_next [(.own, wD ds n2), (.imm, .int 7)] = some ((false, eI (nx ds n2 7)), [wD ds (n2 + 1)]) := e_nextN ds n2 7 (by omega)
  have hk3 : nx ds n2 7 ≤ 6 := by have := nx_lt ds n2 (m := 7) (by omega); omega
  obtain ⟨as, n3, d1, d2, d3⟩ := mach_2 ds (n2 + 1) (nx ds n2 7) (1 + nx ds n 3) hm (some (.list (bs.map eI))) (some (.list (es.map eEd)))
  have s1 := e_set eI q_I (fun _ => rfl) bs (o_I bs) (by omega)
  have s2 := e_set eEd q_Ed (fun _ => rfl) es (o_Ed es) (by omega)
  have s3 := e_set eA q_A (fun _ => rfl) as (o_A as) (by omega)
  refine ⟨⟨1 + nx ds n 3, ord eI bs, ord eEd es, ord eA as⟩, n3, ⟨hm, hm3, ord_two (by omega), by have := ord_len eI bs; show (ord eI bs).length ≤ 2; omega, fun b hb => b2 b (ord_mem hb), by have := ord_len eEd es; show (ord eEd es).length ≤ 3; omega, fun e he => c2 e (ord_mem he),
    by have := ord_len eA as; show (ord eA as).length ≤ 6; omega, fun a ha => d2 a (ord_mem ha)⟩, ?_⟩
  have r1 := rng_e (n := k1) (by omega)
  have r2 := rng_e (n := 1 + nx ds n1 3) (by omega)
  have r3 := rng_e (n := nx ds n2 7) (by omega)
  have z1 := sz_e (enc := eI) (xs := List.range k1) (by simp; omega)
  have z2 := sz_e (enc := eI) (xs := List.range (1 + nx ds n1 3)) (by simp; omega)
  have z3 := sz_e (enc := eI) (xs := List.range (nx ds n2 7)) (by simp; omega)
  have p1 : ([PyData.int 1, PyData.int 1, PyData.int 2, PyData.int 0] : List D) = ([1, 1, 2, 0] : List Nat).map eI := rfl
  unfold eM
  unfold mE at b3 c3 d3
  generalize (ord eI bs).map eI = O1 at s1 ⊢
  generalize (ord eEd es).map eEd = O2 at s2 ⊢
  generalize (ord eA as).map eA = O3 at s3 ⊢
  generalize bs.map eI = B1 at *
  generalize es.map eEd = B2 at *
  generalize as.map eA = B3 at *
  generalize (List.range k1).map eI = L1 at *
  generalize (List.range (1 + nx ds n1 3)).map eI = L2 at *
  generalize (List.range (nx ds n2 7)).map eI = L3 at *
  generalize hO : outs.map eS = OO at *
  generalize hP : ([1, 1, 2, 0] : List Nat).map eI = PP at *
  have oe := outs_e
  rw [hO] at oe
  have j0 : jk none = none := rfl
  rw [j0] at b3 c3 d3
  try simp only [evSs, evS, evE, evEs, evO, evIfs, evF, testE, getO, getP, getV_eq, getX, setC, rd, rdAll, sl_0, sl_s, Option.bind_some, Option.map_some, Option.bind_none, Option.map_none, List.set_cons_zero, List.set_cons_succ, q_add, q_sub, q_mod, q_fdiv, q_mulr, q_adds, q_addl, q_addt, g_add, g_sub, g_adds, b_len_l, b_len_t, b_len_s, b_int_i, b_abs_i, b_tup_l, b_tup_t, k_lt, k_gt, k_le, k_ge, w_at, w_put, w_draws, List.length_map, startE, List.map_cons, List.map_nil, flIn, List.length_cons, List.length_nil, List.replicate, List.append_nil, List.cons_append, List.nil_append, outsC, Nat.zero_add, Nat.reduceAdd, Nat.reduceSub, Nat.sub_self, ↓reduceIte, if_true, if_false, Bool.false_eq_true, Int.reduceLT, Int.reduceNeg, Int.reducePow, Bool.not_true, Bool.not_false, decide_true, decide_false, nn_n, nn_b, nn_i, nn_s, nn_l, nn_t, k_isN, k_notN, argsC, backC, setV_0, setV_s, fr_n, fr_i, fr_o, fr_j, jk_s, bind_n, bind_t, bind_0, bind_s, u_ty, getX, wipeOk, wipeF, unwipe, List.all_cons, List.all_nil, List.foldr_cons, List.foldr_nil, Bool.and_true, Bool.true_and, lendI, itemsD, unlend, outI, q_pow18] at b3
  try simp only [evSs, evS, evE, evEs, evO, evIfs, evF, testE, getO, getP, getV_eq, getX, setC, rd, rdAll, sl_0, sl_s, Option.bind_some, Option.map_some, Option.bind_none, Option.map_none, List.set_cons_zero, List.set_cons_succ, q_add, q_sub, q_mod, q_fdiv, q_mulr, q_adds, q_addl, q_addt, g_add, g_sub, g_adds, b_len_l, b_len_t, b_len_s, b_int_i, b_abs_i, b_tup_l, b_tup_t, k_lt, k_gt, k_le, k_ge, w_at, w_put, w_draws, List.length_map, startE, List.map_cons, List.map_nil, flIn, List.length_cons, List.length_nil, List.replicate, List.append_nil, List.cons_append, List.nil_append, outsC, Nat.zero_add, Nat.reduceAdd, Nat.reduceSub, Nat.sub_self, ↓reduceIte, if_true, if_false, Bool.false_eq_true, Int.reduceLT, Int.reduceNeg, Int.reducePow, Bool.not_true, Bool.not_false, decide_true, decide_false, nn_n, nn_b, nn_i, nn_s, nn_l, nn_t, k_isN, k_notN, argsC, backC, setV_0, setV_s, fr_n, fr_i, fr_o, fr_j, jk_s, bind_n, bind_t, bind_0, bind_s, u_ty, getX, wipeOk, wipeF, unwipe, List.all_cons, List.all_nil, List.foldr_cons, List.foldr_nil, Bool.and_true, Bool.true_and, lendI, itemsD, unlend, outI, q_pow18] at c3
  try simp only [evSs, evS, evE, evEs, evO, evIfs, evF, testE, getO, getP, getV_eq, getX, setC, rd, rdAll, sl_0, sl_s, Option.bind_some, Option.map_some, Option.bind_none, Option.map_none, List.set_cons_zero, List.set_cons_succ, q_add, q_sub, q_mod, q_fdiv, q_mulr, q_adds, q_addl, q_addt, g_add, g_sub, g_adds, b_len_l, b_len_t, b_len_s, b_int_i, b_abs_i, b_tup_l, b_tup_t, k_lt, k_gt, k_le, k_ge, w_at, w_put, w_draws, List.length_map, startE, List.map_cons, List.map_nil, flIn, List.length_cons, List.length_nil, List.replicate, List.append_nil, List.cons_append, List.nil_append, outsC, Nat.zero_add, Nat.reduceAdd, Nat.reduceSub, Nat.sub_self, ↓reduceIte, if_true, if_false, Bool.false_eq_true, Int.reduceLT, Int.reduceNeg, Int.reducePow, Bool.not_true, Bool.not_false, decide_true, decide_false, nn_n, nn_b, nn_i, nn_s, nn_l, nn_t, k_isN, k_notN, argsC, backC, setV_0, setV_s, fr_n, fr_i, fr_o, fr_j, jk_s, bind_n, bind_t, bind_0, bind_s, u_ty, getX, wipeOk, wipeF, unwipe, List.all_cons, List.all_nil, List.foldr_cons, List.foldr_nil, Bool.and_true, Bool.true_and, lendI, itemsD, unlend, outI, q_pow18] at d3
  unfold F__law_machine evFn
  simp only [ir__law_machine, evSs, evS, evE, evEs, evO, evIfs, evF, testE, getO, getP, getV_eq, getX, setC, rd, rdAll, sl_0, sl_s, Option.bind_some, Option.map_some, Option.bind_none, Option.map_none, List.set_cons_zero, List.set_cons_succ, q_add, q_sub, q_mod, q_fdiv, q_mulr, q_adds, q_addl, q_addt, g_add, g_sub, g_adds, b_len_l, b_len_t, b_len_s, b_int_i, b_abs_i, b_tup_l, b_tup_t, k_lt, k_gt, k_le, k_ge, w_at, w_put, w_draws, List.length_map, startE, List.map_cons, List.map_nil, flIn, List.length_cons, List.length_nil, List.replicate, List.append_nil, List.cons_append, List.nil_append, outsC, Nat.zero_add, Nat.reduceAdd, Nat.reduceSub, Nat.sub_self, ↓reduceIte, if_true, if_false, Bool.false_eq_true, Int.reduceLT, Int.reduceNeg, Int.reducePow, Bool.not_true, Bool.not_false, decide_true, decide_false, nn_n, nn_b, nn_i, nn_s, nn_l, nn_t, k_isN, k_notN, argsC, backC, setV_0, setV_s, fr_n, fr_i, fr_o, fr_j, jk_s, bind_n, bind_t, bind_0, bind_s, u_ty, getX, wipeOk, wipeF, unwipe, List.all_cons, List.all_nil, List.foldr_cons, List.foldr_nil, Bool.and_true, Bool.true_and, lendI, itemsD, unlend, outI, q_pow18, P__law_machine, hn, hadd, p1, oe, hp1, r1, z1, b3, hn2, hadd2, r2, z2, c3, hn3, r3, z3, d3, s1, s2, s3]
end Lp
namespace Lp
open PySem PySem.Spec L2 Dv Lw
/-! ### runs, as the law has them -/
def sel (M : Mc) (c s : Nat) : List Nat := M.arr.filterMap fun a => if (a.1 == s && a.2.1 == c) = true then some a.2.2.2 else none
def nxW (M : Mc) (c : Nat) (ws : List Nat) : List Nat := ws.flatMap (sel M c)
def waysOf (M : Mc) (l : List Nat) : List Nat := l.foldl (fun ws c => nxW M c ws) M.beg
def runs (M : Mc) (l : List Nat) : Nat := ((waysOf M l).map fun s => (M.ends.filter fun e => e.1 == s).length).sum
theorem sel_len {M : Mc} (w : Ok M) (c s : Nat) : (sel M c s).length ≤ 6 := Nat.le_trans (List.length_filterMap_le _ _) w.al
theorem nxW_len {M : Mc} (w : Ok M) (c : Nat) : ∀ ws : List Nat, (nxW M c ws).length ≤ 6 * ws.length
  | [] => Nat.zero_le _
  | s :: ws => by
    have := nxW_len w c ws
    have := sel_len w c s
    unfold nxW at *
    rw [List.flatMap_cons, List.length_append, List.length_cons]
    omega
theorem ways_snoc (M : Mc) (l : List Nat) (c : Nat) : waysOf M (l ++ [c]) = nxW M c (waysOf M l) := by
  unfold waysOf
  rw [List.foldl_append]
  rfl
theorem ways_len {M : Mc} (w : Ok M) (l : List Nat) : ∀ n, l.length = n → (waysOf M l).length ≤ 2 * 6 ^ n := by
  intro n
  induction n generalizing l with
  | zero =>
    intro h
    rw [List.eq_nil_of_length_eq_zero h]
    have := w.bl
    show M.beg.length ≤ _
    omega
  | succ n ih =>
    intro h
    rcases List.eq_nil_or_concat l with rfl | ⟨r, c, rfl⟩
    · simp at h
    · rw [List.concat_eq_append] at h ⊢
      rw [ways_snoc]
      have h1 := ih r (by simpa using h)
      have h2 := nxW_len w c (waysOf M r)
      rw [Nat.pow_succ]
      omega
theorem ways_few {M : Mc} (w : Ok M) (l : List Nat) (hl : l.length ≤ 5) : (waysOf M l).length ≤ 15552 := by
  have h := ways_len w l _ rfl
  have : 6 ^ l.length ≤ 6 ^ 5 := Nat.pow_le_pow_right (by decide) hl
  omega
def rE (M : Mc) (l : List Nat) (w c lg st : Option D) : En := [some (.imm, eM M), some (.imm, eS l), jk w, jk c, jk lg, jk st, none, none, none, none, none]
theorem M_i {M : Mc} : idxD (eM M) (.int 0) = some (eI M.many) ∧ idxD (eM M) (.int 1) = some (.tuple (M.beg.map eI)) ∧ idxD (eM M) (.int 2) = some (.tuple (M.ends.map eEd)) ∧ idxD (eM M) (.int 3) = some (.tuple (M.arr.map eA)) := ⟨t_0, t_1, t_2, t_3⟩
theorem sz_t {α : Type} {enc : α → D} {xs : List α} (h : xs.length ≤ 1000) : szOk (xs.map enc).length = true := sz_e (by omega)
theorem runs_1 {M : Mc} (w : Ok M) (l : List Nat) (wd : Option D) (c s : Nat) (acc : List Nat) (ha : acc.length + 6 ≤ 16777216) (j : Option D) :
    ((bindT (.n 5) (eI s) (rE M l wd (some (eC c)) (some (.list (acc.map eI))) j)).bind fun e1 => evSs P__law_runs bd__law_runs_1 e1) = some (.nx (rE M l wd (some (eC c)) (some (.list ((acc ++ sel M c s).map eI))) (some (eI s)))) := by
  have hlc := lc_mapT eA (f := fun d e => (bindT (.t [.n 6, .n 7, .n 8, .n 9]) d e).bind fun e1 => (evIfs P__law_runs cd__law_runs_0 e1).bind fun b => if b.1 = true then (evE P__law_runs (.v 9) b.2).map fun y => (some y.1, y.2) else some (none, b.2)) (own := [6, 7, 8, 9])
    (e := rE M l wd (some (eC c)) (some (.list (acc.map eI))) (some (eI s))) (fun a => if (a.1 == s && a.2.1 == c) = true then some (eI a.2.2.2) else none) M.arr (fun a _ => by
      refine ⟨[some (.imm, eM M), some (.imm, eS l), jk wd, some (.imm, eC c), some (.imm, .list (acc.map eI)), some (.imm, eI s), some (.imm, eI a.1), some (.imm, eC a.2.1), some (.imm, eS a.2.2.1), some (.imm, eI a.2.2.2)] ++ [none], ?_, rfl⟩
      have h1 : cmp2 .eq (eI a.1) (eI s) = some (a.1 == s) := by rw [eq_ii, beq_nn]
      have h2 : cmp2 .eq (eC a.2.1) (eC c) = some (a.2.1 == c) := by rw [eq_ss, C_beq]
      unfold rE eA
      generalize eC c = C at h2 ⊢
      generalize eC a.2.1 = C2 at h2 ⊢
      by_cases e1 : (a.1 == s) = true
      · by_cases e2 : (a.2.1 == c) = true
        · rw [e1] at h1; rw [e2] at h2
          simp only [cd__law_runs_0, evSs, evS, evE, evEs, evO, evIfs, evF, testE, getO, getP, getV_eq, getX, setC, rd, rdAll, sl_0, sl_s, Option.bind_some, Option.map_some, Option.bind_none, Option.map_none, List.set_cons_zero, List.set_cons_succ, q_add, q_sub, q_mod, q_fdiv, q_mulr, q_adds, q_addl, q_addt, g_add, g_sub, g_adds, b_len_l, b_len_t, b_len_s, b_int_i, b_abs_i, b_tup_l, b_tup_t, k_lt, k_gt, k_le, k_ge, w_at, w_put, w_draws, List.length_map, startE, List.map_cons, List.map_nil, flIn, List.length_cons, List.length_nil, List.replicate, List.append_nil, List.cons_append, List.nil_append, outsC, Nat.zero_add, Nat.reduceAdd, Nat.reduceSub, Nat.sub_self, ↓reduceIte, if_true, if_false, Bool.false_eq_true, Int.reduceLT, Int.reduceNeg, Int.reducePow, Bool.not_true, Bool.not_false, decide_true, decide_false, nn_n, nn_b, nn_i, nn_s, nn_l, nn_t, k_isN, k_notN, argsC, backC, setV_0, setV_s, fr_n, fr_i, fr_o, fr_j, jk_s, bind_n, bind_t, bind_0, bind_s, u_ty, getX, wipeOk, wipeF, unwipe, List.all_cons, List.all_nil, List.foldr_cons, List.foldr_nil, Bool.and_true, Bool.true_and, lendI, itemsD, unlend, outI, q_pow18, h1, h2, e1, e2]
        · have e2 : (a.2.1 == c) = false := by simpa using e2
          rw [e1] at h1; rw [e2] at h2
          simp only [cd__law_runs_0, evSs, evS, evE, evEs, evO, evIfs, evF, testE, getO, getP, getV_eq, getX, setC, rd, rdAll, sl_0, sl_s, Option.bind_some, Option.map_some, Option.bind_none, Option.map_none, List.set_cons_zero, List.set_cons_succ, q_add, q_sub, q_mod, q_fdiv, q_mulr, q_adds, q_addl, q_addt, g_add, g_sub, g_adds, b_len_l, b_len_t, b_len_s, b_int_i, b_abs_i, b_tup_l, b_tup_t, k_lt, k_gt, k_le, k_ge, w_at, w_put, w_draws, List.length_map, startE, List.map_cons, List.map_nil, flIn, List.length_cons, List.length_nil, List.replicate, List.append_nil, List.cons_append, List.nil_append, outsC, Nat.zero_add, Nat.reduceAdd, Nat.reduceSub, Nat.sub_self, ↓reduceIte, if_true, if_false, Bool.false_eq_true, Int.reduceLT, Int.reduceNeg, Int.reducePow, Bool.not_true, Bool.not_false, decide_true, decide_false, nn_n, nn_b, nn_i, nn_s, nn_l, nn_t, k_isN, k_notN, argsC, backC, setV_0, setV_s, fr_n, fr_i, fr_o, fr_j, jk_s, bind_n, bind_t, bind_0, bind_s, u_ty, getX, wipeOk, wipeF, unwipe, List.all_cons, List.all_nil, List.foldr_cons, List.foldr_nil, Bool.and_true, Bool.true_and, lendI, itemsD, unlend, outI, q_pow18, h1, h2, e1, e2, Bool.and_false]
      · have e1 : (a.1 == s) = false := by simpa using e1
        rw [e1] at h1
        simp only [cd__law_runs_0, evSs, evS, evE, evEs, evO, evIfs, evF, testE, getO, getP, getV_eq, getX, setC, rd, rdAll, sl_0, sl_s, Option.bind_some, Option.map_some, Option.bind_none, Option.map_none, List.set_cons_zero, List.set_cons_succ, q_add, q_sub, q_mod, q_fdiv, q_mulr, q_adds, q_addl, q_addt, g_add, g_sub, g_adds, b_len_l, b_len_t, b_len_s, b_int_i, b_abs_i, b_tup_l, b_tup_t, k_lt, k_gt, k_le, k_ge, w_at, w_put, w_draws, List.length_map, startE, List.map_cons, List.map_nil, flIn, List.length_cons, List.length_nil, List.replicate, List.append_nil, List.cons_append, List.nil_append, outsC, Nat.zero_add, Nat.reduceAdd, Nat.reduceSub, Nat.sub_self, ↓reduceIte, if_true, if_false, Bool.false_eq_true, Int.reduceLT, Int.reduceNeg, Int.reducePow, Bool.not_true, Bool.not_false, decide_true, decide_false, nn_n, nn_b, nn_i, nn_s, nn_l, nn_t, k_isN, k_notN, argsC, backC, setV_0, setV_s, fr_n, fr_i, fr_o, fr_j, jk_s, bind_n, bind_t, bind_0, bind_s, u_ty, getX, wipeOk, wipeF, unwipe, List.all_cons, List.all_nil, List.foldr_cons, List.foldr_nil, Bool.and_true, Bool.true_and, lendI, itemsD, unlend, outI, q_pow18, h1, e1, Bool.false_and])
  have hfm : (M.arr.filterMap fun a => if (a.1 == s && a.2.1 == c) = true then some (eI a.2.2.2) else none) = (sel M c s).map eI := by
    unfold sel
    rw [List.map_filterMap]
    congr 1
    funext a
    split <;> rfl
  rw [hfm] at hlc
  have i3 := M_i (M := M).2.2.2
  have hz := sz_t (enc := eA) (xs := M.arr) (by have := w.al; omega)
  have hadd : op2 .add (.list (acc.map eI)) (.list ((sel M c s).map eI)) = some (.list ((acc ++ sel M c s).map eI)) := by
    rw [q_addl (by have := sel_len w c s; simp; omega), List.map_append]
  unfold rE at hlc ⊢
  generalize (sel M c s).map eI = SS at hlc hadd
  generalize (acc ++ sel M c s).map eI = RR at hadd ⊢
  generalize acc.map eI = AA at hlc hadd ⊢
  generalize M.arr.map eA = MA at i3 hlc hz
  generalize eM M = MM at *
  generalize eC c = C at hlc ⊢
  try simp only [evSs, evS, evE, evEs, evO, evIfs, evF, testE, getO, getP, getV_eq, getX, setC, rd, rdAll, sl_0, sl_s, Option.bind_some, Option.map_some, Option.bind_none, Option.map_none, List.set_cons_zero, List.set_cons_succ, q_add, q_sub, q_mod, q_fdiv, q_mulr, q_adds, q_addl, q_addt, g_add, g_sub, g_adds, b_len_l, b_len_t, b_len_s, b_int_i, b_abs_i, b_tup_l, b_tup_t, k_lt, k_gt, k_le, k_ge, w_at, w_put, w_draws, List.length_map, startE, List.map_cons, List.map_nil, flIn, List.length_cons, List.length_nil, List.replicate, List.append_nil, List.cons_append, List.nil_append, outsC, Nat.zero_add, Nat.reduceAdd, Nat.reduceSub, Nat.sub_self, ↓reduceIte, if_true, if_false, Bool.false_eq_true, Int.reduceLT, Int.reduceNeg, Int.reducePow, Bool.not_true, Bool.not_false, decide_true, decide_false, nn_n, nn_b, nn_i, nn_s, nn_l, nn_t, k_isN, k_notN, argsC, backC, setV_0, setV_s, fr_n, fr_i, fr_o, fr_j, jk_s, bind_n, bind_t, bind_0, bind_s, u_ty, getX, wipeOk, wipeF, unwipe, List.all_cons, List.all_nil, List.foldr_cons, List.foldr_nil, Bool.and_true, Bool.true_and, lendI, itemsD, unlend, outI, q_pow18] at hlc
  simp only [bd__law_runs_1, evSs, evS, evE, evEs, evO, evIfs, evF, testE, getO, getP, getV_eq, getX, setC, rd, rdAll, sl_0, sl_s, Option.bind_some, Option.map_some, Option.bind_none, Option.map_none, List.set_cons_zero, List.set_cons_succ, q_add, q_sub, q_mod, q_fdiv, q_mulr, q_adds, q_addl, q_addt, g_add, g_sub, g_adds, b_len_l, b_len_t, b_len_s, b_int_i, b_abs_i, b_tup_l, b_tup_t, k_lt, k_gt, k_le, k_ge, w_at, w_put, w_draws, List.length_map, startE, List.map_cons, List.map_nil, flIn, List.length_cons, List.length_nil, List.replicate, List.append_nil, List.cons_append, List.nil_append, outsC, Nat.zero_add, Nat.reduceAdd, Nat.reduceSub, Nat.sub_self, ↓reduceIte, if_true, if_false, Bool.false_eq_true, Int.reduceLT, Int.reduceNeg, Int.reducePow, Bool.not_true, Bool.not_false, decide_true, decide_false, nn_n, nn_b, nn_i, nn_s, nn_l, nn_t, k_isN, k_notN, argsC, backC, setV_0, setV_s, fr_n, fr_i, fr_o, fr_j, jk_s, bind_n, bind_t, bind_0, bind_s, u_ty, getX, wipeOk, wipeF, unwipe, List.all_cons, List.all_nil, List.foldr_cons, List.foldr_nil, Bool.and_true, Bool.true_and, lendI, itemsD, unlend, outI, q_pow18, i3, hz, hlc, hadd]
theorem runs_2 {M : Mc} (w : Ok M) (l : List Nat) (ws : List Nat) (hw : ws.length ≤ 20000) (c : Nat) (j3 j4 j5 : Option D) :
    ∃ k5, ((bindT (.n 3) (eC c) (rE M l (some (.list (ws.map eI))) j3 j4 j5)).bind fun e1 => evSs P__law_runs bd__law_runs_2 e1) = some (.nx (rE M l (some (.list ((nxW M c ws).map eI))) (some (eC c)) (some (.list ((nxW M c ws).map eI))) k5)) := by
  obtain ⟨e', h1, k, h2⟩ := for_pre (f := fun d e => (bindT (.n 5) d e).bind fun e1 => evSs P__law_runs bd__law_runs_1 e1) eI (fun p e => ∃ k, e = rE M l (some (.list (ws.map eI))) (some (eC c)) (some (.list ((nxW M c p).map eI))) k) ws [] (rE M l (some (.list (ws.map eI))) (some (eC c)) (some (.list [])) j5)
    ⟨j5, rfl⟩ (fun p a q e he ⟨k, hk⟩ => by
      subst hk
      have hp : p.length ≤ ws.length := by rw [← List.nil_append ws, he]; simp
      have := nxW_len w c p
      refine ⟨_, runs_1 w l _ c a (nxW M c p) (by omega) k, some (eI a), ?_⟩
      rw [show nxW M c (p ++ [a]) = nxW M c p ++ sel M c a by unfold nxW; simp])
  subst h2
  rw [List.nil_append] at h1
  refine ⟨k, ?_⟩
  unfold rE at h1 ⊢
  generalize (nxW M c ws).map eI = NN at h1 ⊢
  generalize ws.map eI = WW at h1 ⊢
  generalize eM M = MM at *
  generalize eC c = C at h1 ⊢
  try simp only [evSs, evS, evE, evEs, evO, evIfs, evF, testE, getO, getP, getV_eq, getX, setC, rd, rdAll, sl_0, sl_s, Option.bind_some, Option.map_some, Option.bind_none, Option.map_none, List.set_cons_zero, List.set_cons_succ, q_add, q_sub, q_mod, q_fdiv, q_mulr, q_adds, q_addl, q_addt, g_add, g_sub, g_adds, b_len_l, b_len_t, b_len_s, b_int_i, b_abs_i, b_tup_l, b_tup_t, k_lt, k_gt, k_le, k_ge, w_at, w_put, w_draws, List.length_map, startE, List.map_cons, List.map_nil, flIn, List.length_cons, List.length_nil, List.replicate, List.append_nil, List.cons_append, List.nil_append, outsC, Nat.zero_add, Nat.reduceAdd, Nat.reduceSub, Nat.sub_self, ↓reduceIte, if_true, if_false, Bool.false_eq_true, Int.reduceLT, Int.reduceNeg, Int.reducePow, Bool.not_true, Bool.not_false, decide_true, decide_false, nn_n, nn_b, nn_i, nn_s, nn_l, nn_t, k_isN, k_notN, argsC, backC, setV_0, setV_s, fr_n, fr_i, fr_o, fr_j, jk_s, bind_n, bind_t, bind_0, bind_s, u_ty, getX, wipeOk, wipeF, unwipe, List.all_cons, List.all_nil, List.foldr_cons, List.foldr_nil, Bool.and_true, Bool.true_and, lendI, itemsD, unlend, outI, q_pow18] at h1
  simp only [bd__law_runs_2, evSs, evS, evE, evEs, evO, evIfs, evF, testE, getO, getP, getV_eq, getX, setC, rd, rdAll, sl_0, sl_s, Option.bind_some, Option.map_some, Option.bind_none, Option.map_none, List.set_cons_zero, List.set_cons_succ, q_add, q_sub, q_mod, q_fdiv, q_mulr, q_adds, q_addl, q_addt, g_add, g_sub, g_adds, b_len_l, b_len_t, b_len_s, b_int_i, b_abs_i, b_tup_l, b_tup_t, k_lt, k_gt, k_le, k_ge, w_at, w_put, w_draws, List.length_map, startE, List.map_cons, List.map_nil, flIn, List.length_cons, List.length_nil, List.replicate, List.append_nil, List.cons_append, List.nil_append, outsC, Nat.zero_add, Nat.reduceAdd, Nat.reduceSub, Nat.sub_self, ↓reduceIte, if_true, if_false, Bool.false_eq_true, Int.reduceLT, Int.reduceNeg, Int.reducePow, Bool.not_true, Bool.not_false, decide_true, decide_false, nn_n, nn_b, nn_i, nn_s, nn_l, nn_t, k_isN, k_notN, argsC, backC, setV_0, setV_s, fr_n, fr_i, fr_o, fr_j, jk_s, bind_n, bind_t, bind_0, bind_s, u_ty, getX, wipeOk, wipeF, unwipe, List.all_cons, List.all_nil, List.foldr_cons, List.foldr_nil, Bool.and_true, Bool.true_and, lendI, itemsD, unlend, outI, q_pow18, h1]
theorem e_runs {M : Mc} (w : Ok M) (l : List Nat) (hl : l.length ≤ 5) : F__law_runs [(.imm, eM M), (.imm, eS l)] = some ((false, eI (runs M l)), []) := by
  obtain ⟨e', h1, k3, k4, k5, h2⟩ := for_pre (f := fun d e => (bindT (.n 3) d e).bind fun e1 => evSs P__law_runs bd__law_runs_2 e1) eC (fun p e => ∃ k3 k4 k5, e = rE M l (some (.list ((waysOf M p).map eI))) k3 k4 k5) l [] (rE M l (some (.list (M.beg.map eI))) none none none)
    ⟨none, none, none, rfl⟩ (fun p a q e he ⟨k3, k4, k5, hk⟩ => by
      subst hk
      have hp : p.length ≤ l.length := by rw [← List.nil_append l, he]; simp
      obtain ⟨k, h⟩ := runs_2 w l (waysOf M p) (by have := ways_few w p (by omega); omega) a k3 k4 k5
      exact ⟨_, h, _, _, k, by rw [ways_snoc]⟩)
  subst h2
  rw [List.nil_append] at h1
  have hlc := lc_mapT eI (f := fun d e => (bindT (.n 5) d e).bind fun e1 => (evIfs P__law_runs [] e1).bind fun b => if b.1 = true then (evE P__law_runs el__law_runs_4 b.2).map fun y => (some y.1, y.2) else some (none, b.2)) (own := [5])
    (e := rE M l (some (.list ((waysOf M l).map eI))) k3 k4 none) (fun s => some (eI (M.ends.filter fun e => e.1 == s).length)) (waysOf M l) (fun s _ => by
      have hin := lc_mapT eEd (f := fun d e => (bindT (.n 10) d e).bind fun e1 => (evIfs P__law_runs cd__law_runs_3 e1).bind fun b => if b.1 = true then (evE P__law_runs (.v 10) b.2).map fun y => (some y.1, y.2) else some (none, b.2)) (own := [10])
        (e := rE M l (some (.list ((waysOf M l).map eI))) k3 k4 (some (eI s))) (fun e => if (e.1 == s) = true then some (eEd e) else none) M.ends (fun en _ => by
          refine ⟨[some (.imm, eM M), some (.imm, eS l), some (.imm, .list ((waysOf M l).map eI)), jk k3, jk k4, some (.imm, eI s), none, none, none, none, some (.imm, eEd en)], ?_, rfl⟩
          have h1 : cmp2 .eq (eI en.1) (eI s) = some (en.1 == s) := by rw [eq_ii, beq_nn]
          have i0 : idxD (eEd en) (.int 0) = some (eI en.1) := t_0
          unfold rE
          generalize eEd en = EE at i0 ⊢
          by_cases e1 : (en.1 == s) = true
          · rw [e1] at h1
            simp only [cd__law_runs_3, evSs, evS, evE, evEs, evO, evIfs, evF, testE, getO, getP, getV_eq, getX, setC, rd, rdAll, sl_0, sl_s, Option.bind_some, Option.map_some, Option.bind_none, Option.map_none, List.set_cons_zero, List.set_cons_succ, q_add, q_sub, q_mod, q_fdiv, q_mulr, q_adds, q_addl, q_addt, g_add, g_sub, g_adds, b_len_l, b_len_t, b_len_s, b_int_i, b_abs_i, b_tup_l, b_tup_t, k_lt, k_gt, k_le, k_ge, w_at, w_put, w_draws, List.length_map, startE, List.map_cons, List.map_nil, flIn, List.length_cons, List.length_nil, List.replicate, List.append_nil, List.cons_append, List.nil_append, outsC, Nat.zero_add, Nat.reduceAdd, Nat.reduceSub, Nat.sub_self, ↓reduceIte, if_true, if_false, Bool.false_eq_true, Int.reduceLT, Int.reduceNeg, Int.reducePow, Bool.not_true, Bool.not_false, decide_true, decide_false, nn_n, nn_b, nn_i, nn_s, nn_l, nn_t, k_isN, k_notN, argsC, backC, setV_0, setV_s, fr_n, fr_i, fr_o, fr_j, jk_s, bind_n, bind_t, bind_0, bind_s, u_ty, getX, wipeOk, wipeF, unwipe, List.all_cons, List.all_nil, List.foldr_cons, List.foldr_nil, Bool.and_true, Bool.true_and, lendI, itemsD, unlend, outI, q_pow18, i0, h1, e1]
          · have e1 : (en.1 == s) = false := by simpa using e1
            rw [e1] at h1
            simp only [cd__law_runs_3, evSs, evS, evE, evEs, evO, evIfs, evF, testE, getO, getP, getV_eq, getX, setC, rd, rdAll, sl_0, sl_s, Option.bind_some, Option.map_some, Option.bind_none, Option.map_none, List.set_cons_zero, List.set_cons_succ, q_add, q_sub, q_mod, q_fdiv, q_mulr, q_adds, q_addl, q_addt, g_add, g_sub, g_adds, b_len_l, b_len_t, b_len_s, b_int_i, b_abs_i, b_tup_l, b_tup_t, k_lt, k_gt, k_le, k_ge, w_at, w_put, w_draws, List.length_map, startE, List.map_cons, List.map_nil, flIn, List.length_cons, List.length_nil, List.replicate, List.append_nil, List.cons_append, List.nil_append, outsC, Nat.zero_add, Nat.reduceAdd, Nat.reduceSub, Nat.sub_self, ↓reduceIte, if_true, if_false, Bool.false_eq_true, Int.reduceLT, Int.reduceNeg, Int.reducePow, Bool.not_true, Bool.not_false, decide_true, decide_false, nn_n, nn_b, nn_i, nn_s, nn_l, nn_t, k_isN, k_notN, argsC, backC, setV_0, setV_s, fr_n, fr_i, fr_o, fr_j, jk_s, bind_n, bind_t, bind_0, bind_s, u_ty, getX, wipeOk, wipeF, unwipe, List.all_cons, List.all_nil, List.foldr_cons, List.foldr_nil, Bool.and_true, Bool.true_and, lendI, itemsD, unlend, outI, q_pow18, i0, h1, e1])
      have hfm : (M.ends.filterMap fun e => if (e.1 == s) = true then some (eEd e) else none) = (M.ends.filter fun e => e.1 == s).map eEd := by
        rw [← List.filterMap_eq_filter, List.map_filterMap]
        congr 1
        funext a
        by_cases e : (a.1 == s) = true <;> simp [Option.guard, e]
      rw [hfm] at hin
      have i2 := M_i (M := M).2.2.1
      have hz := sz_t (enc := eEd) (xs := M.ends) (by have := w.el; omega)
      have hlen : ((M.ends.filter fun e => e.1 == s).map eEd).length = (M.ends.filter fun e => e.1 == s).length := List.length_map _
      refine ⟨[some (.imm, eM M), some (.imm, eS l), some (.imm, .list ((waysOf M l).map eI)), jk k3, jk k4, some (.imm, eI s), none, none, none, none, none], ?_, rfl⟩
      unfold rE at hin ⊢
      generalize (M.ends.filter fun e => e.1 == s).map eEd = FF at hin hlen
      generalize M.ends.map eEd = ME at i2 hin hz
      generalize (waysOf M l).map eI = WW at hin ⊢
      generalize eM M = MM at *
      have j0 : jk none = none := rfl
      try simp only [evSs, evS, evE, evEs, evO, evIfs, evF, testE, getO, getP, getV_eq, getX, setC, rd, rdAll, sl_0, sl_s, Option.bind_some, Option.map_some, Option.bind_none, Option.map_none, List.set_cons_zero, List.set_cons_succ, q_add, q_sub, q_mod, q_fdiv, q_mulr, q_adds, q_addl, q_addt, g_add, g_sub, g_adds, b_len_l, b_len_t, b_len_s, b_int_i, b_abs_i, b_tup_l, b_tup_t, k_lt, k_gt, k_le, k_ge, w_at, w_put, w_draws, List.length_map, startE, List.map_cons, List.map_nil, flIn, List.length_cons, List.length_nil, List.replicate, List.append_nil, List.cons_append, List.nil_append, outsC, Nat.zero_add, Nat.reduceAdd, Nat.reduceSub, Nat.sub_self, ↓reduceIte, if_true, if_false, Bool.false_eq_true, Int.reduceLT, Int.reduceNeg, Int.reducePow, Bool.not_true, Bool.not_false, decide_true, decide_false, nn_n, nn_b, nn_i, nn_s, nn_l, nn_t, k_isN, k_notN, argsC, backC, setV_0, setV_s, fr_n, fr_i, fr_o, fr_j, jk_s, bind_n, bind_t, bind_0, bind_s, u_ty, getX, wipeOk, wipeF, unwipe, List.all_cons, List.all_nil, List.foldr_cons, List.foldr_nil, Bool.and_true, Bool.true_and, lendI, itemsD, unlend, outI, q_pow18] at hin
      simp only [j0, el__law_runs_4, evSs, evS, evE, evEs, evO, evIfs, evF, testE, getO, getP, getV_eq, getX, setC, rd, rdAll, sl_0, sl_s, Option.bind_some, Option.map_some, Option.bind_none, Option.map_none, List.set_cons_zero, List.set_cons_succ, q_add, q_sub, q_mod, q_fdiv, q_mulr, q_adds, q_addl, q_addt, g_add, g_sub, g_adds, b_len_l, b_len_t, b_len_s, b_int_i, b_abs_i, b_tup_l, b_tup_t, k_lt, k_gt, k_le, k_ge, w_at, w_put, w_draws, List.length_map, startE, List.map_cons, List.map_nil, flIn, List.length_cons, List.length_nil, List.replicate, List.append_nil, List.cons_append, List.nil_append, outsC, Nat.zero_add, Nat.reduceAdd, Nat.reduceSub, Nat.sub_self, ↓reduceIte, if_true, if_false, Bool.false_eq_true, Int.reduceLT, Int.reduceNeg, Int.reducePow, Bool.not_true, Bool.not_false, decide_true, decide_false, nn_n, nn_b, nn_i, nn_s, nn_l, nn_t, k_isN, k_notN, argsC, backC, setV_0, setV_s, fr_n, fr_i, fr_o, fr_j, jk_s, bind_n, bind_t, bind_0, bind_s, u_ty, getX, wipeOk, wipeF, unwipe, List.all_cons, List.all_nil, List.foldr_cons, List.foldr_nil, Bool.and_true, Bool.true_and, lendI, itemsD, unlend, outI, q_pow18, i2, hz, hin, hlen])
  have hfm : (waysOf M l).filterMap (fun s => some (eI (M.ends.filter fun e => e.1 == s).length)) = ((waysOf M l).map fun s => (M.ends.filter fun e => e.1 == s).length).map eI := by
    rw [List.filterMap_eq_map', List.map_map]; rfl
  rw [hfm] at hlc
  have hsum := sum_e ((waysOf M l).map fun s => (M.ends.filter fun e => e.1 == s).length)
  have i1 := M_i (M := M).2.1
  have hlist : blt .list [.tuple (M.beg.map eI)] = some (.list (M.beg.map eI)) := rfl
  have hz := sz_e (enc := eI) (xs := waysOf M l) (by have := ways_few w l hl; omega)
  unfold runs
  generalize ((waysOf M l).map fun s => (M.ends.filter fun e => e.1 == s).length).sum = RR at hsum ⊢
  generalize ((waysOf M l).map fun s => (M.ends.filter fun e => e.1 == s).length).map eI = LL at hsum hlc
  unfold rE at hlc h1
  generalize (waysOf M l).map eI = WW at hlc h1 hz
  generalize M.beg.map eI = BB at *
  generalize hsg : l.map eC = SG at h1
  have hs : signs (S l) = SG := by rw [S_signs, hsg]
  generalize eM M = MM at *
  have j0 : jk none = none := rfl
  rw [j0] at hlc h1
  try simp only [evSs, evS, evE, evEs, evO, evIfs, evF, testE, getO, getP, getV_eq, getX, setC, rd, rdAll, sl_0, sl_s, Option.bind_some, Option.map_some, Option.bind_none, Option.map_none, List.set_cons_zero, List.set_cons_succ, q_add, q_sub, q_mod, q_fdiv, q_mulr, q_adds, q_addl, q_addt, g_add, g_sub, g_adds, b_len_l, b_len_t, b_len_s, b_int_i, b_abs_i, b_tup_l, b_tup_t, k_lt, k_gt, k_le, k_ge, w_at, w_put, w_draws, List.length_map, startE, List.map_cons, List.map_nil, flIn, List.length_cons, List.length_nil, List.replicate, List.append_nil, List.cons_append, List.nil_append, outsC, Nat.zero_add, Nat.reduceAdd, Nat.reduceSub, Nat.sub_self, ↓reduceIte, if_true, if_false, Bool.false_eq_true, Int.reduceLT, Int.reduceNeg, Int.reducePow, Bool.not_true, Bool.not_false, decide_true, decide_false, nn_n, nn_b, nn_i, nn_s, nn_l, nn_t, k_isN, k_notN, argsC, backC, setV_0, setV_s, fr_n, fr_i, fr_o, fr_j, jk_s, bind_n, bind_t, bind_0, bind_s, u_ty, getX, wipeOk, wipeF, unwipe, List.all_cons, List.all_nil, List.foldr_cons, List.foldr_nil, Bool.and_true, Bool.true_and, lendI, itemsD, unlend, outI, q_pow18] at h1
  try simp only [evSs, evS, evE, evEs, evO, evIfs, evF, testE, getO, getP, getV_eq, getX, setC, rd, rdAll, sl_0, sl_s, Option.bind_some, Option.map_some, Option.bind_none, Option.map_none, List.set_cons_zero, List.set_cons_succ, q_add, q_sub, q_mod, q_fdiv, q_mulr, q_adds, q_addl, q_addt, g_add, g_sub, g_adds, b_len_l, b_len_t, b_len_s, b_int_i, b_abs_i, b_tup_l, b_tup_t, k_lt, k_gt, k_le, k_ge, w_at, w_put, w_draws, List.length_map, startE, List.map_cons, List.map_nil, flIn, List.length_cons, List.length_nil, List.replicate, List.append_nil, List.cons_append, List.nil_append, outsC, Nat.zero_add, Nat.reduceAdd, Nat.reduceSub, Nat.sub_self, ↓reduceIte, if_true, if_false, Bool.false_eq_true, Int.reduceLT, Int.reduceNeg, Int.reducePow, Bool.not_true, Bool.not_false, decide_true, decide_false, nn_n, nn_b, nn_i, nn_s, nn_l, nn_t, k_isN, k_notN, argsC, backC, setV_0, setV_s, fr_n, fr_i, fr_o, fr_j, jk_s, bind_n, bind_t, bind_0, bind_s, u_ty, getX, wipeOk, wipeF, unwipe, List.all_cons, List.all_nil, List.foldr_cons, List.foldr_nil, Bool.and_true, Bool.true_and, lendI, itemsD, unlend, outI, q_pow18] at hlc
  unfold F__law_runs evFn
  cases k5 <;> simp only [ir__law_runs, evSs, evS, evE, evEs, evO, evIfs, evF, testE, getO, getP, getV_eq, getX, setC, rd, rdAll, sl_0, sl_s, Option.bind_some, Option.map_some, Option.bind_none, Option.map_none, List.set_cons_zero, List.set_cons_succ, q_add, q_sub, q_mod, q_fdiv, q_mulr, q_adds, q_addl, q_addt, g_add, g_sub, g_adds, b_len_l, b_len_t, b_len_s, b_int_i, b_abs_i, b_tup_l, b_tup_t, k_lt, k_gt, k_le, k_ge, w_at, w_put, w_draws, List.length_map, startE, List.map_cons, List.map_nil, flIn, List.length_cons, List.length_nil, List.replicate, List.append_nil, List.cons_append, List.nil_append, outsC, Nat.zero_add, Nat.reduceAdd, Nat.reduceSub, Nat.sub_self, ↓reduceIte, if_true, if_false, Bool.false_eq_true, Int.reduceLT, Int.reduceNeg, Int.reducePow, Bool.not_true, Bool.not_false, decide_true, decide_false, nn_n, nn_b, nn_i, nn_s, nn_l, nn_t, k_isN, k_notN, argsC, backC, setV_0, setV_s, fr_n, fr_i, fr_o, fr_j, jk_s, bind_n, bind_t, bind_0, bind_s, u_ty, getX, wipeOk, wipeF, unwipe, List.all_cons, List.all_nil, List.foldr_cons, List.foldr_nil, Bool.and_true, Bool.true_and, lendI, itemsD, unlend, outI, q_pow18, j0, i1, hlist, hs, h1, hz, hlc, hsum]
end Lp
namespace Lp
open PySem PySem.Spec L2 Dv Lw
/-! ### counts of runs, as the program has them -/
def stC (C : KV) (c : Nat) (kv : KV) (a : Ar) : KV := if (a.2.1 == c && has C a.1) = true then ins kv a.2.2.2 (val kv a.2.2.2 + val C a.1) else kv
def nxC (M : Mc) (C : KV) (c : Nat) : KV := M.arr.foldl (stC C c) []
def cnt0 (M : Mc) : KV := (M.beg.map fun b => (b, 1)).foldl (fun kv p => ins kv p.1 p.2) []
def cntOf (M : Mc) (l : List Nat) : KV := l.foldl (nxC M) (cnt0 M)
def cE (M : Mc) (l : List Nat) (C c lat j5 j6 j7 j8 : Option D) : En := [some (.imm, eM M), some (.imm, eS l), jk C, jk c, jk lat, jk j5, jk j6, jk j7, jk j8, none]
theorem stC_len (C : KV) (c : Nat) (kv : KV) (a : Ar) : (stC C c kv a).length ≤ kv.length + 1 := by
  unfold stC
  split
  · exact ins_len _ _ _
  · omega
theorem stCs_len (C : KV) (c : Nat) : ∀ (p : List Ar) (kv : KV), (p.foldl (stC C c) kv).length ≤ kv.length + p.length
  | [], _ => Nat.le_refl _
  | a :: p, kv => by
    have := stCs_len C c p (stC C c kv a)
    have := stC_len C c kv a
    rw [List.foldl_cons, List.length_cons]
    omega
theorem count_1 (M : Mc) (l : List Nat) (C : KV) (c : Nat) (kv : KV) (hk : kv.length + 1 ≤ 16777216) (a : Ar) (j5 j6 j7 j8 : Option D) :
    ((bindT (.t [.n 5, .n 6, .n 7, .n 8]) (eA a) [some (.imm, eM M), some (.imm, eS l), some (.imm, eD C), some (.imm, eC c), some (.own, eD kv), jk j5, jk j6, jk j7, jk j8, none]).bind fun e1 => evSs P_count_runs bd_count_runs_1 e1) =
      some (.nx [some (.imm, eM M), some (.imm, eS l), some (.imm, eD C), some (.imm, eC c), some (.own, eD (stC C c kv a)), some (.imm, eI a.1), some (.imm, eC a.2.1), some (.imm, eS a.2.2.1), some (.imm, eI a.2.2.2), none]) := by
  have h1 : cmp2 .eq (eC a.2.1) (eC c) = some (a.2.1 == c) := by rw [eq_ss, C_beq]
  have h2 := in_e C a.1
  have ge := get_e kv a.2.2.2
  have gt : metTy .get (eD kv) = true := rfl
  unfold eA
  generalize eC c = CC at *
  generalize eC a.2.1 = CA at *
  by_cases e1 : (a.2.1 == c) = true
  · by_cases e2 : has C a.1 = true
    · have ix := idx_d e2
      have pt := put_e (kv := kv) (k := a.2.2.2) (v := val kv a.2.2.2 + val C a.1) hk
      have ad : op2 .add (eI (val kv a.2.2.2)) (eI (val C a.1)) = some (eI (val kv a.2.2.2 + val C a.1)) := by rw [q_add]; simp [eI]
      rw [show stC C c kv a = ins kv a.2.2.2 (val kv a.2.2.2 + val C a.1) by unfold stC; rw [e1, e2]; rfl]
      rw [e1] at h1; rw [e2] at h2
      generalize eD (ins kv a.2.2.2 (val kv a.2.2.2 + val C a.1)) = D3 at pt ⊢
      generalize eD kv = D1 at *
      generalize eD C = D2 at *
      generalize eI (val kv a.2.2.2) = V1 at *
      generalize eI (val C a.1) = V2 at *
      generalize eI (val kv a.2.2.2 + val C a.1) = V3 at *
      simp only [bd_count_runs_1, evSs, evS, evE, evEs, evO, evIfs, evF, testE, getO, getP, getV_eq, getX, setC, rd, rdAll, sl_0, sl_s, Option.bind_some, Option.map_some, Option.bind_none, Option.map_none, List.set_cons_zero, List.set_cons_succ, q_add, q_sub, q_mod, q_fdiv, q_mulr, q_adds, q_addl, q_addt, g_add, g_sub, g_adds, b_len_l, b_len_t, b_len_s, b_int_i, b_abs_i, b_tup_l, b_tup_t, k_lt, k_gt, k_le, k_ge, w_at, w_put, w_draws, List.length_map, startE, List.map_cons, List.map_nil, flIn, List.length_cons, List.length_nil, List.replicate, List.append_nil, List.cons_append, List.nil_append, outsC, Nat.zero_add, Nat.reduceAdd, Nat.reduceSub, Nat.sub_self, ↓reduceIte, if_true, if_false, Bool.false_eq_true, Int.reduceLT, Int.reduceNeg, Int.reducePow, Bool.not_true, Bool.not_false, decide_true, decide_false, nn_n, nn_b, nn_i, nn_s, nn_l, nn_t, k_isN, k_notN, argsC, backC, setV_0, setV_s, fr_n, fr_i, fr_o, fr_j, jk_s, bind_n, bind_t, bind_0, bind_s, u_ty, getX, wipeOk, wipeF, unwipe, List.all_cons, List.all_nil, List.foldr_cons, List.foldr_nil, Bool.and_true, Bool.true_and, lendI, itemsD, unlend, outI, q_pow18, h1, h2, e1, e2, ge, gt, ix, ad, pt]
    · have e2 : has C a.1 = false := by simpa using e2
      rw [show stC C c kv a = kv by unfold stC; rw [e1, e2]; rfl]
      rw [e1] at h1; rw [e2] at h2
      generalize eD kv = D1 at *
      generalize eD C = D2 at *
      simp only [bd_count_runs_1, evSs, evS, evE, evEs, evO, evIfs, evF, testE, getO, getP, getV_eq, getX, setC, rd, rdAll, sl_0, sl_s, Option.bind_some, Option.map_some, Option.bind_none, Option.map_none, List.set_cons_zero, List.set_cons_succ, q_add, q_sub, q_mod, q_fdiv, q_mulr, q_adds, q_addl, q_addt, g_add, g_sub, g_adds, b_len_l, b_len_t, b_len_s, b_int_i, b_abs_i, b_tup_l, b_tup_t, k_lt, k_gt, k_le, k_ge, w_at, w_put, w_draws, List.length_map, startE, List.map_cons, List.map_nil, flIn, List.length_cons, List.length_nil, List.replicate, List.append_nil, List.cons_append, List.nil_append, outsC, Nat.zero_add, Nat.reduceAdd, Nat.reduceSub, Nat.sub_self, ↓reduceIte, if_true, if_false, Bool.false_eq_true, Int.reduceLT, Int.reduceNeg, Int.reducePow, Bool.not_true, Bool.not_false, decide_true, decide_false, nn_n, nn_b, nn_i, nn_s, nn_l, nn_t, k_isN, k_notN, argsC, backC, setV_0, setV_s, fr_n, fr_i, fr_o, fr_j, jk_s, bind_n, bind_t, bind_0, bind_s, u_ty, getX, wipeOk, wipeF, unwipe, List.all_cons, List.all_nil, List.foldr_cons, List.foldr_nil, Bool.and_true, Bool.true_and, lendI, itemsD, unlend, outI, q_pow18, h1, h2, e1, e2]
  · have e1 : (a.2.1 == c) = false := by simpa using e1
    rw [show stC C c kv a = kv by unfold stC; rw [e1]; rfl]
    rw [e1] at h1
    generalize eD kv = D1 at *
    generalize eD C = D2 at *
    simp only [bd_count_runs_1, evSs, evS, evE, evEs, evO, evIfs, evF, testE, getO, getP, getV_eq, getX, setC, rd, rdAll, sl_0, sl_s, Option.bind_some, Option.map_some, Option.bind_none, Option.map_none, List.set_cons_zero, List.set_cons_succ, q_add, q_sub, q_mod, q_fdiv, q_mulr, q_adds, q_addl, q_addt, g_add, g_sub, g_adds, b_len_l, b_len_t, b_len_s, b_int_i, b_abs_i, b_tup_l, b_tup_t, k_lt, k_gt, k_le, k_ge, w_at, w_put, w_draws, List.length_map, startE, List.map_cons, List.map_nil, flIn, List.length_cons, List.length_nil, List.replicate, List.append_nil, List.cons_append, List.nil_append, outsC, Nat.zero_add, Nat.reduceAdd, Nat.reduceSub, Nat.sub_self, ↓reduceIte, if_true, if_false, Bool.false_eq_true, Int.reduceLT, Int.reduceNeg, Int.reducePow, Bool.not_true, Bool.not_false, decide_true, decide_false, nn_n, nn_b, nn_i, nn_s, nn_l, nn_t, k_isN, k_notN, argsC, backC, setV_0, setV_s, fr_n, fr_i, fr_o, fr_j, jk_s, bind_n, bind_t, bind_0, bind_s, u_ty, getX, wipeOk, wipeF, unwipe, List.all_cons, List.all_nil, List.foldr_cons, List.foldr_nil, Bool.and_true, Bool.true_and, lendI, itemsD, unlend, outI, q_pow18, h1, e1]
theorem count_2 {M : Mc} (w : Ok M) (l : List Nat) (C : KV) (c : Nat) (j3 j4 j5 j6 j7 j8 : Option D) :
    ∃ k5 k6 k7 k8, ((bindT (.n 3) (eC c) (cE M l (some (eD C)) j3 j4 j5 j6 j7 j8)).bind fun e1 => evSs P_count_runs bd_count_runs_2 e1) = some (.nx (cE M l (some (eD (nxC M C c))) (some (eC c)) (some (eD (nxC M C c))) k5 k6 k7 k8)) := by
  obtain ⟨e', h1, k5, k6, k7, k8, h2⟩ := for_pre (f := fun d e => (bindT (.t [.n 5, .n 6, .n 7, .n 8]) d e).bind fun e1 => evSs P_count_runs bd_count_runs_1 e1) eA
    (fun p e => ∃ k5 k6 k7 k8, e = [some (.imm, eM M), some (.imm, eS l), some (.imm, eD C), some (.imm, eC c), some (.own, eD (p.foldl (stC C c) [])), jk k5, jk k6, jk k7, jk k8, none]) M.arr [] [some (.imm, eM M), some (.imm, eS l), some (.imm, eD C), some (.imm, eC c), some (.own, .dict []), jk j5, jk j6, jk j7, jk j8, none]
    ⟨j5, j6, j7, j8, rfl⟩ (fun p a q e he ⟨k5, k6, k7, k8, hk⟩ => by
      subst hk
      have hp : p.length ≤ M.arr.length := by rw [← List.nil_append M.arr, he]; simp
      have h1 := w.al
      have h2 := stCs_len C c p []
      rw [List.length_nil] at h2
      refine ⟨_, count_1 M l C c _ (by omega) a k5 k6 k7 k8, some (eI a.1), some (eC a.2.1), some (eS a.2.2.1), some (eI a.2.2.2), ?_⟩
      rw [List.foldl_append]; rfl)
  subst h2
  rw [List.nil_append] at h1
  have i3 := M_i (M := M).2.2.2
  have hd : dFill [] [] = some [] := rfl
  have hpu : pairUp [] = some [] := rfl
  refine ⟨k5, k6, k7, k8, ?_⟩
  unfold cE
  show _ = some (Out.nx [_, _, some (.imm, eD (M.arr.foldl (stC C c) [])), _, some (.imm, eD (M.arr.foldl (stC C c) [])), _, _, _, _, _])
  generalize eD (M.arr.foldl (stC C c) []) = D3 at h1 ⊢
  generalize eD C = D2 at *
  generalize M.arr.map eA = MA at *
  generalize eM M = MM at *
  generalize eC c = CC at *
  try simp only [evSs, evS, evE, evEs, evO, evIfs, evF, testE, getO, getP, getV_eq, getX, setC, rd, rdAll, sl_0, sl_s, Option.bind_some, Option.map_some, Option.bind_none, Option.map_none, List.set_cons_zero, List.set_cons_succ, q_add, q_sub, q_mod, q_fdiv, q_mulr, q_adds, q_addl, q_addt, g_add, g_sub, g_adds, b_len_l, b_len_t, b_len_s, b_int_i, b_abs_i, b_tup_l, b_tup_t, k_lt, k_gt, k_le, k_ge, w_at, w_put, w_draws, List.length_map, startE, List.map_cons, List.map_nil, flIn, List.length_cons, List.length_nil, List.replicate, List.append_nil, List.cons_append, List.nil_append, outsC, Nat.zero_add, Nat.reduceAdd, Nat.reduceSub, Nat.sub_self, ↓reduceIte, if_true, if_false, Bool.false_eq_true, Int.reduceLT, Int.reduceNeg, Int.reducePow, Bool.not_true, Bool.not_false, decide_true, decide_false, nn_n, nn_b, nn_i, nn_s, nn_l, nn_t, k_isN, k_notN, argsC, backC, setV_0, setV_s, fr_n, fr_i, fr_o, fr_j, jk_s, bind_n, bind_t, bind_0, bind_s, u_ty, getX, wipeOk, wipeF, unwipe, List.all_cons, List.all_nil, List.foldr_cons, List.foldr_nil, Bool.and_true, Bool.true_and, lendI, itemsD, unlend, outI, q_pow18] at h1
  simp only [bd_count_runs_2, evSs, evS, evE, evEs, evO, evIfs, evF, testE, getO, getP, getV_eq, getX, setC, rd, rdAll, sl_0, sl_s, Option.bind_some, Option.map_some, Option.bind_none, Option.map_none, List.set_cons_zero, List.set_cons_succ, q_add, q_sub, q_mod, q_fdiv, q_mulr, q_adds, q_addl, q_addt, g_add, g_sub, g_adds, b_len_l, b_len_t, b_len_s, b_int_i, b_abs_i, b_tup_l, b_tup_t, k_lt, k_gt, k_le, k_ge, w_at, w_put, w_draws, List.length_map, startE, List.map_cons, List.map_nil, flIn, List.length_cons, List.length_nil, List.replicate, List.append_nil, List.cons_append, List.nil_append, outsC, Nat.zero_add, Nat.reduceAdd, Nat.reduceSub, Nat.sub_self, ↓reduceIte, if_true, if_false, Bool.false_eq_true, Int.reduceLT, Int.reduceNeg, Int.reducePow, Bool.not_true, Bool.not_false, decide_true, decide_false, nn_n, nn_b, nn_i, nn_s, nn_l, nn_t, k_isN, k_notN, argsC, backC, setV_0, setV_s, fr_n, fr_i, fr_o, fr_j, jk_s, bind_n, bind_t, bind_0, bind_s, u_ty, getX, wipeOk, wipeF, unwipe, List.all_cons, List.all_nil, List.foldr_cons, List.foldr_nil, Bool.and_true, Bool.true_and, lendI, itemsD, unlend, outI, q_pow18, i3, hd, hpu, h1]
def total (M : Mc) (f : Nat → Nat) : Nat := (M.ends.map fun e => f e.1).sum
theorem e_count {M : Mc} (w : Ok M) (l : List Nat) : F_count_runs [(.imm, eM M), (.imm, eS l)] = some ((false, eI (total M (val (cntOf M l)))), []) := by
  have hl0 := lc_mapT eI (f := fun d e => (bindT (.n 9) d e).bind fun e1 => (evIfs P_count_runs [] e1).bind fun b => if b.1 = true then (evE P_count_runs el_count_runs_0 b.2).map fun y => (some y.1, y.2) else some (none, b.2)) (own := [9])
    (e := cE M l none none none none none none none) (fun b => some (e2 (b, 1))) M.beg (fun b _ => ⟨[some (.imm, eM M), some (.imm, eS l), none, none, none, none, none, none, none, some (.imm, eI b)], by
      have j0 : jk none = none := rfl
      unfold cE
      rw [j0]
      generalize eM M = MM
      simp only [el_count_runs_0, evSs, evS, evE, evEs, evO, evIfs, evF, testE, getO, getP, getV_eq, getX, setC, rd, rdAll, sl_0, sl_s, Option.bind_some, Option.map_some, Option.bind_none, Option.map_none, List.set_cons_zero, List.set_cons_succ, q_add, q_sub, q_mod, q_fdiv, q_mulr, q_adds, q_addl, q_addt, g_add, g_sub, g_adds, b_len_l, b_len_t, b_len_s, b_int_i, b_abs_i, b_tup_l, b_tup_t, k_lt, k_gt, k_le, k_ge, w_at, w_put, w_draws, List.length_map, startE, List.map_cons, List.map_nil, flIn, List.length_cons, List.length_nil, List.replicate, List.append_nil, List.cons_append, List.nil_append, outsC, Nat.zero_add, Nat.reduceAdd, Nat.reduceSub, Nat.sub_self, ↓reduceIte, if_true, if_false, Bool.false_eq_true, Int.reduceLT, Int.reduceNeg, Int.reducePow, Bool.not_true, Bool.not_false, decide_true, decide_false, nn_n, nn_b, nn_i, nn_s, nn_l, nn_t, k_isN, k_notN, argsC, backC, setV_0, setV_s, fr_n, fr_i, fr_o, fr_j, jk_s, bind_n, bind_t, bind_0, bind_s, u_ty, getX, wipeOk, wipeF, unwipe, List.all_cons, List.all_nil, List.foldr_cons, List.foldr_nil, Bool.and_true, Bool.true_and, lendI, itemsD, unlend, outI, q_pow18]
      rfl, rfl⟩)
  have hf0 : M.beg.filterMap (fun b => some (e2 (b, 1))) = (M.beg.map fun b => (b, 1)).map e2 := by
    rw [List.filterMap_eq_map', List.map_map]; rfl
  rw [hf0] at hl0
  have hdc := dct_e (M.beg.map fun b => (b, 1))
  obtain ⟨e', h1, k3, k4, k5, k6, k7, k8, h2⟩ := for_pre (f := fun d e => (bindT (.n 3) d e).bind fun e1 => evSs P_count_runs bd_count_runs_2 e1) eC (fun p e => ∃ k3 k4 k5 k6 k7 k8, e = cE M l (some (eD (cntOf M p))) k3 k4 k5 k6 k7 k8) l [] (cE M l (some (eD (cnt0 M))) none none none none none none)
    ⟨none, none, none, none, none, none, rfl⟩ (fun p a q e he ⟨k3, k4, k5, k6, k7, k8, hk⟩ => by
      subst hk
      obtain ⟨a5, a6, a7, a8, h⟩ := count_2 w l (cntOf M p) a k3 k4 k5 k6 k7 k8
      refine ⟨_, h, some (eC a), some (eD (nxC M (cntOf M p) a)), a5, a6, a7, a8, ?_⟩
      rw [show cntOf M (p ++ [a]) = nxC M (cntOf M p) a by unfold cntOf; rw [List.foldl_append]; rfl])
  subst h2
  rw [List.nil_append] at h1
  have hl1 := lc_mapT eEd (f := fun d e => (bindT (.t [.n 9, .n 7]) d e).bind fun e1 => (evIfs P_count_runs [] e1).bind fun b => if b.1 = true then (evE P_count_runs el_count_runs_3 b.2).map fun y => (some y.1, y.2) else some (none, b.2)) (own := [9, 7])
    (e := cE M l (some (eD (cntOf M l))) k3 k4 k5 k6 none k8) (fun e => some (eI (val (cntOf M l) e.1))) M.ends (fun e _ => by
      refine ⟨[some (.imm, eM M), some (.imm, eS l), some (.imm, eD (cntOf M l)), jk k3, jk k4, jk k5, jk k6, some (.imm, eS e.2), jk k8, some (.imm, eI e.1)], ?_, rfl⟩
      have ge := get_e (cntOf M l) e.1
      have gt : metTy .get (eD (cntOf M l)) = true := rfl
      have j0 : jk none = none := rfl
      unfold cE eEd
      rw [j0]
      generalize eD (cntOf M l) = DD at *
      generalize eM M = MM
      simp only [el_count_runs_3, evSs, evS, evE, evEs, evO, evIfs, evF, testE, getO, getP, getV_eq, getX, setC, rd, rdAll, sl_0, sl_s, Option.bind_some, Option.map_some, Option.bind_none, Option.map_none, List.set_cons_zero, List.set_cons_succ, q_add, q_sub, q_mod, q_fdiv, q_mulr, q_adds, q_addl, q_addt, g_add, g_sub, g_adds, b_len_l, b_len_t, b_len_s, b_int_i, b_abs_i, b_tup_l, b_tup_t, k_lt, k_gt, k_le, k_ge, w_at, w_put, w_draws, List.length_map, startE, List.map_cons, List.map_nil, flIn, List.length_cons, List.length_nil, List.replicate, List.append_nil, List.cons_append, List.nil_append, outsC, Nat.zero_add, Nat.reduceAdd, Nat.reduceSub, Nat.sub_self, ↓reduceIte, if_true, if_false, Bool.false_eq_true, Int.reduceLT, Int.reduceNeg, Int.reducePow, Bool.not_true, Bool.not_false, decide_true, decide_false, nn_n, nn_b, nn_i, nn_s, nn_l, nn_t, k_isN, k_notN, argsC, backC, setV_0, setV_s, fr_n, fr_i, fr_o, fr_j, jk_s, bind_n, bind_t, bind_0, bind_s, u_ty, getX, wipeOk, wipeF, unwipe, List.all_cons, List.all_nil, List.foldr_cons, List.foldr_nil, Bool.and_true, Bool.true_and, lendI, itemsD, unlend, outI, q_pow18, ge, gt])
  have hf1 : M.ends.filterMap (fun e => some (eI (val (cntOf M l) e.1))) = (M.ends.map fun e => val (cntOf M l) e.1).map eI := by
    rw [List.filterMap_eq_map', List.map_map]; rfl
  rw [hf1] at hl1
  have hsum := sum_e (M.ends.map fun e => val (cntOf M l) e.1)
  have i1 := M_i (M := M).2.1
  have i2 := M_i (M := M).2.2.1
  have z1 := sz_t (enc := eI) (xs := M.beg) (by have := w.bl; omega)
  have z2 := sz_t (enc := eEd) (xs := M.ends) (by have := w.el; omega)
  unfold total
  generalize (M.ends.map fun e => val (cntOf M l) e.1).sum = RR at hsum ⊢
  generalize (M.ends.map fun e => val (cntOf M l) e.1).map eI = LL at hsum hl1
  change blt .dict [.list ((M.beg.map fun b => (b, 1)).map e2)] = some (eD (cnt0 M)) at hdc
  generalize (M.beg.map fun b => (b, 1)).map e2 = PP at hdc hl0
  unfold cE at hl0 h1 hl1
  generalize eD (cntOf M l) = D1 at *
  generalize eD (cnt0 M) = D0 at *
  generalize M.beg.map eI = BB at *
  generalize M.ends.map eEd = EE at *
  generalize hsg : l.map eC = SG at h1
  have hs : signs (S l) = SG := by rw [S_signs, hsg]
  generalize eM M = MM at *
  have j0 : jk none = none := rfl
  rw [j0] at hl0 h1 hl1
  try simp only [evSs, evS, evE, evEs, evO, evIfs, evF, testE, getO, getP, getV_eq, getX, setC, rd, rdAll, sl_0, sl_s, Option.bind_some, Option.map_some, Option.bind_none, Option.map_none, List.set_cons_zero, List.set_cons_succ, q_add, q_sub, q_mod, q_fdiv, q_mulr, q_adds, q_addl, q_addt, g_add, g_sub, g_adds, b_len_l, b_len_t, b_len_s, b_int_i, b_abs_i, b_tup_l, b_tup_t, k_lt, k_gt, k_le, k_ge, w_at, w_put, w_draws, List.length_map, startE, List.map_cons, List.map_nil, flIn, List.length_cons, List.length_nil, List.replicate, List.append_nil, List.cons_append, List.nil_append, outsC, Nat.zero_add, Nat.reduceAdd, Nat.reduceSub, Nat.sub_self, ↓reduceIte, if_true, if_false, Bool.false_eq_true, Int.reduceLT, Int.reduceNeg, Int.reducePow, Bool.not_true, Bool.not_false, decide_true, decide_false, nn_n, nn_b, nn_i, nn_s, nn_l, nn_t, k_isN, k_notN, argsC, backC, setV_0, setV_s, fr_n, fr_i, fr_o, fr_j, jk_s, bind_n, bind_t, bind_0, bind_s, u_ty, getX, wipeOk, wipeF, unwipe, List.all_cons, List.all_nil, List.foldr_cons, List.foldr_nil, Bool.and_true, Bool.true_and, lendI, itemsD, unlend, outI, q_pow18] at h1
  try simp only [evSs, evS, evE, evEs, evO, evIfs, evF, testE, getO, getP, getV_eq, getX, setC, rd, rdAll, sl_0, sl_s, Option.bind_some, Option.map_some, Option.bind_none, Option.map_none, List.set_cons_zero, List.set_cons_succ, q_add, q_sub, q_mod, q_fdiv, q_mulr, q_adds, q_addl, q_addt, g_add, g_sub, g_adds, b_len_l, b_len_t, b_len_s, b_int_i, b_abs_i, b_tup_l, b_tup_t, k_lt, k_gt, k_le, k_ge, w_at, w_put, w_draws, List.length_map, startE, List.map_cons, List.map_nil, flIn, List.length_cons, List.length_nil, List.replicate, List.append_nil, List.cons_append, List.nil_append, outsC, Nat.zero_add, Nat.reduceAdd, Nat.reduceSub, Nat.sub_self, ↓reduceIte, if_true, if_false, Bool.false_eq_true, Int.reduceLT, Int.reduceNeg, Int.reducePow, Bool.not_true, Bool.not_false, decide_true, decide_false, nn_n, nn_b, nn_i, nn_s, nn_l, nn_t, k_isN, k_notN, argsC, backC, setV_0, setV_s, fr_n, fr_i, fr_o, fr_j, jk_s, bind_n, bind_t, bind_0, bind_s, u_ty, getX, wipeOk, wipeF, unwipe, List.all_cons, List.all_nil, List.foldr_cons, List.foldr_nil, Bool.and_true, Bool.true_and, lendI, itemsD, unlend, outI, q_pow18] at hl0
  try simp only [evSs, evS, evE, evEs, evO, evIfs, evF, testE, getO, getP, getV_eq, getX, setC, rd, rdAll, sl_0, sl_s, Option.bind_some, Option.map_some, Option.bind_none, Option.map_none, List.set_cons_zero, List.set_cons_succ, q_add, q_sub, q_mod, q_fdiv, q_mulr, q_adds, q_addl, q_addt, g_add, g_sub, g_adds, b_len_l, b_len_t, b_len_s, b_int_i, b_abs_i, b_tup_l, b_tup_t, k_lt, k_gt, k_le, k_ge, w_at, w_put, w_draws, List.length_map, startE, List.map_cons, List.map_nil, flIn, List.length_cons, List.length_nil, List.replicate, List.append_nil, List.cons_append, List.nil_append, outsC, Nat.zero_add, Nat.reduceAdd, Nat.reduceSub, Nat.sub_self, ↓reduceIte, if_true, if_false, Bool.false_eq_true, Int.reduceLT, Int.reduceNeg, Int.reducePow, Bool.not_true, Bool.not_false, decide_true, decide_false, nn_n, nn_b, nn_i, nn_s, nn_l, nn_t, k_isN, k_notN, argsC, backC, setV_0, setV_s, fr_n, fr_i, fr_o, fr_j, jk_s, bind_n, bind_t, bind_0, bind_s, u_ty, getX, wipeOk, wipeF, unwipe, List.all_cons, List.all_nil, List.foldr_cons, List.foldr_nil, Bool.and_true, Bool.true_and, lendI, itemsD, unlend, outI, q_pow18] at hl1
  unfold F_count_runs evFn
  cases k7 <;> simp only [ir_count_runs, evSs, evS, evE, evEs, evO, evIfs, evF, testE, getO, getP, getV_eq, getX, setC, rd, rdAll, sl_0, sl_s, Option.bind_some, Option.map_some, Option.bind_none, Option.map_none, List.set_cons_zero, List.set_cons_succ, q_add, q_sub, q_mod, q_fdiv, q_mulr, q_adds, q_addl, q_addt, g_add, g_sub, g_adds, b_len_l, b_len_t, b_len_s, b_int_i, b_abs_i, b_tup_l, b_tup_t, k_lt, k_gt, k_le, k_ge, w_at, w_put, w_draws, List.length_map, startE, List.map_cons, List.map_nil, flIn, List.length_cons, List.length_nil, List.replicate, List.append_nil, List.cons_append, List.nil_append, outsC, Nat.zero_add, Nat.reduceAdd, Nat.reduceSub, Nat.sub_self, ↓reduceIte, if_true, if_false, Bool.false_eq_true, Int.reduceLT, Int.reduceNeg, Int.reducePow, Bool.not_true, Bool.not_false, decide_true, decide_false, nn_n, nn_b, nn_i, nn_s, nn_l, nn_t, k_isN, k_notN, argsC, backC, setV_0, setV_s, fr_n, fr_i, fr_o, fr_j, jk_s, bind_n, bind_t, bind_0, bind_s, u_ty, getX, wipeOk, wipeF, unwipe, List.all_cons, List.all_nil, List.foldr_cons, List.foldr_nil, Bool.and_true, Bool.true_and, lendI, itemsD, unlend, outI, q_pow18, j0, i1, hl0, z1, hdc, hs, h1, i2, z2, hl1, hsum]
end Lp
namespace Lp
open PySem PySem.Spec L2 Dv Lw
/-! ### all rows of a size -/
def exR (sg : List Nat) (r : List Nat) : List (List Nat) := sg.map fun c => r ++ [c]
def rowsN (sg : List Nat) : Nat → List (List Nat)
  | 0 => [[]]
  | n + 1 => (rowsN sg n).flatMap (exR sg)
theorem rowsN_size {sg : List Nat} : ∀ {n : Nat} {r : List Nat}, r ∈ rowsN sg n → r.length = n
  | 0, r, h => by
    rw [rowsN, List.mem_singleton] at h
    rw [h]; rfl
  | n + 1, r, h => by
    rw [rowsN, List.mem_flatMap] at h
    obtain ⟨q, hq, hr⟩ := h
    obtain ⟨c, _, rfl⟩ := List.mem_map.mp hr
    rw [List.length_append, rowsN_size hq]; rfl
theorem flat_two {α : Type} {f : α → List α} (hf : ∀ a, (f a).length ≤ 2) : ∀ l : List α, (l.flatMap f).length ≤ 2 * l.length
  | [] => Nat.zero_le _
  | a :: l => by
    have := flat_two hf l
    have := hf a
    rw [List.flatMap_cons, List.length_append, List.length_cons]
    omega
theorem rowsN_few {sg : List Nat} (hs : sg.length ≤ 2) : ∀ n : Nat, (rowsN sg n).length ≤ 2 ^ n
  | 0 => Nat.le_refl _
  | n + 1 => by
    have h1 := rowsN_few hs n
    have h2 := flat_two (f := exR sg) (fun r => by unfold exR; rw [List.length_map]; exact hs) (rowsN sg n)
    rw [rowsN, Nat.pow_succ]
    omega
def wE (sg : List Nat) (n : Nat) (f k m r : Option D) : En := [some (.imm, .list (sg.map eC)), some (.imm, eI n), jk f, jk k, jk m, jk r, none]
theorem rows_1 {sg : List Nat} (hs : sg.length ≤ 2) (n : Nat) (f k : Option D) (m : List (List Nat)) (hm : m.length ≤ 1000) (r : List Nat) (hr : r.length ≤ 1000) (j : Option D) :
    ((bindT (.n 5) (eS r) (wE sg n f k (some (.list (m.map eS))) j)).bind fun e1 => evSs P__law_rows bd__law_rows_1 e1) = some (.nx (wE sg n f k (some (.list ((m ++ exR sg r).map eS))) (some (eS r)))) := by
  have hlc := lc_mapT eC (f := fun d e => (bindT (.n 6) d e).bind fun e1 => (evIfs P__law_rows [] e1).bind fun b => if b.1 = true then (evE P__law_rows el__law_rows_0 b.2).map fun y => (some y.1, y.2) else some (none, b.2)) (own := [6])
    (e := wE sg n f k (some (.list (m.map eS))) (some (eS r))) (fun c => some (eS (r ++ [c]))) sg (fun c _ => by
      refine ⟨[some (.imm, .list (sg.map eC)), some (.imm, eI n), jk f, jk k, some (.imm, .list (m.map eS)), some (.imm, eS r), some (.imm, eC c)], ?_, rfl⟩
      have ha : op2 .add (eS r) (eC c) = some (eS (r ++ [c])) := q_addS (by simp; omega)
      unfold wE
      generalize eS (r ++ [c]) = RC at *
      generalize eS r = R at *
      generalize eC c = C at *
      simp only [el__law_rows_0, evSs, evS, evE, evEs, evO, evIfs, evF, testE, getO, getP, getV_eq, getX, setC, rd, rdAll, sl_0, sl_s, Option.bind_some, Option.map_some, Option.bind_none, Option.map_none, List.set_cons_zero, List.set_cons_succ, q_add, q_sub, q_mod, q_fdiv, q_mulr, q_adds, q_addl, q_addt, g_add, g_sub, g_adds, b_len_l, b_len_t, b_len_s, b_int_i, b_abs_i, b_tup_l, b_tup_t, k_lt, k_gt, k_le, k_ge, w_at, w_put, w_draws, List.length_map, startE, List.map_cons, List.map_nil, flIn, List.length_cons, List.length_nil, List.replicate, List.append_nil, List.cons_append, List.nil_append, outsC, Nat.zero_add, Nat.reduceAdd, Nat.reduceSub, Nat.sub_self, ↓reduceIte, if_true, if_false, Bool.false_eq_true, Int.reduceLT, Int.reduceNeg, Int.reducePow, Bool.not_true, Bool.not_false, decide_true, decide_false, nn_n, nn_b, nn_i, nn_s, nn_l, nn_t, k_isN, k_notN, argsC, backC, setV_0, setV_s, fr_n, fr_i, fr_o, fr_j, jk_s, bind_n, bind_t, bind_0, bind_s, u_ty, getX, wipeOk, wipeF, unwipe, List.all_cons, List.all_nil, List.foldr_cons, List.foldr_nil, Bool.and_true, Bool.true_and, lendI, itemsD, unlend, outI, q_pow18, ha])
  have hfm : sg.filterMap (fun c => some (eS (r ++ [c]))) = (exR sg r).map eS := by
    unfold exR
    rw [List.filterMap_eq_map', List.map_map]; rfl
  rw [hfm] at hlc
  have hz := sz_t (enc := eC) (xs := sg) (by omega)
  have hadd : op2 .add (.list (m.map eS)) (.list ((exR sg r).map eS)) = some (.list ((m ++ exR sg r).map eS)) := by
    rw [q_addl (by unfold exR; simp; omega), List.map_append]
  unfold wE at hlc ⊢
  generalize (m ++ exR sg r).map eS = A1 at *
  generalize (exR sg r).map eS = A2 at *
  generalize m.map eS = A3 at *
  generalize sg.map eC = A4 at *
  generalize eS r = R at *
  try simp only [evSs, evS, evE, evEs, evO, evIfs, evF, testE, getO, getP, getV_eq, getX, setC, rd, rdAll, sl_0, sl_s, Option.bind_some, Option.map_some, Option.bind_none, Option.map_none, List.set_cons_zero, List.set_cons_succ, q_add, q_sub, q_mod, q_fdiv, q_mulr, q_adds, q_addl, q_addt, g_add, g_sub, g_adds, b_len_l, b_len_t, b_len_s, b_int_i, b_abs_i, b_tup_l, b_tup_t, k_lt, k_gt, k_le, k_ge, w_at, w_put, w_draws, List.length_map, startE, List.map_cons, List.map_nil, flIn, List.length_cons, List.length_nil, List.replicate, List.append_nil, List.cons_append, List.nil_append, outsC, Nat.zero_add, Nat.reduceAdd, Nat.reduceSub, Nat.sub_self, ↓reduceIte, if_true, if_false, Bool.false_eq_true, Int.reduceLT, Int.reduceNeg, Int.reducePow, Bool.not_true, Bool.not_false, decide_true, decide_false, nn_n, nn_b, nn_i, nn_s, nn_l, nn_t, k_isN, k_notN, argsC, backC, setV_0, setV_s, fr_n, fr_i, fr_o, fr_j, jk_s, bind_n, bind_t, bind_0, bind_s, u_ty, getX, wipeOk, wipeF, unwipe, List.all_cons, List.all_nil, List.foldr_cons, List.foldr_nil, Bool.and_true, Bool.true_and, lendI, itemsD, unlend, outI, q_pow18] at hlc
  simp only [bd__law_rows_1, evSs, evS, evE, evEs, evO, evIfs, evF, testE, getO, getP, getV_eq, getX, setC, rd, rdAll, sl_0, sl_s, Option.bind_some, Option.map_some, Option.bind_none, Option.map_none, List.set_cons_zero, List.set_cons_succ, q_add, q_sub, q_mod, q_fdiv, q_mulr, q_adds, q_addl, q_addt, g_add, g_sub, g_adds, b_len_l, b_len_t, b_len_s, b_int_i, b_abs_i, b_tup_l, b_tup_t, k_lt, k_gt, k_le, k_ge, w_at, w_put, w_draws, List.length_map, startE, List.map_cons, List.map_nil, flIn, List.length_cons, List.length_nil, List.replicate, List.append_nil, List.cons_append, List.nil_append, outsC, Nat.zero_add, Nat.reduceAdd, Nat.reduceSub, Nat.sub_self, ↓reduceIte, if_true, if_false, Bool.false_eq_true, Int.reduceLT, Int.reduceNeg, Int.reducePow, Bool.not_true, Bool.not_false, decide_true, decide_false, nn_n, nn_b, nn_i, nn_s, nn_l, nn_t, k_isN, k_notN, argsC, backC, setV_0, setV_s, fr_n, fr_i, fr_o, fr_j, jk_s, bind_n, bind_t, bind_0, bind_s, u_ty, getX, wipeOk, wipeF, unwipe, List.all_cons, List.all_nil, List.foldr_cons, List.foldr_nil, Bool.and_true, Bool.true_and, lendI, itemsD, unlend, outI, q_pow18, hz, hlc, hadd]
theorem rows_2 {sg : List Nat} (hs : sg.length ≤ 2) (n : Nat) (fs : List (List Nat)) (hf : fs.length ≤ 400) (hr : ∀ r ∈ fs, r.length ≤ 1000) (d : D) (j3 j4 j5 : Option D) :
    ∃ k5, ((bindT (.n 3) d (wE sg n (some (.list (fs.map eS))) j3 j4 j5)).bind fun e1 => evSs P__law_rows bd__law_rows_2 e1) = some (.nx (wE sg n (some (.list ((fs.flatMap (exR sg)).map eS))) (some d) (some (.list ((fs.flatMap (exR sg)).map eS))) k5)) := by
  obtain ⟨e', h1, k, h2⟩ := for_pre (f := fun d e => (bindT (.n 5) d e).bind fun e1 => evSs P__law_rows bd__law_rows_1 e1) eS (fun p e => ∃ k, e = wE sg n (some (.list (fs.map eS))) (some d) (some (.list ((p.flatMap (exR sg)).map eS))) k) fs [] (wE sg n (some (.list (fs.map eS))) (some d) (some (.list [])) j5)
    ⟨j5, rfl⟩ (fun p a q e he ⟨k, hk⟩ => by
      subst hk
      rw [List.nil_append] at he
      have hp : p.length ≤ fs.length := by rw [he]; simp
      have ha : a ∈ fs := by rw [he]; simp
      have h2 := flat_two (f := exR sg) (fun r => by unfold exR; rw [List.length_map]; exact hs) p
      refine ⟨_, rows_1 hs n _ _ (p.flatMap (exR sg)) (by omega) a (hr a ha) k, some (eS a), ?_⟩
      rw [show (p ++ [a]).flatMap (exR sg) = p.flatMap (exR sg) ++ exR sg a by simp])
  subst h2
  rw [List.nil_append] at h1
  refine ⟨k, ?_⟩
  unfold wE at h1 ⊢
  generalize (fs.flatMap (exR sg)).map eS = NN at *
  generalize fs.map eS = FF at *
  generalize sg.map eC = A4 at *
  try simp only [evSs, evS, evE, evEs, evO, evIfs, evF, testE, getO, getP, getV_eq, getX, setC, rd, rdAll, sl_0, sl_s, Option.bind_some, Option.map_some, Option.bind_none, Option.map_none, List.set_cons_zero, List.set_cons_succ, q_add, q_sub, q_mod, q_fdiv, q_mulr, q_adds, q_addl, q_addt, g_add, g_sub, g_adds, b_len_l, b_len_t, b_len_s, b_int_i, b_abs_i, b_tup_l, b_tup_t, k_lt, k_gt, k_le, k_ge, w_at, w_put, w_draws, List.length_map, startE, List.map_cons, List.map_nil, flIn, List.length_cons, List.length_nil, List.replicate, List.append_nil, List.cons_append, List.nil_append, outsC, Nat.zero_add, Nat.reduceAdd, Nat.reduceSub, Nat.sub_self, ↓reduceIte, if_true, if_false, Bool.false_eq_true, Int.reduceLT, Int.reduceNeg, Int.reducePow, Bool.not_true, Bool.not_false, decide_true, decide_false, nn_n, nn_b, nn_i, nn_s, nn_l, nn_t, k_isN, k_notN, argsC, backC, setV_0, setV_s, fr_n, fr_i, fr_o, fr_j, jk_s, bind_n, bind_t, bind_0, bind_s, u_ty, getX, wipeOk, wipeF, unwipe, List.all_cons, List.all_nil, List.foldr_cons, List.foldr_nil, Bool.and_true, Bool.true_and, lendI, itemsD, unlend, outI, q_pow18] at h1
  simp only [bd__law_rows_2, evSs, evS, evE, evEs, evO, evIfs, evF, testE, getO, getP, getV_eq, getX, setC, rd, rdAll, sl_0, sl_s, Option.bind_some, Option.map_some, Option.bind_none, Option.map_none, List.set_cons_zero, List.set_cons_succ, q_add, q_sub, q_mod, q_fdiv, q_mulr, q_adds, q_addl, q_addt, g_add, g_sub, g_adds, b_len_l, b_len_t, b_len_s, b_int_i, b_abs_i, b_tup_l, b_tup_t, k_lt, k_gt, k_le, k_ge, w_at, w_put, w_draws, List.length_map, startE, List.map_cons, List.map_nil, flIn, List.length_cons, List.length_nil, List.replicate, List.append_nil, List.cons_append, List.nil_append, outsC, Nat.zero_add, Nat.reduceAdd, Nat.reduceSub, Nat.sub_self, ↓reduceIte, if_true, if_false, Bool.false_eq_true, Int.reduceLT, Int.reduceNeg, Int.reducePow, Bool.not_true, Bool.not_false, decide_true, decide_false, nn_n, nn_b, nn_i, nn_s, nn_l, nn_t, k_isN, k_notN, argsC, backC, setV_0, setV_s, fr_n, fr_i, fr_o, fr_j, jk_s, bind_n, bind_t, bind_0, bind_s, u_ty, getX, wipeOk, wipeF, unwipe, List.all_cons, List.all_nil, List.foldr_cons, List.foldr_nil, Bool.and_true, Bool.true_and, lendI, itemsD, unlend, outI, q_pow18, h1]
theorem e_rows {sg : List Nat} (hs : sg.length ≤ 2) (n : Nat) (hn : n ≤ 3) : F__law_rows [(.imm, .list (sg.map eC)), (.imm, eI n)] = some ((false, .list ((rowsN sg n).map eS)), []) := by
  obtain ⟨e', h1, k3, k4, k5, h2⟩ := for_pre (f := fun d e => (bindT (.n 3) d e).bind fun e1 => evSs P__law_rows bd__law_rows_2 e1) eI (fun p e => ∃ k3 k4 k5, e = wE sg n (some (.list ((rowsN sg p.length).map eS))) k3 k4 k5) (List.range n) [] (wE sg n (some (.list (([[]] : List (List Nat)).map eS))) none none none)
    ⟨none, none, none, rfl⟩ (fun p a q e he ⟨k3, k4, k5, hk⟩ => by
      subst hk
      have hp : p.length ≤ 3 := by
        have := congrArg List.length he
        simp at this
        omega
      have h4 := rowsN_few hs p.length
      have h5 : 2 ^ p.length ≤ 2 ^ 3 := Nat.pow_le_pow_right (by decide) hp
      obtain ⟨k, h⟩ := rows_2 hs n (rowsN sg p.length) (by omega) (fun r hr => by rw [rowsN_size hr]; omega) (eI a) k3 k4 k5
      refine ⟨_, h, some (eI a), some (.list ((rowsN sg (p.length + 1)).map eS)), k, ?_⟩
      rw [List.length_append]; rfl)
  subst h2
  rw [List.nil_append, List.length_range] at h1
  have rr := rng_e (n := n) (by omega)
  have s0 : ([PyData.str ""] : List D) = ([[]] : List (List Nat)).map eS := by rw [S_nil]; rfl
  generalize ([[]] : List (List Nat)).map eS = E0 at *
  unfold wE at h1
  generalize (rowsN sg n).map eS = RR at *
  generalize (List.range n).map eI = LL at *
  generalize sg.map eC = A4 at *
  have j0 : jk none = none := rfl
  rw [j0] at h1
  try simp only [evSs, evS, evE, evEs, evO, evIfs, evF, testE, getO, getP, getV_eq, getX, setC, rd, rdAll, sl_0, sl_s, Option.bind_some, Option.map_some, Option.bind_none, Option.map_none, List.set_cons_zero, List.set_cons_succ, q_add, q_sub, q_mod, q_fdiv, q_mulr, q_adds, q_addl, q_addt, g_add, g_sub, g_adds, b_len_l, b_len_t, b_len_s, b_int_i, b_abs_i, b_tup_l, b_tup_t, k_lt, k_gt, k_le, k_ge, w_at, w_put, w_draws, List.length_map, startE, List.map_cons, List.map_nil, flIn, List.length_cons, List.length_nil, List.replicate, List.append_nil, List.cons_append, List.nil_append, outsC, Nat.zero_add, Nat.reduceAdd, Nat.reduceSub, Nat.sub_self, ↓reduceIte, if_true, if_false, Bool.false_eq_true, Int.reduceLT, Int.reduceNeg, Int.reducePow, Bool.not_true, Bool.not_false, decide_true, decide_false, nn_n, nn_b, nn_i, nn_s, nn_l, nn_t, k_isN, k_notN, argsC, backC, setV_0, setV_s, fr_n, fr_i, fr_o, fr_j, jk_s, bind_n, bind_t, bind_0, bind_s, u_ty, getX, wipeOk, wipeF, unwipe, List.all_cons, List.all_nil, List.foldr_cons, List.foldr_nil, Bool.and_true, Bool.true_and, lendI, itemsD, unlend, outI, q_pow18] at h1
  unfold F__law_rows evFn
  simp only [ir__law_rows, evSs, evS, evE, evEs, evO, evIfs, evF, testE, getO, getP, getV_eq, getX, setC, rd, rdAll, sl_0, sl_s, Option.bind_some, Option.map_some, Option.bind_none, Option.map_none, List.set_cons_zero, List.set_cons_succ, q_add, q_sub, q_mod, q_fdiv, q_mulr, q_adds, q_addl, q_addt, g_add, g_sub, g_adds, b_len_l, b_len_t, b_len_s, b_int_i, b_abs_i, b_tup_l, b_tup_t, k_lt, k_gt, k_le, k_ge, w_at, w_put, w_draws, List.length_map, startE, List.map_cons, List.map_nil, flIn, List.length_cons, List.length_nil, List.replicate, List.append_nil, List.cons_append, List.nil_append, outsC, Nat.zero_add, Nat.reduceAdd, Nat.reduceSub, Nat.sub_self, ↓reduceIte, if_true, if_false, Bool.false_eq_true, Int.reduceLT, Int.reduceNeg, Int.reducePow, Bool.not_true, Bool.not_false, decide_true, decide_false, nn_n, nn_b, nn_i, nn_s, nn_l, nn_t, k_isN, k_notN, argsC, backC, setV_0, setV_s, fr_n, fr_i, fr_o, fr_j, jk_s, bind_n, bind_t, bind_0, bind_s, u_ty, getX, wipeOk, wipeF, unwipe, List.all_cons, List.all_nil, List.foldr_cons, List.foldr_nil, Bool.and_true, Bool.true_and, lendI, itemsD, unlend, outI, q_pow18, s0, rr, h1]
/-! ### the signs in order -/
def sgs (M : Mc) : List Nat := [97, 98].filter fun c => M.arr.any fun a => a.2.1 == c
theorem sgs_two (M : Mc) : (sgs M).length ≤ 2 := List.length_filter_le _ _
def uqN (xs : List Nat) : List Nat := xs.foldl (fun acc x => if acc.contains x = true then acc else x :: acc) []
theorem uq_go : ∀ (xs acc : List Nat), (xs.map eC).foldl (fun acc x => if (acc.any fun y => PyData.eqv y x) = true then acc else x :: acc) (acc.map eC) = (xs.foldl (fun acc x => if acc.contains x = true then acc else x :: acc) acc).map eC
  | [], _ => rfl
  | x :: xs, acc => by
    rw [List.map_cons, List.foldl_cons, List.foldl_cons]
    have e : ((acc.map eC).any fun y => PyData.eqv y (eC x)) = acc.contains x := by
      rw [List.any_map, List.contains_eq_any_beq]
      congr 1
      funext y
      show PyData.eqv (eC y) (eC x) = _
      rw [eqv_ss, C_beq, Bool.eq_iff_iff, beq_iff_eq, beq_iff_eq]
      exact eq_comm
    rw [e]
    by_cases c : acc.contains x = true
    · rw [if_pos c, if_pos c]; exact uq_go xs acc
    · rw [if_neg c, if_neg c]; exact uq_go xs (x :: acc)
theorem uq_mem : ∀ (xs acc : List Nat) (y : Nat), y ∈ xs.foldl (fun acc x => if acc.contains x = true then acc else x :: acc) acc ↔ y ∈ acc ∨ y ∈ xs
  | [], acc, y => by simp
  | x :: xs, acc, y => by
    rw [List.foldl_cons, uq_mem xs _ y]
    by_cases c : acc.contains x = true
    · rw [if_pos c]
      have : x ∈ acc := by simpa using c
      simp only [List.mem_cons]
      constructor
      · rintro (h | h)
        · exact .inl h
        · exact .inr (.inr h)
      · rintro (h | rfl | h)
        · exact .inl h
        · exact .inl this
        · exact .inr h
    · rw [if_neg c]
      simp only [List.mem_cons]
      constructor
      · rintro ((h | h) | h)
        · exact .inr (.inl h)
        · exact .inl h
        · exact .inr (.inr h)
      · rintro (h | h | h)
        · exact .inl (.inr h)
        · exact .inl (.inl h)
        · exact .inr h
theorem uq_nd : ∀ (xs acc : List Nat), acc.Nodup → (xs.foldl (fun acc x => if acc.contains x = true then acc else x :: acc) acc).Nodup
  | [], acc, h => h
  | x :: xs, acc, h => by
    rw [List.foldl_cons]
    apply uq_nd xs
    by_cases c : acc.contains x = true
    · rw [if_pos c]; exact h
    · rw [if_neg c]
      exact List.nodup_cons.mpr ⟨by simpa using c, h⟩
theorem lt_C (a b : Nat) : W.dataLt (eC a) (eC b) = decide (a < b) := by
  rw [S_lt]
  rw [Bool.eq_iff_iff, decide_eq_true_eq, decide_eq_true_eq, List.cons_lt_cons_iff]
  simp
theorem srt_sgs {M : Mc} (w : Ok M) : ssetD (.list ((M.arr.map fun a => a.2.1).map eC)) = some (.list ((sgs M).map eC)) := by
  have ok : setOk ((M.arr.map fun a => a.2.1).map eC) = true := by
    unfold setOk
    rw [Bool.and_eq_true, Bool.and_eq_true, decide_eq_true_eq]
    refine ⟨⟨?_, srt_ok (fun _ _ => rfl) (fun _ => rfl) (.inr fun _ => rfl) _⟩, ?_⟩
    · rw [List.all_map, List.all_eq_true]
      intro x _
      rfl
    · have := w.al
      simp; omega
  show (if _ then _ else _) = _
  rw [if_pos ok]
  have hu : uqD ((M.arr.map fun a => a.2.1).map eC) = (uqN (M.arr.map fun a => a.2.1)).map eC := uq_go _ []
  rw [hu]
  have mem : ∀ y, y ∈ uqN (M.arr.map fun a => a.2.1) ↔ y ∈ sgs M := fun y => by
    unfold uqN sgs
    rw [uq_mem]
    simp only [List.not_mem_nil, false_or, List.mem_map, List.mem_filter, List.any_eq_true, List.mem_cons, or_false, beq_iff_eq]
    constructor
    · rintro ⟨a, h1, h2⟩
      exact ⟨by rw [← h2]; exact (w.am a h1).2.1, a, h1, h2⟩
    · rintro ⟨_, h⟩
      exact h
  have nd : (sgs M).Nodup := List.Nodup.sublist List.filter_sublist (by decide)
  have pm : (uqN (M.arr.map fun a => a.2.1)).Perm (sgs M) := (List.perm_ext_iff_of_nodup (uq_nd _ [] List.nodup_nil) nd).mpr mem
  rw [srt_eq (pm.map eC) fun x hx y hy h1 h2 => ?_]
  · congr 2
    unfold srtD
    refine List.mergeSort_of_pairwise ?_
    rw [List.pairwise_map]
    have p2 : ([97, 98] : List Nat).Pairwise fun a b => dle (eC a) (eC b) = true := by
      refine List.pairwise_cons.mpr ⟨fun b hb => ?_, by simp⟩
      rw [List.mem_singleton.mp hb]
      show (!W.dataLt (eC 98) (eC 97)) = true
      rw [lt_C]; rfl
    exact List.Pairwise.sublist List.filter_sublist p2
  · obtain ⟨a, _, rfl⟩ := List.mem_map.mp hx
    obtain ⟨b, _, rfl⟩ := List.mem_map.mp hy
    rw [lt_C] at h1 h2
    have h1 := of_decide_eq_false h1
    have h2 := of_decide_eq_false h2
    rw [show a = b by omega]
end Lp
namespace Lp
open PySem PySem.Spec L2 Dv Lw
/-! ### the rows with their counts -/
def v0 (M : Mc) : List Nat := (List.range M.many).map fun s => if M.beg.contains s = true then 1 else 0
def stq (v : List Nat) (c : Nat) (lt : List Nat) (a : Ar) : List Nat := if (a.2.1 == c) = true then lt.set a.2.2.2 (lt.getD a.2.2.2 0 + v.getD a.1 0) else lt
def stV (M : Mc) (v : List Nat) (c : Nat) : List Nat := M.arr.foldl (stq v c) (List.replicate M.many 0)
def stR (M : Mc) (p : List Nat × List Nat) (T : TV) (c : Nat) : TV := sdV T (stV M p.2 c, p.1 ++ [c])
def stT (M : Mc) (sg : List Nat) (T : TV) (p : List Nat × List Nat) : TV := sg.foldl (stR M p) T
def nxT (M : Mc) (sg : List Nat) (rows : List (List Nat × List Nat)) : TV := rows.foldl (stT M sg) []
def tabN (M : Mc) (sg : List Nat) : Nat → List (List Nat × List Nat)
  | 0 => [([], v0 M)]
  | n + 1 => (nxT M sg (tabN M sg n)).map fun q => (q.2, q.1)
def eRw (p : List Nat × List Nat) : D := .tuple [eS p.1, eV p.2]
theorem stq_len (v : List Nat) (c : Nat) (lt : List Nat) (a : Ar) : (stq v c lt a).length = lt.length := by
  unfold stq
  split
  · rw [List.length_set]
  · rfl
theorem stqs_len (v : List Nat) (c : Nat) : ∀ (p : List Ar) (lt : List Nat), (p.foldl (stq v c) lt).length = lt.length
  | [], _ => rfl
  | a :: p, lt => by rw [List.foldl_cons, stqs_len v c p, stq_len]
theorem stV_len (M : Mc) (v : List Nat) (c : Nat) : (stV M v c).length = M.many := by
  unfold stV
  rw [stqs_len, List.length_replicate]
theorem stR_len (M : Mc) (p : List Nat × List Nat) (T : TV) (c : Nat) : (stR M p T c).length ≤ T.length + 1 := sdV_len _ _
theorem stRs_len (M : Mc) (p : List Nat × List Nat) : ∀ (l : List Nat) (T : TV), (l.foldl (stR M p) T).length ≤ T.length + l.length
  | [], _ => Nat.le_refl _
  | c :: l, T => by
    have := stRs_len M p l (stR M p T c)
    have := stR_len M p T c
    rw [List.foldl_cons, List.length_cons]
    omega
theorem stT_len (M : Mc) {sg : List Nat} (hs : sg.length ≤ 2) (T : TV) (p : List Nat × List Nat) : (stT M sg T p).length ≤ T.length + 2 := by
  have := stRs_len M p sg T
  unfold stT
  omega
theorem stTs_len (M : Mc) {sg : List Nat} (hs : sg.length ≤ 2) : ∀ (l : List (List Nat × List Nat)) (T : TV), (l.foldl (stT M sg) T).length ≤ T.length + 2 * l.length
  | [], _ => Nat.le_refl _
  | c :: l, T => by
    have := stTs_len M hs l (stT M sg T c)
    have := stT_len M hs T c
    rw [List.foldl_cons, List.length_cons]
    omega
theorem tabN_few (M : Mc) {sg : List Nat} (hs : sg.length ≤ 2) : ∀ n : Nat, (tabN M sg n).length ≤ 2 ^ n
  | 0 => Nat.le_refl _
  | n + 1 => by
    have h1 := tabN_few M hs n
    have h2 := stTs_len M hs (tabN M sg n) []
    rw [List.length_nil] at h2
    rw [tabN, List.length_map, Nat.pow_succ]
    unfold nxT
    omega
/-- every table is of rows of one size and counts of all states -/
def TOk (M : Mc) (n : Nat) (T : TV) : Prop := (T.map (·.1)).Nodup ∧ ∀ q ∈ T, q.1.length = M.many ∧ q.2.length = n
theorem sdV_mem {T : TV} {p q : List Nat × List Nat} (h : q ∈ sdV T p) : q ∈ T ∨ q = p := by
  unfold sdV at h
  split at h
  · exact .inl h
  · simpa using h
theorem stR_ok {M : Mc} {n : Nat} {p : List Nat × List Nat} (hp : p.1.length = n) {T : TV} (h : TOk M (n + 1) T) (c : Nat) : TOk M (n + 1) (stR M p T c) := by
  refine ⟨sdV_nd h.1, fun q hq => ?_⟩
  rcases sdV_mem hq with hq | rfl
  · exact h.2 q hq
  · exact ⟨stV_len _ _ _, by simp [hp]⟩
theorem stRs_ok {M : Mc} {n : Nat} {p : List Nat × List Nat} (hp : p.1.length = n) : ∀ (l : List Nat) {T : TV}, TOk M (n + 1) T → TOk M (n + 1) (l.foldl (stR M p) T)
  | [], _, h => h
  | c :: l, _, h => stRs_ok hp l (stR_ok hp h c)
theorem stTs_ok {M : Mc} {n : Nat} {sg : List Nat} : ∀ (l : List (List Nat × List Nat)) {T : TV}, (∀ p ∈ l, p.1.length = n) → TOk M (n + 1) T → TOk M (n + 1) (l.foldl (stT M sg) T)
  | [], _, _, h => h
  | p :: l, _, hp, h => stTs_ok l (fun q hq => hp q (by simp [hq])) (stRs_ok (hp p (by simp)) sg h)
theorem tabN_ok (M : Mc) (sg : List Nat) : ∀ n : Nat, ∀ p ∈ tabN M sg n, p.1.length = n ∧ p.2.length = M.many
  | 0, p, h => by
    rw [tabN, List.mem_singleton] at h
    subst h
    exact ⟨rfl, by unfold v0; simp⟩
  | n + 1, p, h => by
    rw [tabN] at h
    obtain ⟨q, hq, rfl⟩ := List.mem_map.mp h
    have := (stTs_ok (M := M) (n := n) (sg := sg) (tabN M sg n) (T := []) (fun p hp => (tabN_ok M sg n p hp).1) ⟨List.nodup_nil, by simp⟩).2 q hq
    exact ⟨this.2, this.1⟩
def yE (M : Mc) (n : Nat) (s2 s3 s4 s5 s6 s7 : Option D) (s8 : Sl) (s9 s10 : Option D) (s11 : Sl) (s12 s13 s14 : Option D) : En :=
  [some (.imm, eM M), some (.imm, eI n), jk s2, jk s3, jk s4, jk s5, jk s6, jk s7, s8, jk s9, jk s10, s11, jk s12, jk s13, jk s14, none, none]
theorem most_1 {M : Mc} (n : Nat) (s2 s3 s4 s6 : Option D) (s8 : Sl) (v : List Nat) (c : Nat) (lt : List Nat) (hv : v.length = M.many) (hl : lt.length = M.many) (a : Ar) (ha : a.1 < M.many ∧ a.2.2.2 < M.many) (s12 s13 s14 : Option D) :
    ((bindT (.t [.n 12, .n 13, .n 4, .n 14]) (eA a) (yE M n s2 s3 s4 none s6 (some (eV v)) s8 none (some (eC c)) (some (.own, .list (lt.map eI))) s12 s13 s14)).bind fun e1 => evSs P_most_runs bd_most_runs_2 e1) =
      some (.nx (yE M n s2 s3 (some (eS a.2.2.1)) none s6 (some (eV v)) s8 none (some (eC c)) (some (.own, .list ((stq v c lt a).map eI))) (some (eI a.1)) (some (eC a.2.1)) (some (eI a.2.2.2)))) := by
  have h1 : cmp2 .eq (eC a.2.1) (eC c) = some (a.2.1 == c) := by rw [eq_ss, C_beq]
  have h2 : idxD (.list (lt.map eI)) (eI a.2.2.2) = some (eI (lt.getD a.2.2.2 0)) := idx_n (by omega)
  have h3 : idxD (eV v) (eI a.1) = some (eI (v.getD a.1 0)) := idx_nt (by omega)
  have h4 := add_n (lt.getD a.2.2.2 0) (v.getD a.1 0)
  have h5 := put_l (xs := lt) (k := a.2.2.2) (v := lt.getD a.2.2.2 0 + v.getD a.1 0) (by omega)
  unfold yE eA
  have j0 : jk none = none := rfl
  rw [j0]
  by_cases e1 : (a.2.1 == c) = true
  · rw [show stq v c lt a = lt.set a.2.2.2 (lt.getD a.2.2.2 0 + v.getD a.1 0) by unfold stq; rw [if_pos e1]]
    rw [e1] at h1
    generalize (lt.set a.2.2.2 (lt.getD a.2.2.2 0 + v.getD a.1 0)).map eI = L3 at *
    generalize eI (lt.getD a.2.2.2 0 + v.getD a.1 0) = X3 at *
    generalize eI (lt.getD a.2.2.2 0) = X1 at *
    generalize eI (v.getD a.1 0) = X2 at *
    generalize lt.map eI = L1 at *
    generalize eV v = VV at *
    generalize eC c = CC at *
    generalize eC a.2.1 = CA at *
    simp only [bd_most_runs_2, evSs, evS, evE, evEs, evO, evIfs, evF, testE, getO, getP, getV_eq, getX, setC, rd, rdAll, sl_0, sl_s, Option.bind_some, Option.map_some, Option.bind_none, Option.map_none, List.set_cons_zero, List.set_cons_succ, q_add, q_sub, q_mod, q_fdiv, q_mulr, q_adds, q_addl, q_addt, g_add, g_sub, g_adds, b_len_l, b_len_t, b_len_s, b_int_i, b_abs_i, b_tup_l, b_tup_t, k_lt, k_gt, k_le, k_ge, w_at, w_put, w_draws, List.length_map, startE, List.map_cons, List.map_nil, flIn, List.length_cons, List.length_nil, List.replicate, List.append_nil, List.cons_append, List.nil_append, outsC, Nat.zero_add, Nat.reduceAdd, Nat.reduceSub, Nat.sub_self, ↓reduceIte, if_true, if_false, Bool.false_eq_true, Int.reduceLT, Int.reduceNeg, Int.reducePow, Bool.not_true, Bool.not_false, decide_true, decide_false, nn_n, nn_b, nn_i, nn_s, nn_l, nn_t, k_isN, k_notN, argsC, backC, setV_0, setV_s, fr_n, fr_i, fr_o, fr_j, jk_s, bind_n, bind_t, bind_0, bind_s, u_ty, getX, wipeOk, wipeF, unwipe, List.all_cons, List.all_nil, List.foldr_cons, List.foldr_nil, Bool.and_true, Bool.true_and, lendI, itemsD, unlend, outI, q_pow18, h1, h2, h3, h4, h5]
  · rw [show stq v c lt a = lt by unfold stq; rw [if_neg e1]]
    have e1 : (a.2.1 == c) = false := by simpa using e1
    rw [e1] at h1
    generalize lt.map eI = L1 at *
    generalize eV v = VV at *
    generalize eC c = CC at *
    generalize eC a.2.1 = CA at *
    simp only [bd_most_runs_2, evSs, evS, evE, evEs, evO, evIfs, evF, testE, getO, getP, getV_eq, getX, setC, rd, rdAll, sl_0, sl_s, Option.bind_some, Option.map_some, Option.bind_none, Option.map_none, List.set_cons_zero, List.set_cons_succ, q_add, q_sub, q_mod, q_fdiv, q_mulr, q_adds, q_addl, q_addt, g_add, g_sub, g_adds, b_len_l, b_len_t, b_len_s, b_int_i, b_abs_i, b_tup_l, b_tup_t, k_lt, k_gt, k_le, k_ge, w_at, w_put, w_draws, List.length_map, startE, List.map_cons, List.map_nil, flIn, List.length_cons, List.length_nil, List.replicate, List.append_nil, List.cons_append, List.nil_append, outsC, Nat.zero_add, Nat.reduceAdd, Nat.reduceSub, Nat.sub_self, ↓reduceIte, if_true, if_false, Bool.false_eq_true, Int.reduceLT, Int.reduceNeg, Int.reducePow, Bool.not_true, Bool.not_false, decide_true, decide_false, nn_n, nn_b, nn_i, nn_s, nn_l, nn_t, k_isN, k_notN, argsC, backC, setV_0, setV_s, fr_n, fr_i, fr_o, fr_j, jk_s, bind_n, bind_t, bind_0, bind_s, u_ty, getX, wipeOk, wipeF, unwipe, List.all_cons, List.all_nil, List.foldr_cons, List.foldr_nil, Bool.and_true, Bool.true_and, lendI, itemsD, unlend, outI, q_pow18, h1]
theorem most_2 {M : Mc} (w : Ok M) (n : Nat) (s2 s3 s4 : Option D) (r v : List Nat) (hr : r.length ≤ 1000) (hv : v.length = M.many) (T : TV) (hT : T.length ≤ 1000) (c : Nat) (s10 : Option D) (s11 : Option (List Nat)) (s12 s13 s14 : Option D) :
    ∃ k4 k11 k12 k13 k14, ((bindT (.n 10) (eC c) (yE M n s2 s3 s4 none (some (eS r)) (some (eV v)) (some (.own, eTV T)) none s10 (s11.map fun l => (.own, .list (l.map eI))) s12 s13 s14)).bind fun e1 => evSs P_most_runs bd_most_runs_3 e1) =
      some (.nx (yE M n s2 s3 k4 none (some (eS r)) (some (eV v)) (some (.own, eTV (stR M (r, v) T c))) none (some (eC c)) ((k11 : Option (List Nat)).map fun l => (.own, .list (l.map eI))) k12 k13 k14)) := by
  obtain ⟨e', h1, k4, k12, k13, k14, h2⟩ := for_pre (f := fun d e => (bindT (.t [.n 12, .n 13, .n 4, .n 14]) d e).bind fun e1 => evSs P_most_runs bd_most_runs_2 e1) eA
    (fun p e => ∃ k4 k12 k13 k14, e = yE M n s2 s3 k4 none (some (eS r)) (some (eV v)) (some (.own, eTV T)) none (some (eC c)) (some (.own, .list ((p.foldl (stq v c) (List.replicate M.many 0)).map eI))) k12 k13 k14) M.arr []
    (yE M n s2 s3 s4 none (some (eS r)) (some (eV v)) (some (.own, eTV T)) none (some (eC c)) (some (.own, .list ((List.replicate M.many 0).map eI))) s12 s13 s14) ⟨s4, s12, s13, s14, rfl⟩ (fun p a q e he ⟨k4, k12, k13, k14, hk⟩ => by
      subst hk
      rw [List.nil_append] at he
      have ha := w.am a (by rw [he]; simp)
      refine ⟨_, most_1 n s2 s3 k4 (some (eS r)) _ v c _ hv (by rw [stqs_len, List.length_replicate]) a ⟨ha.1, ha.2.2⟩ k12 k13 k14, some (eS a.2.2.1), some (eI a.1), some (eC a.2.1), some (eI a.2.2.2), ?_⟩
      rw [List.foldl_append]; rfl)
  subst h2
  rw [List.nil_append] at h1
  change forL _ _ _ = some (.nx (yE M n s2 s3 k4 none (some (eS r)) (some (eV v)) (some (.own, eTV T)) none (some (eC c)) (some (.own, .list ((stV M v c).map eI))) k12 k13 k14)) at h1
  have i0 := M_i (M := M).1
  have i3 := M_i (M := M).2.2.2
  have hrep := rep_0 (n := M.many) (by have := w.few; omega)
  have htup : blt .tuple [.list ((stV M v c).map eI)] = some (eV (stV M v c)) := rfl
  have hadd : op2 .add (eS r) (eC c) = some (eS (r ++ [c])) := q_addS (by simp; omega)
  obtain ⟨dd, hsd⟩ := sd_v (T := T) (stV M v c) (r ++ [c]) (by omega)
  have hty : muTy .setdefault (eTV T) = true := rfl
  refine ⟨k4, some (stV M v c), k12, k13, k14, ?_⟩
  unfold stR
  rw [Option.map_some]
  unfold yE at h1 ⊢
  have j0 : jk none = none := rfl
  rw [j0] at h1 ⊢
  generalize eTV (sdV T (stV M v c, r ++ [c])) = T2 at *
  generalize eTV T = T1 at *
  generalize eV (stV M v c) = V2 at *
  generalize eV v = V1 at *
  generalize (stV M v c).map eI = L2 at *
  generalize (List.replicate M.many 0).map eI = L1 at *
  generalize M.arr.map eA = LA at *
  generalize eS (r ++ [c]) = R2 at *
  generalize eS r = R1 at *
  generalize eC c = CC at *
  generalize eM M = MM at *
  try simp only [evSs, evS, evE, evEs, evO, evIfs, evF, testE, getO, getP, getV_eq, getX, setC, rd, rdAll, sl_0, sl_s, Option.bind_some, Option.map_some, Option.bind_none, Option.map_none, List.set_cons_zero, List.set_cons_succ, q_add, q_sub, q_mod, q_fdiv, q_mulr, q_adds, q_addl, q_addt, g_add, g_sub, g_adds, b_len_l, b_len_t, b_len_s, b_int_i, b_abs_i, b_tup_l, b_tup_t, k_lt, k_gt, k_le, k_ge, w_at, w_put, w_draws, List.length_map, startE, List.map_cons, List.map_nil, flIn, List.length_cons, List.length_nil, List.replicate, List.append_nil, List.cons_append, List.nil_append, outsC, Nat.zero_add, Nat.reduceAdd, Nat.reduceSub, Nat.sub_self, ↓reduceIte, if_true, if_false, Bool.false_eq_true, Int.reduceLT, Int.reduceNeg, Int.reducePow, Bool.not_true, Bool.not_false, decide_true, decide_false, nn_n, nn_b, nn_i, nn_s, nn_l, nn_t, k_isN, k_notN, argsC, backC, setV_0, setV_s, fr_n, fr_i, fr_o, fr_j, jk_s, bind_n, bind_t, bind_0, bind_s, u_ty, getX, wipeOk, wipeF, unwipe, List.all_cons, List.all_nil, List.foldr_cons, List.foldr_nil, Bool.and_true, Bool.true_and, lendI, itemsD, unlend, outI, q_pow18] at h1
  cases s11 <;> simp only [bd_most_runs_3, evSs, evS, evE, evEs, evO, evIfs, evF, testE, getO, getP, getV_eq, getX, setC, rd, rdAll, sl_0, sl_s, Option.bind_some, Option.map_some, Option.bind_none, Option.map_none, List.set_cons_zero, List.set_cons_succ, q_add, q_sub, q_mod, q_fdiv, q_mulr, q_adds, q_addl, q_addt, g_add, g_sub, g_adds, b_len_l, b_len_t, b_len_s, b_int_i, b_abs_i, b_tup_l, b_tup_t, k_lt, k_gt, k_le, k_ge, w_at, w_put, w_draws, List.length_map, startE, List.map_cons, List.map_nil, flIn, List.length_cons, List.length_nil, List.replicate, List.append_nil, List.cons_append, List.nil_append, outsC, Nat.zero_add, Nat.reduceAdd, Nat.reduceSub, Nat.sub_self, ↓reduceIte, if_true, if_false, Bool.false_eq_true, Int.reduceLT, Int.reduceNeg, Int.reducePow, Bool.not_true, Bool.not_false, decide_true, decide_false, nn_n, nn_b, nn_i, nn_s, nn_l, nn_t, k_isN, k_notN, argsC, backC, setV_0, setV_s, fr_n, fr_i, fr_o, fr_j, jk_s, bind_n, bind_t, bind_0, bind_s, u_ty, getX, wipeOk, wipeF, unwipe, List.all_cons, List.all_nil, List.foldr_cons, List.foldr_nil, Bool.and_true, Bool.true_and, lendI, itemsD, unlend, outI, q_pow18, Option.map_none, Option.map_some, i0, hrep, i3, h1, hty, htup, hadd, hsd]
end Lp
namespace Lp
open PySem PySem.Spec L2 Dv Lw
abbrev oL (s : Option (List Nat)) : Sl := s.map fun l => (.own, .list (l.map eI))
theorem most_3 {M : Mc} (w : Ok M) {sg : List Nat} (hs : sg.length ≤ 2) (n : Nat) (s3 s4 : Option D) (p : List Nat × List Nat) (hr : p.1.length ≤ 1000) (hv : p.2.length = M.many) (T : TV) (hT : T.length ≤ 900) (s6 s7 s10 : Option D) (s11 : Option (List Nat)) (s12 s13 s14 : Option D) :
    ∃ k4 k10 k11 k12 k13 k14, ((bindT (.t [.n 6, .n 7]) (eRw p) (yE M n (some (.list (sg.map eC))) s3 s4 none s6 s7 (some (.own, eTV T)) none s10 (oL s11) s12 s13 s14)).bind fun e1 => evSs P_most_runs bd_most_runs_4 e1) =
      some (.nx (yE M n (some (.list (sg.map eC))) s3 k4 none (some (eS p.1)) (some (eV p.2)) (some (.own, eTV (stT M sg T p))) none k10 (oL k11) k12 k13 k14)) := by
  obtain ⟨e', h1, k4, k10, k11, k12, k13, k14, h2⟩ := for_pre (f := fun d e => (bindT (.n 10) d e).bind fun e1 => evSs P_most_runs bd_most_runs_3 e1) eC
    (fun q e => ∃ k4 k10 k11 k12 k13 k14, e = yE M n (some (.list (sg.map eC))) s3 k4 none (some (eS p.1)) (some (eV p.2)) (some (.own, eTV (q.foldl (stR M p) T))) none k10 (oL k11) k12 k13 k14) sg []
    (yE M n (some (.list (sg.map eC))) s3 s4 none (some (eS p.1)) (some (eV p.2)) (some (.own, eTV T)) none s10 (oL s11) s12 s13 s14) ⟨s4, s10, s11, s12, s13, s14, rfl⟩ (fun q a q2 e he ⟨k4, k10, k11, k12, k13, k14, hk⟩ => by
      subst hk
      rw [List.nil_append] at he
      have hq : q.length ≤ sg.length := by rw [he]; simp
      have h3 := stRs_len M p q T
      obtain ⟨a4, a11, a12, a13, a14, h⟩ := most_2 w n (some (.list (sg.map eC))) s3 k4 p.1 p.2 hr hv (q.foldl (stR M p) T) (by omega) a k10 k11 k12 k13 k14
      refine ⟨_, h, a4, some (eC a), a11, a12, a13, a14, ?_⟩
      rw [List.foldl_append]; rfl)
  subst h2
  rw [List.nil_append] at h1
  change forL _ _ _ = some (.nx (yE M n (some (.list (sg.map eC))) s3 k4 none (some (eS p.1)) (some (eV p.2)) (some (.own, eTV (stT M sg T p))) none k10 (oL k11) k12 k13 k14)) at h1
  refine ⟨k4, k10, k11, k12, k13, k14, ?_⟩
  unfold yE at h1 ⊢
  unfold eRw
  have j0 : jk none = none := rfl
  rw [j0] at h1 ⊢
  generalize eTV (stT M sg T p) = T2 at *
  generalize eTV T = T1 at *
  generalize eV p.2 = V1 at *
  generalize eS p.1 = R1 at *
  generalize sg.map eC = SG at *
  generalize eM M = MM at *
  generalize oL k11 = O2 at *
  generalize oL s11 = O1 at *
  try simp only [evSs, evS, evE, evEs, evO, evIfs, evF, testE, getO, getP, getV_eq, getX, setC, rd, rdAll, sl_0, sl_s, Option.bind_some, Option.map_some, Option.bind_none, Option.map_none, List.set_cons_zero, List.set_cons_succ, q_add, q_sub, q_mod, q_fdiv, q_mulr, q_adds, q_addl, q_addt, g_add, g_sub, g_adds, b_len_l, b_len_t, b_len_s, b_int_i, b_abs_i, b_tup_l, b_tup_t, k_lt, k_gt, k_le, k_ge, w_at, w_put, w_draws, List.length_map, startE, List.map_cons, List.map_nil, flIn, List.length_cons, List.length_nil, List.replicate, List.append_nil, List.cons_append, List.nil_append, outsC, Nat.zero_add, Nat.reduceAdd, Nat.reduceSub, Nat.sub_self, ↓reduceIte, if_true, if_false, Bool.false_eq_true, Int.reduceLT, Int.reduceNeg, Int.reducePow, Bool.not_true, Bool.not_false, decide_true, decide_false, nn_n, nn_b, nn_i, nn_s, nn_l, nn_t, k_isN, k_notN, argsC, backC, setV_0, setV_s, fr_n, fr_i, fr_o, fr_j, jk_s, bind_n, bind_t, bind_0, bind_s, u_ty, getX, wipeOk, wipeF, unwipe, List.all_cons, List.all_nil, List.foldr_cons, List.foldr_nil, Bool.and_true, Bool.true_and, lendI, itemsD, unlend, outI, q_pow18] at h1
  simp only [bd_most_runs_4, evSs, evS, evE, evEs, evO, evIfs, evF, testE, getO, getP, getV_eq, getX, setC, rd, rdAll, sl_0, sl_s, Option.bind_some, Option.map_some, Option.bind_none, Option.map_none, List.set_cons_zero, List.set_cons_succ, q_add, q_sub, q_mod, q_fdiv, q_mulr, q_adds, q_addl, q_addt, g_add, g_sub, g_adds, b_len_l, b_len_t, b_len_s, b_int_i, b_abs_i, b_tup_l, b_tup_t, k_lt, k_gt, k_le, k_ge, w_at, w_put, w_draws, List.length_map, startE, List.map_cons, List.map_nil, flIn, List.length_cons, List.length_nil, List.replicate, List.append_nil, List.cons_append, List.nil_append, outsC, Nat.zero_add, Nat.reduceAdd, Nat.reduceSub, Nat.sub_self, ↓reduceIte, if_true, if_false, Bool.false_eq_true, Int.reduceLT, Int.reduceNeg, Int.reducePow, Bool.not_true, Bool.not_false, decide_true, decide_false, nn_n, nn_b, nn_i, nn_s, nn_l, nn_t, k_isN, k_notN, argsC, backC, setV_0, setV_s, fr_n, fr_i, fr_o, fr_j, jk_s, bind_n, bind_t, bind_0, bind_s, u_ty, getX, wipeOk, wipeF, unwipe, List.all_cons, List.all_nil, List.foldr_cons, List.foldr_nil, Bool.and_true, Bool.true_and, lendI, itemsD, unlend, outI, q_pow18, h1]
theorem keys_v (T : TV) : (T.map eQ).map (·.1) = T.map fun p => eV p.1 := by rw [List.map_map]; rfl
theorem most_4 {M : Mc} (w : Ok M) {sg : List Nat} (hs : sg.length ≤ 2) (n m : Nat) (rows : List (List Nat × List Nat)) (hn : rows.length ≤ 100) (ho : ∀ p ∈ rows, p.1.length = m ∧ p.2.length = M.many) (hm : m ≤ 100) (d : D) (s4 s6 s7 s8 s10 : Option D) (s11 : Option (List Nat)) (s12 s13 s14 : Option D) :
    ∃ k4 k6 k7 k8 k10 k11 k12 k13 k14, ((bindT (.n 4) d (yE M n (some (.list (sg.map eC))) (some (.list (rows.map eRw))) s4 none s6 s7 (jk s8) none s10 (oL s11) s12 s13 s14)).bind fun e1 => evSs P_most_runs bd_most_runs_6 e1) =
      some (.nx (yE M n (some (.list (sg.map eC))) (some (.list (((nxT M sg rows).map fun q => (q.2, q.1)).map eRw))) k4 none k6 k7 (jk k8) none k10 (oL k11) k12 k13 k14)) := by
  obtain ⟨e', h1, k4, k6, k7, k10, k11, k12, k13, k14, h2⟩ := for_pre (f := fun d e => (bindT (.t [.n 6, .n 7]) d e).bind fun e1 => evSs P_most_runs bd_most_runs_4 e1) eRw
    (fun q e => ∃ k4 k6 k7 k10 k11 k12 k13 k14, e = yE M n (some (.list (sg.map eC))) (some (.list (rows.map eRw))) k4 none k6 k7 (some (.own, eTV (q.foldl (stT M sg) []))) none k10 (oL k11) k12 k13 k14) rows []
    (yE M n (some (.list (sg.map eC))) (some (.list (rows.map eRw))) (some d) none s6 s7 (some (.own, .dict [])) none s10 (oL s11) s12 s13 s14) ⟨some d, s6, s7, s10, s11, s12, s13, s14, rfl⟩ (fun q a q2 e he ⟨k4, k6, k7, k10, k11, k12, k13, k14, hk⟩ => by
      subst hk
      rw [List.nil_append] at he
      have hq : q.length ≤ rows.length := by rw [he]; simp
      have ha := ho a (by rw [he]; simp)
      have h3 := stTs_len M hs q []
      rw [List.length_nil] at h3
      obtain ⟨a4, a10, a11, a12, a13, a14, h⟩ := most_3 w hs n (some (.list (rows.map eRw))) k4 a (by omega) ha.2 (q.foldl (stT M sg) []) (by omega) k6 k7 k10 k11 k12 k13 k14
      refine ⟨_, h, a4, some (eS a.1), some (eV a.2), a10, a11, a12, a13, a14, ?_⟩
      rw [List.foldl_append]; rfl)
  subst h2
  rw [List.nil_append] at h1
  change forL _ _ _ = some (.nx (yE M n (some (.list (sg.map eC))) (some (.list (rows.map eRw))) k4 none k6 k7 (some (.own, eTV (nxT M sg rows))) none k10 (oL k11) k12 k13 k14)) at h1
  have ok := stTs_ok (M := M) (n := m) (sg := sg) rows (T := []) (fun p hp => (ho p hp).1) ⟨List.nodup_nil, by simp⟩
  have hlen := stTs_len M hs rows []
  rw [List.length_nil] at hlen
  change TOk M (m + 1) (nxT M sg rows) at ok
  change (nxT M sg rows).length ≤ _ at hlen
  have hlc := lc_mapT (fun p : List Nat × List Nat => eV p.1) (f := fun d e => (bindT (.n 7) d e).bind fun e1 => (evIfs P_most_runs [] e1).bind fun b => if b.1 = true then (evE P_most_runs el_most_runs_5 b.2).map fun y => (some y.1, y.2) else some (none, b.2)) (own := [7])
    (e := yE M n (some (.list (sg.map eC))) (some (.list (rows.map eRw))) k4 none k6 none (some (.imm, eTV (nxT M sg rows))) none k10 (oL k11) k12 k13 k14) (fun q => some (eRw (q.2, q.1))) (nxT M sg rows) (fun q hq => by
      refine ⟨yE M n (some (.list (sg.map eC))) (some (.list (rows.map eRw))) k4 none k6 (some (eV q.1)) (some (.imm, eTV (nxT M sg rows))) none k10 (oL k11) k12 k13 k14, ?_, rfl⟩
      have hi := idx_v ok.1 hq
      unfold yE eRw
      have j0 : jk none = none := rfl
      rw [j0]
      generalize eTV (nxT M sg rows) = T1 at *
      generalize eV q.1 = V1 at *
      generalize eS q.2 = R1 at *
      generalize rows.map eRw = RW at *
      generalize sg.map eC = SG at *
      generalize eM M = MM at *
      simp only [el_most_runs_5, evSs, evS, evE, evEs, evO, evIfs, evF, testE, getO, getP, getV_eq, getX, setC, rd, rdAll, sl_0, sl_s, Option.bind_some, Option.map_some, Option.bind_none, Option.map_none, List.set_cons_zero, List.set_cons_succ, q_add, q_sub, q_mod, q_fdiv, q_mulr, q_adds, q_addl, q_addt, g_add, g_sub, g_adds, b_len_l, b_len_t, b_len_s, b_int_i, b_abs_i, b_tup_l, b_tup_t, k_lt, k_gt, k_le, k_ge, w_at, w_put, w_draws, List.length_map, startE, List.map_cons, List.map_nil, flIn, List.length_cons, List.length_nil, List.replicate, List.append_nil, List.cons_append, List.nil_append, outsC, Nat.zero_add, Nat.reduceAdd, Nat.reduceSub, Nat.sub_self, ↓reduceIte, if_true, if_false, Bool.false_eq_true, Int.reduceLT, Int.reduceNeg, Int.reducePow, Bool.not_true, Bool.not_false, decide_true, decide_false, nn_n, nn_b, nn_i, nn_s, nn_l, nn_t, k_isN, k_notN, argsC, backC, setV_0, setV_s, fr_n, fr_i, fr_o, fr_j, jk_s, bind_n, bind_t, bind_0, bind_s, u_ty, getX, wipeOk, wipeF, unwipe, List.all_cons, List.all_nil, List.foldr_cons, List.foldr_nil, Bool.and_true, Bool.true_and, lendI, itemsD, unlend, outI, q_pow18, hi])
  have hfm : (nxT M sg rows).filterMap (fun q => some (eRw (q.2, q.1))) = ((nxT M sg rows).map fun q => (q.2, q.1)).map eRw := by
    rw [List.filterMap_eq_map', List.map_map]; rfl
  rw [hfm] at hlc
  have hz := sz_t (enc := fun p : List Nat × List Nat => eV p.1) (xs := nxT M sg rows) (by omega)
  have hk := keys_v (nxT M sg rows)
  have hd : dFill [] [] = some [] := rfl
  have hpu : pairUp [] = some [] := rfl
  refine ⟨k4, k6, k7, some (eTV (nxT M sg rows)), k10, k11, k12, k13, k14, ?_⟩
  unfold yE at h1 hlc ⊢
  have j0 : jk none = none := rfl
  rw [j0] at h1 hlc ⊢
  generalize ((nxT M sg rows).map fun q => (q.2, q.1)).map eRw = R2 at *
  generalize (nxT M sg rows).map (fun p => eV p.1) = KS at *
  unfold eTV at h1 hlc ⊢
  generalize (nxT M sg rows).map eQ = T1 at *
  generalize rows.map eRw = R1 at *
  generalize sg.map eC = SG at *
  generalize eM M = MM at *
  generalize oL k11 = O2 at *
  generalize oL s11 = O1 at *
  try simp only [evSs, evS, evE, evEs, evO, evIfs, evF, testE, getO, getP, getV_eq, getX, setC, rd, rdAll, sl_0, sl_s, Option.bind_some, Option.map_some, Option.bind_none, Option.map_none, List.set_cons_zero, List.set_cons_succ, q_add, q_sub, q_mod, q_fdiv, q_mulr, q_adds, q_addl, q_addt, g_add, g_sub, g_adds, b_len_l, b_len_t, b_len_s, b_int_i, b_abs_i, b_tup_l, b_tup_t, k_lt, k_gt, k_le, k_ge, w_at, w_put, w_draws, List.length_map, startE, List.map_cons, List.map_nil, flIn, List.length_cons, List.length_nil, List.replicate, List.append_nil, List.cons_append, List.nil_append, outsC, Nat.zero_add, Nat.reduceAdd, Nat.reduceSub, Nat.sub_self, ↓reduceIte, if_true, if_false, Bool.false_eq_true, Int.reduceLT, Int.reduceNeg, Int.reducePow, Bool.not_true, Bool.not_false, decide_true, decide_false, nn_n, nn_b, nn_i, nn_s, nn_l, nn_t, k_isN, k_notN, argsC, backC, setV_0, setV_s, fr_n, fr_i, fr_o, fr_j, jk_s, bind_n, bind_t, bind_0, bind_s, u_ty, getX, wipeOk, wipeF, unwipe, List.all_cons, List.all_nil, List.foldr_cons, List.foldr_nil, Bool.and_true, Bool.true_and, lendI, itemsD, unlend, outI, q_pow18] at h1
  try simp only [evSs, evS, evE, evEs, evO, evIfs, evF, testE, getO, getP, getV_eq, getX, setC, rd, rdAll, sl_0, sl_s, Option.bind_some, Option.map_some, Option.bind_none, Option.map_none, List.set_cons_zero, List.set_cons_succ, q_add, q_sub, q_mod, q_fdiv, q_mulr, q_adds, q_addl, q_addt, g_add, g_sub, g_adds, b_len_l, b_len_t, b_len_s, b_int_i, b_abs_i, b_tup_l, b_tup_t, k_lt, k_gt, k_le, k_ge, w_at, w_put, w_draws, List.length_map, startE, List.map_cons, List.map_nil, flIn, List.length_cons, List.length_nil, List.replicate, List.append_nil, List.cons_append, List.nil_append, outsC, Nat.zero_add, Nat.reduceAdd, Nat.reduceSub, Nat.sub_self, ↓reduceIte, if_true, if_false, Bool.false_eq_true, Int.reduceLT, Int.reduceNeg, Int.reducePow, Bool.not_true, Bool.not_false, decide_true, decide_false, nn_n, nn_b, nn_i, nn_s, nn_l, nn_t, k_isN, k_notN, argsC, backC, setV_0, setV_s, fr_n, fr_i, fr_o, fr_j, jk_s, bind_n, bind_t, bind_0, bind_s, u_ty, getX, wipeOk, wipeF, unwipe, List.all_cons, List.all_nil, List.foldr_cons, List.foldr_nil, Bool.and_true, Bool.true_and, lendI, itemsD, unlend, outI, q_pow18] at hlc
  cases k7 <;> simp only [bd_most_runs_6, evSs, evS, evE, evEs, evO, evIfs, evF, testE, getO, getP, getV_eq, getX, setC, rd, rdAll, sl_0, sl_s, Option.bind_some, Option.map_some, Option.bind_none, Option.map_none, List.set_cons_zero, List.set_cons_succ, q_add, q_sub, q_mod, q_fdiv, q_mulr, q_adds, q_addl, q_addt, g_add, g_sub, g_adds, b_len_l, b_len_t, b_len_s, b_int_i, b_abs_i, b_tup_l, b_tup_t, k_lt, k_gt, k_le, k_ge, w_at, w_put, w_draws, List.length_map, startE, List.map_cons, List.map_nil, flIn, List.length_cons, List.length_nil, List.replicate, List.append_nil, List.cons_append, List.nil_append, outsC, Nat.zero_add, Nat.reduceAdd, Nat.reduceSub, Nat.sub_self, ↓reduceIte, if_true, if_false, Bool.false_eq_true, Int.reduceLT, Int.reduceNeg, Int.reducePow, Bool.not_true, Bool.not_false, decide_true, decide_false, nn_n, nn_b, nn_i, nn_s, nn_l, nn_t, k_isN, k_notN, argsC, backC, setV_0, setV_s, fr_n, fr_i, fr_o, fr_j, jk_s, bind_n, bind_t, bind_0, bind_s, u_ty, getX, wipeOk, wipeF, unwipe, List.all_cons, List.all_nil, List.foldr_cons, List.foldr_nil, Bool.and_true, Bool.true_and, lendI, itemsD, unlend, outI, q_pow18, j0, hd, hpu, h1, hk, hz, hlc]
end Lp
namespace Lp
open PySem PySem.Spec L2 Dv Lw
abbrev Bst := Option (Nat × List Nat)
def eB : Bst → D
  | none => .none
  | some q => .tuple [eI q.1, eS q.2]
def tot (M : Mc) (v : List Nat) : Nat := total M fun s => v.getD s 0
def bstA (b : Bst) (m : Nat) (r : List Nat) : Bst := match b with
  | none => some (m, r)
  | some q => if q.1 < m ∨ (m = q.1 ∧ r < q.2) then some (m, r) else b
def bstM (M : Mc) (b : Bst) (p : List Nat × List Nat) : Bst := bstA b (tot M p.2) p.1
theorem lt_pair (i j : Int) (a b : List Nat) : cmp2 .lt (.tuple [.int i, eS a]) (.tuple [.int j, eS b]) = some (decide (i < j ∨ (i = j ∧ a < b))) := by
  have ok : ordOk (.tuple [.int i, eS a]) (.tuple [.int j, eS b]) = true := by
    unfold ordOk
    have h1 : W.alike (.tuple [.int i, eS a]) (.tuple [.int j, eS b]) = true := by simp [W.alike, W.alikeAll]
    rw [h1]
    rfl
  rw [cmp2]
  rw [ok, if_pos rfl, W.dataLt_pair (by simp [W.alike]) (by simp [W.alike]), eqv_ii, eqv_ss, S_beq, W.dataLt_int, S_lt]
  congr 1
  rw [Bool.eq_iff_iff]
  by_cases h : i = j
  · subst h
    by_cases h2 : a = b
    · subst h2; simp
    · simp [h2]
  · simp [h]
theorem tot_ev {M : Mc} (w : Ok M) (n : Nat) (s2 s3 s5 s6 s8 s9 s10 : Option D) (v : List Nat) (hv : v.length = M.many) (s4 : Option D) (s11 : Option (List Nat)) (s12 s13 s14 : Option D) :
    evE P_most_runs (.blt .sum [(.lc el_most_runs_7 (.t [(.n 16), (.n 4)]) (.idx (.pl 0) (.int 2)) [] [16, 4])]) (yE M n s2 s3 s4 s5 s6 (some (eV v)) (jk s8) s9 s10 (oL s11) s12 s13 s14) =
      some (eI (tot M v), yE M n s2 s3 s4 s5 s6 (some (eV v)) (jk s8) s9 s10 (oL s11) s12 s13 s14) := by
  have hlc := lc_mapT eEd (f := fun d e => (bindT (.t [.n 16, .n 4]) d e).bind fun e1 => (evIfs P_most_runs [] e1).bind fun b => if b.1 = true then (evE P_most_runs el_most_runs_7 b.2).map fun y => (some y.1, y.2) else some (none, b.2)) (own := [16, 4])
    (e := yE M n s2 s3 none s5 s6 (some (eV v)) (jk s8) s9 s10 (oL s11) s12 s13 s14) (fun e => some (eI (v.getD e.1 0))) M.ends (fun e he => by
      refine ⟨[some (.imm, eM M), some (.imm, eI n), jk s2, jk s3, some (.imm, eS e.2), jk s5, jk s6, some (.imm, eV v), jk s8, jk s9, jk s10, oL s11, jk s12, jk s13, jk s14, none, some (.imm, eI e.1)], ?_, rfl⟩
      have hi : idxD (eV v) (eI e.1) = some (eI (v.getD e.1 0)) := idx_nt (by have := w.em e he; omega)
      unfold yE eEd
      have j0 : jk none = none := rfl
      rw [j0]
      generalize eV v = V1 at *
      generalize eM M = MM at *
      generalize oL s11 = O1 at *
      simp only [el_most_runs_7, evSs, evS, evE, evEs, evO, evIfs, evF, testE, getO, getP, getV_eq, getX, setC, rd, rdAll, sl_0, sl_s, Option.bind_some, Option.map_some, Option.bind_none, Option.map_none, List.set_cons_zero, List.set_cons_succ, q_add, q_sub, q_mod, q_fdiv, q_mulr, q_adds, q_addl, q_addt, g_add, g_sub, g_adds, b_len_l, b_len_t, b_len_s, b_int_i, b_abs_i, b_tup_l, b_tup_t, k_lt, k_gt, k_le, k_ge, w_at, w_put, w_draws, List.length_map, startE, List.map_cons, List.map_nil, flIn, List.length_cons, List.length_nil, List.replicate, List.append_nil, List.cons_append, List.nil_append, outsC, Nat.zero_add, Nat.reduceAdd, Nat.reduceSub, Nat.sub_self, ↓reduceIte, if_true, if_false, Bool.false_eq_true, Int.reduceLT, Int.reduceNeg, Int.reducePow, Bool.not_true, Bool.not_false, decide_true, decide_false, nn_n, nn_b, nn_i, nn_s, nn_l, nn_t, k_isN, k_notN, argsC, backC, setV_0, setV_s, fr_n, fr_i, fr_o, fr_j, jk_s, bind_n, bind_t, bind_0, bind_s, u_ty, getX, wipeOk, wipeF, unwipe, List.all_cons, List.all_nil, List.foldr_cons, List.foldr_nil, Bool.and_true, Bool.true_and, lendI, itemsD, unlend, outI, q_pow18, hi])
  have hfm : M.ends.filterMap (fun e => some (eI (v.getD e.1 0))) = (M.ends.map fun e => v.getD e.1 0).map eI := by
    rw [List.filterMap_eq_map', List.map_map]; rfl
  rw [hfm] at hlc
  have hsum := sum_e (M.ends.map fun e => v.getD e.1 0)
  have i2 := M_i (M := M).2.2.1
  have z2 := sz_t (enc := eEd) (xs := M.ends) (by have := w.el; omega)
  unfold tot total
  generalize (M.ends.map fun e => v.getD e.1 0).sum = RR at hsum ⊢
  generalize (M.ends.map fun e => v.getD e.1 0).map eI = LL at hsum hlc
  unfold yE at hlc ⊢
  have j0 : jk none = none := rfl
  rw [j0] at hlc
  generalize eV v = V1 at *
  generalize M.ends.map eEd = EE at *
  generalize eM M = MM at *
  generalize oL s11 = O1 at *
  try simp only [evSs, evS, evE, evEs, evO, evIfs, evF, testE, getO, getP, getV_eq, getX, setC, rd, rdAll, sl_0, sl_s, Option.bind_some, Option.map_some, Option.bind_none, Option.map_none, List.set_cons_zero, List.set_cons_succ, q_add, q_sub, q_mod, q_fdiv, q_mulr, q_adds, q_addl, q_addt, g_add, g_sub, g_adds, b_len_l, b_len_t, b_len_s, b_int_i, b_abs_i, b_tup_l, b_tup_t, k_lt, k_gt, k_le, k_ge, w_at, w_put, w_draws, List.length_map, startE, List.map_cons, List.map_nil, flIn, List.length_cons, List.length_nil, List.replicate, List.append_nil, List.cons_append, List.nil_append, outsC, Nat.zero_add, Nat.reduceAdd, Nat.reduceSub, Nat.sub_self, ↓reduceIte, if_true, if_false, Bool.false_eq_true, Int.reduceLT, Int.reduceNeg, Int.reducePow, Bool.not_true, Bool.not_false, decide_true, decide_false, nn_n, nn_b, nn_i, nn_s, nn_l, nn_t, k_isN, k_notN, argsC, backC, setV_0, setV_s, fr_n, fr_i, fr_o, fr_j, jk_s, bind_n, bind_t, bind_0, bind_s, u_ty, getX, wipeOk, wipeF, unwipe, List.all_cons, List.all_nil, List.foldr_cons, List.foldr_nil, Bool.and_true, Bool.true_and, lendI, itemsD, unlend, outI, q_pow18] at hlc
  cases s4 <;> simp only [evSs, evS, evE, evEs, evO, evIfs, evF, testE, getO, getP, getV_eq, getX, setC, rd, rdAll, sl_0, sl_s, Option.bind_some, Option.map_some, Option.bind_none, Option.map_none, List.set_cons_zero, List.set_cons_succ, q_add, q_sub, q_mod, q_fdiv, q_mulr, q_adds, q_addl, q_addt, g_add, g_sub, g_adds, b_len_l, b_len_t, b_len_s, b_int_i, b_abs_i, b_tup_l, b_tup_t, k_lt, k_gt, k_le, k_ge, w_at, w_put, w_draws, List.length_map, startE, List.map_cons, List.map_nil, flIn, List.length_cons, List.length_nil, List.replicate, List.append_nil, List.cons_append, List.nil_append, outsC, Nat.zero_add, Nat.reduceAdd, Nat.reduceSub, Nat.sub_self, ↓reduceIte, if_true, if_false, Bool.false_eq_true, Int.reduceLT, Int.reduceNeg, Int.reducePow, Bool.not_true, Bool.not_false, decide_true, decide_false, nn_n, nn_b, nn_i, nn_s, nn_l, nn_t, k_isN, k_notN, argsC, backC, setV_0, setV_s, fr_n, fr_i, fr_o, fr_j, jk_s, bind_n, bind_t, bind_0, bind_s, u_ty, getX, wipeOk, wipeF, unwipe, List.all_cons, List.all_nil, List.foldr_cons, List.foldr_nil, Bool.and_true, Bool.true_and, lendI, itemsD, unlend, outI, q_pow18, j0, i2, z2, hlc, hsum]
theorem most_5 {M : Mc} (w : Ok M) (n : Nat) (s2 s3 s4 s6 s7 s8 s9 s10 : Option D) (b : Bst) (p : List Nat × List Nat) (hv : p.2.length = M.many) (s11 : Option (List Nat)) (s12 s13 s14 : Option D) :
    ((bindT (.t [.n 6, .n 7]) (eRw p) (yE M n s2 s3 s4 (some (eB b)) s6 s7 (jk s8) s9 s10 (oL s11) s12 s13 s14)).bind fun e1 => evSs P_most_runs bd_most_runs_8 e1) =
      some (.nx (yE M n s2 s3 s4 (some (eB (bstM M b p))) (some (eS p.1)) (some (eV p.2)) (jk s8) (some (eI (tot M p.2))) s10 (oL s11) s12 s13 s14)) := by
  have h1 := tot_ev w n s2 s3 (some (eB b)) (some (eS p.1)) s8 s9 s10 p.2 hv s4 s11 s12 s13 s14
  have hb : bindT (.t [.n 6, .n 7]) (eRw p) (yE M n s2 s3 s4 (some (eB b)) s6 s7 (jk s8) s9 s10 (oL s11) s12 s13 s14) = some (yE M n s2 s3 s4 (some (eB b)) (some (eS p.1)) (some (eV p.2)) (jk s8) s9 s10 (oL s11) s12 s13 s14) := by
    unfold yE eRw
    generalize oL s11 = O1
    simp only [evSs, evS, evE, evEs, evO, evIfs, evF, testE, getO, getP, getV_eq, getX, setC, rd, rdAll, sl_0, sl_s, Option.bind_some, Option.map_some, Option.bind_none, Option.map_none, List.set_cons_zero, List.set_cons_succ, q_add, q_sub, q_mod, q_fdiv, q_mulr, q_adds, q_addl, q_addt, g_add, g_sub, g_adds, b_len_l, b_len_t, b_len_s, b_int_i, b_abs_i, b_tup_l, b_tup_t, k_lt, k_gt, k_le, k_ge, w_at, w_put, w_draws, List.length_map, startE, List.map_cons, List.map_nil, flIn, List.length_cons, List.length_nil, List.replicate, List.append_nil, List.cons_append, List.nil_append, outsC, Nat.zero_add, Nat.reduceAdd, Nat.reduceSub, Nat.sub_self, ↓reduceIte, if_true, if_false, Bool.false_eq_true, Int.reduceLT, Int.reduceNeg, Int.reducePow, Bool.not_true, Bool.not_false, decide_true, decide_false, nn_n, nn_b, nn_i, nn_s, nn_l, nn_t, k_isN, k_notN, argsC, backC, setV_0, setV_s, fr_n, fr_i, fr_o, fr_j, jk_s, bind_n, bind_t, bind_0, bind_s, u_ty, getX, wipeOk, wipeF, unwipe, List.all_cons, List.all_nil, List.foldr_cons, List.foldr_nil, Bool.and_true, Bool.true_and, lendI, itemsD, unlend, outI, q_pow18]
  have s1 := as_ev (i := 9) (e2 := yE M n s2 s3 s4 (some (eB b)) (some (eS p.1)) (some (eV p.2)) (jk s8) (some (eI (tot M p.2))) s10 (oL s11) s12 s13 s14) h1 (by unfold yE; generalize oL s11 = O1; simp only [evSs, evS, evE, evEs, evO, evIfs, evF, testE, getO, getP, getV_eq, getX, setC, rd, rdAll, sl_0, sl_s, Option.bind_some, Option.map_some, Option.bind_none, Option.map_none, List.set_cons_zero, List.set_cons_succ, q_add, q_sub, q_mod, q_fdiv, q_mulr, q_adds, q_addl, q_addt, g_add, g_sub, g_adds, b_len_l, b_len_t, b_len_s, b_int_i, b_abs_i, b_tup_l, b_tup_t, k_lt, k_gt, k_le, k_ge, w_at, w_put, w_draws, List.length_map, startE, List.map_cons, List.map_nil, flIn, List.length_cons, List.length_nil, List.replicate, List.append_nil, List.cons_append, List.nil_append, outsC, Nat.zero_add, Nat.reduceAdd, Nat.reduceSub, Nat.sub_self, ↓reduceIte, if_true, if_false, Bool.false_eq_true, Int.reduceLT, Int.reduceNeg, Int.reducePow, Bool.not_true, Bool.not_false, decide_true, decide_false, nn_n, nn_b, nn_i, nn_s, nn_l, nn_t, k_isN, k_notN, argsC, backC, setV_0, setV_s, fr_n, fr_i, fr_o, fr_j, jk_s, bind_n, bind_t, bind_0, bind_s, u_ty, getX, wipeOk, wipeF, unwipe, List.all_cons, List.all_nil, List.foldr_cons, List.foldr_nil, Bool.and_true, Bool.true_and, lendI, itemsD, unlend, outI, q_pow18])
  rw [hb, Option.bind_some]
  unfold bd_most_runs_8
  rw [ss_cons s1]
  unfold bstM bstA
  generalize tot M p.2 = m
  cases b with
  | none =>
    unfold yE eB
    simp only
    generalize oL s11 = O1
    generalize eV p.2 = V1
    generalize eS p.1 = R1
    simp only [evSs, evS, evE, evEs, evO, evIfs, evF, testE, getO, getP, getV_eq, getX, setC, rd, rdAll, sl_0, sl_s, Option.bind_some, Option.map_some, Option.bind_none, Option.map_none, List.set_cons_zero, List.set_cons_succ, q_add, q_sub, q_mod, q_fdiv, q_mulr, q_adds, q_addl, q_addt, g_add, g_sub, g_adds, b_len_l, b_len_t, b_len_s, b_int_i, b_abs_i, b_tup_l, b_tup_t, k_lt, k_gt, k_le, k_ge, w_at, w_put, w_draws, List.length_map, startE, List.map_cons, List.map_nil, flIn, List.length_cons, List.length_nil, List.replicate, List.append_nil, List.cons_append, List.nil_append, outsC, Nat.zero_add, Nat.reduceAdd, Nat.reduceSub, Nat.sub_self, ↓reduceIte, if_true, if_false, Bool.false_eq_true, Int.reduceLT, Int.reduceNeg, Int.reducePow, Bool.not_true, Bool.not_false, decide_true, decide_false, nn_n, nn_b, nn_i, nn_s, nn_l, nn_t, k_isN, k_notN, argsC, backC, setV_0, setV_s, fr_n, fr_i, fr_o, fr_j, jk_s, bind_n, bind_t, bind_0, bind_s, u_ty, getX, wipeOk, wipeF, unwipe, List.all_cons, List.all_nil, List.foldr_cons, List.foldr_nil, Bool.and_true, Bool.true_and, lendI, itemsD, unlend, outI, q_pow18]
  | some q =>
    obtain ⟨qm, qr⟩ := q
    have hl := lt_pair (-(m : Int)) (-(qm : Int)) p.1 qr
    have hn1 : negD (eI m) = some (.int (-(m : Int))) := rfl
    have hn2 : negD (eI qm) = some (.int (-(qm : Int))) := rfl
    have e1 : (-(m : Int) < -(qm : Int) ∨ (-(m : Int) = -(qm : Int) ∧ p.1 < qr)) ↔ (qm < m ∨ (m = qm ∧ p.1 < qr)) := by
      constructor
      · rintro (h | ⟨h, h2⟩)
        · exact .inl (by omega)
        · exact .inr ⟨by omega, h2⟩
      · rintro (h | ⟨h, h2⟩)
        · exact .inl (by omega)
        · exact .inr ⟨by omega, h2⟩
    by_cases c : qm < m ∨ (m = qm ∧ p.1 < qr)
    · rw [decide_eq_true (e1.mpr c)] at hl
      simp only [if_pos c]
      have i0 : idxD (.tuple [eI qm, eS qr]) (.int 0) = some (eI qm) := t_0
      have i1 : idxD (.tuple [eI qm, eS qr]) (.int 1) = some (eS qr) := t_1
      have nn : isNone (.tuple [eI qm, eS qr]) = false := rfl
      unfold yE eB
      simp only
      generalize hq : (PyData.tuple [eI qm, eS qr]) = QQ at *
      generalize oL s11 = O1
      generalize eV p.2 = V1
      generalize eS p.1 = R1 at *
      generalize eS qr = R2 at *
      simp only [evSs, evS, evE, evEs, evO, evIfs, evF, testE, getO, getP, getV_eq, getX, setC, rd, rdAll, sl_0, sl_s, Option.bind_some, Option.map_some, Option.bind_none, Option.map_none, List.set_cons_zero, List.set_cons_succ, q_add, q_sub, q_mod, q_fdiv, q_mulr, q_adds, q_addl, q_addt, g_add, g_sub, g_adds, b_len_l, b_len_t, b_len_s, b_int_i, b_abs_i, b_tup_l, b_tup_t, k_lt, k_gt, k_le, k_ge, w_at, w_put, w_draws, List.length_map, startE, List.map_cons, List.map_nil, flIn, List.length_cons, List.length_nil, List.replicate, List.append_nil, List.cons_append, List.nil_append, outsC, Nat.zero_add, Nat.reduceAdd, Nat.reduceSub, Nat.sub_self, ↓reduceIte, if_true, if_false, Bool.false_eq_true, Int.reduceLT, Int.reduceNeg, Int.reducePow, Bool.not_true, Bool.not_false, decide_true, decide_false, nn_n, nn_b, nn_i, nn_s, nn_l, nn_t, k_isN, k_notN, argsC, backC, setV_0, setV_s, fr_n, fr_i, fr_o, fr_j, jk_s, bind_n, bind_t, bind_0, bind_s, u_ty, getX, wipeOk, wipeF, unwipe, List.all_cons, List.all_nil, List.foldr_cons, List.foldr_nil, Bool.and_true, Bool.true_and, lendI, itemsD, unlend, outI, q_pow18, nn, i0, i1, hn1, hn2, hl]
    · rw [decide_eq_false (fun z => c (e1.mp z))] at hl
      simp only [if_neg c]
      have i0 : idxD (.tuple [eI qm, eS qr]) (.int 0) = some (eI qm) := t_0
      have i1 : idxD (.tuple [eI qm, eS qr]) (.int 1) = some (eS qr) := t_1
      have nn : isNone (.tuple [eI qm, eS qr]) = false := rfl
      unfold yE eB
      simp only
      generalize hq : (PyData.tuple [eI qm, eS qr]) = QQ at *
      generalize oL s11 = O1
      generalize eV p.2 = V1
      generalize eS p.1 = R1 at *
      generalize eS qr = R2 at *
      simp only [evSs, evS, evE, evEs, evO, evIfs, evF, testE, getO, getP, getV_eq, getX, setC, rd, rdAll, sl_0, sl_s, Option.bind_some, Option.map_some, Option.bind_none, Option.map_none, List.set_cons_zero, List.set_cons_succ, q_add, q_sub, q_mod, q_fdiv, q_mulr, q_adds, q_addl, q_addt, g_add, g_sub, g_adds, b_len_l, b_len_t, b_len_s, b_int_i, b_abs_i, b_tup_l, b_tup_t, k_lt, k_gt, k_le, k_ge, w_at, w_put, w_draws, List.length_map, startE, List.map_cons, List.map_nil, flIn, List.length_cons, List.length_nil, List.replicate, List.append_nil, List.cons_append, List.nil_append, outsC, Nat.zero_add, Nat.reduceAdd, Nat.reduceSub, Nat.sub_self, ↓reduceIte, if_true, if_false, Bool.false_eq_true, Int.reduceLT, Int.reduceNeg, Int.reducePow, Bool.not_true, Bool.not_false, decide_true, decide_false, nn_n, nn_b, nn_i, nn_s, nn_l, nn_t, k_isN, k_notN, argsC, backC, setV_0, setV_s, fr_n, fr_i, fr_o, fr_j, jk_s, bind_n, bind_t, bind_0, bind_s, u_ty, getX, wipeOk, wipeF, unwipe, List.all_cons, List.all_nil, List.foldr_cons, List.foldr_nil, Bool.and_true, Bool.true_and, lendI, itemsD, unlend, outI, q_pow18, nn, i0, i1, hn1, hn2, hl]
theorem e_most {M : Mc} (w : Ok M) (n : Nat) (hn : n ≤ 3) : F_most_runs [(.imm, eM M), (.imm, eI n)] = some ((false, eB ((tabN M (sgs M) n).foldl (bstM M) none)), []) := by
  have hs := sgs_two M
  have two : ∀ k, k ≤ 3 → (tabN M (sgs M) k).length ≤ 8 := fun k hk => by
    have h1 := tabN_few M hs k
    have h2 : 2 ^ k ≤ 2 ^ 3 := Nat.pow_le_pow_right (by decide) hk
    omega
  -- the signs
  have hl0 := lc_mapT eA (f := fun d e => (bindT (.n 15) d e).bind fun e1 => (evIfs P_most_runs [] e1).bind fun b => if b.1 = true then (evE P_most_runs el_most_runs_0 b.2).map fun y => (some y.1, y.2) else some (none, b.2)) (own := [15])
    (e := [some (.imm, eM M), some (.imm, eI n), none, none, none, none, none, none, none, none, none, none, none, none, none, none, none]) (fun a => some (eC a.2.1)) M.arr (fun a _ => by
      refine ⟨[some (.imm, eM M), some (.imm, eI n), none, none, none, none, none, none, none, none, none, none, none, none, none, some (.imm, eA a), none], ?_, rfl⟩
      have hi : idxD (eA a) (.int 1) = some (eC a.2.1) := t_1
      generalize eA a = A1 at *
      generalize eM M = MM at *
      generalize eC a.2.1 = CC at *
      simp only [el_most_runs_0, evSs, evS, evE, evEs, evO, evIfs, evF, testE, getO, getP, getV_eq, getX, setC, rd, rdAll, sl_0, sl_s, Option.bind_some, Option.map_some, Option.bind_none, Option.map_none, List.set_cons_zero, List.set_cons_succ, q_add, q_sub, q_mod, q_fdiv, q_mulr, q_adds, q_addl, q_addt, g_add, g_sub, g_adds, b_len_l, b_len_t, b_len_s, b_int_i, b_abs_i, b_tup_l, b_tup_t, k_lt, k_gt, k_le, k_ge, w_at, w_put, w_draws, List.length_map, startE, List.map_cons, List.map_nil, flIn, List.length_cons, List.length_nil, List.replicate, List.append_nil, List.cons_append, List.nil_append, outsC, Nat.zero_add, Nat.reduceAdd, Nat.reduceSub, Nat.sub_self, ↓reduceIte, if_true, if_false, Bool.false_eq_true, Int.reduceLT, Int.reduceNeg, Int.reducePow, Bool.not_true, Bool.not_false, decide_true, decide_false, nn_n, nn_b, nn_i, nn_s, nn_l, nn_t, k_isN, k_notN, argsC, backC, setV_0, setV_s, fr_n, fr_i, fr_o, fr_j, jk_s, bind_n, bind_t, bind_0, bind_s, u_ty, getX, wipeOk, wipeF, unwipe, List.all_cons, List.all_nil, List.foldr_cons, List.foldr_nil, Bool.and_true, Bool.true_and, lendI, itemsD, unlend, outI, q_pow18, hi])
  have hf0 : M.arr.filterMap (fun a => some (eC a.2.1)) = (M.arr.map fun a => a.2.1).map eC := by
    rw [List.filterMap_eq_map', List.map_map]; rfl
  rw [hf0] at hl0
  have hss := srt_sgs w
  -- the first counts
  have hl1 := lc_mapT eI (f := fun d e => (bindT (.n 16) d e).bind fun e1 => (evIfs P_most_runs [] e1).bind fun b => if b.1 = true then (evE P_most_runs el_most_runs_1 b.2).map fun y => (some y.1, y.2) else some (none, b.2)) (own := [16])
    (e := [some (.imm, eM M), some (.imm, eI n), some (.imm, .list ((sgs M).map eC)), none, none, none, none, none, none, none, none, none, none, none, none, none, none]) (fun s => some (eI (if M.beg.contains s = true then 1 else 0))) (List.range M.many) (fun s _ => by
      refine ⟨[some (.imm, eM M), some (.imm, eI n), some (.imm, .list ((sgs M).map eC)), none, none, none, none, none, none, none, none, none, none, none, none, none, some (.imm, eI s)], ?_, rfl⟩
      have i1 := M_i (M := M).2.1
      have hin : cmp2 .isin (eI s) (.tuple (M.beg.map eI)) = some (M.beg.contains s) := by
        have h1 : (pln (eI s) && dOkAll (M.beg.map eI) 40) = true := by rw [dOk_all (fun _ => rfl)]; rfl
        rw [cmp2, inD, if_pos h1, List.any_map]
        congr 1
        rw [List.contains_eq_any_beq]
        congr 1
        funext y
        show PyData.eqv (eI y) (eI s) = _
        rw [eqv_ii, beq_nn, Bool.eq_iff_iff, beq_iff_eq, beq_iff_eq]
        exact eq_comm
      generalize M.beg.map eI = BB at *
      generalize (sgs M).map eC = SG at *
      generalize eM M = MM at *
      by_cases c : M.beg.contains s = true
      · rw [c] at hin
        have hb : blt .int [.bool true] = some (eI 1) := rfl
        simp only [el_most_runs_1, evSs, evS, evE, evEs, evO, evIfs, evF, testE, getO, getP, getV_eq, getX, setC, rd, rdAll, sl_0, sl_s, Option.bind_some, Option.map_some, Option.bind_none, Option.map_none, List.set_cons_zero, List.set_cons_succ, q_add, q_sub, q_mod, q_fdiv, q_mulr, q_adds, q_addl, q_addt, g_add, g_sub, g_adds, b_len_l, b_len_t, b_len_s, b_int_i, b_abs_i, b_tup_l, b_tup_t, k_lt, k_gt, k_le, k_ge, w_at, w_put, w_draws, List.length_map, startE, List.map_cons, List.map_nil, flIn, List.length_cons, List.length_nil, List.replicate, List.append_nil, List.cons_append, List.nil_append, outsC, Nat.zero_add, Nat.reduceAdd, Nat.reduceSub, Nat.sub_self, ↓reduceIte, if_true, if_false, Bool.false_eq_true, Int.reduceLT, Int.reduceNeg, Int.reducePow, Bool.not_true, Bool.not_false, decide_true, decide_false, nn_n, nn_b, nn_i, nn_s, nn_l, nn_t, k_isN, k_notN, argsC, backC, setV_0, setV_s, fr_n, fr_i, fr_o, fr_j, jk_s, bind_n, bind_t, bind_0, bind_s, u_ty, getX, wipeOk, wipeF, unwipe, List.all_cons, List.all_nil, List.foldr_cons, List.foldr_nil, Bool.and_true, Bool.true_and, lendI, itemsD, unlend, outI, q_pow18, i1, hin, hb, c]
      · have c : M.beg.contains s = false := by simpa using c
        rw [c] at hin
        have hb : blt .int [.bool false] = some (eI 0) := rfl
        simp only [el_most_runs_1, evSs, evS, evE, evEs, evO, evIfs, evF, testE, getO, getP, getV_eq, getX, setC, rd, rdAll, sl_0, sl_s, Option.bind_some, Option.map_some, Option.bind_none, Option.map_none, List.set_cons_zero, List.set_cons_succ, q_add, q_sub, q_mod, q_fdiv, q_mulr, q_adds, q_addl, q_addt, g_add, g_sub, g_adds, b_len_l, b_len_t, b_len_s, b_int_i, b_abs_i, b_tup_l, b_tup_t, k_lt, k_gt, k_le, k_ge, w_at, w_put, w_draws, List.length_map, startE, List.map_cons, List.map_nil, flIn, List.length_cons, List.length_nil, List.replicate, List.append_nil, List.cons_append, List.nil_append, outsC, Nat.zero_add, Nat.reduceAdd, Nat.reduceSub, Nat.sub_self, ↓reduceIte, if_true, if_false, Bool.false_eq_true, Int.reduceLT, Int.reduceNeg, Int.reducePow, Bool.not_true, Bool.not_false, decide_true, decide_false, nn_n, nn_b, nn_i, nn_s, nn_l, nn_t, k_isN, k_notN, argsC, backC, setV_0, setV_s, fr_n, fr_i, fr_o, fr_j, jk_s, bind_n, bind_t, bind_0, bind_s, u_ty, getX, wipeOk, wipeF, unwipe, List.all_cons, List.all_nil, List.foldr_cons, List.foldr_nil, Bool.and_true, Bool.true_and, lendI, itemsD, unlend, outI, q_pow18, i1, hin, hb, c])
  have hf1 : (List.range M.many).filterMap (fun s => some (eI (if M.beg.contains s = true then 1 else 0))) = (v0 M).map eI := by
    unfold v0
    rw [List.filterMap_eq_map', List.map_map]; rfl
  rw [hf1] at hl1
  -- row by row
  obtain ⟨e1, h1, k4, k6, k7, k8, k10, k11, k12, k13, k14, h2⟩ := for_pre (f := fun d e => (bindT (.n 4) d e).bind fun e1 => evSs P_most_runs bd_most_runs_6 e1) eI
    (fun q e => ∃ k4 k6 k7 k8 k10 k11 k12 k13 k14, e = yE M n (some (.list ((sgs M).map eC))) (some (.list ((tabN M (sgs M) q.length).map eRw))) k4 none k6 k7 (jk k8) none k10 (oL k11) k12 k13 k14) (List.range n) []
    (yE M n (some (.list ((sgs M).map eC))) (some (.list ((tabN M (sgs M) 0).map eRw))) none none none none none none none none none none none) ⟨none, none, none, none, none, none, none, none, none, rfl⟩ (fun q a q2 e he ⟨k4, k6, k7, k8, k10, k11, k12, k13, k14, hk⟩ => by
      subst hk
      have hq : q.length < n := by
        have := congrArg List.length he
        simp at this
        omega
      obtain ⟨a4, a6, a7, a8, a10, a11, a12, a13, a14, h⟩ := most_4 w hs n q.length (tabN M (sgs M) q.length) (by have := two q.length (by omega); omega) (tabN_ok M (sgs M) q.length) (by omega) (eI a) k4 k6 k7 k8 k10 k11 k12 k13 k14
      refine ⟨_, h, a4, a6, a7, a8, a10, a11, a12, a13, a14, ?_⟩
      rw [List.length_append]; rfl)
  subst h2
  rw [List.nil_append, List.length_range] at h1
  -- the best
  obtain ⟨e2, h3, i6, i7, i9, h4⟩ := for_pre (f := fun d e => (bindT (.t [.n 6, .n 7]) d e).bind fun e1 => evSs P_most_runs bd_most_runs_8 e1) eRw
    (fun q e => ∃ i6 i7 i9, e = yE M n (some (.list ((sgs M).map eC))) (some (.list ((tabN M (sgs M) n).map eRw))) k4 (some (eB (q.foldl (bstM M) none))) i6 i7 (jk k8) i9 k10 (oL k11) k12 k13 k14) (tabN M (sgs M) n) []
    (yE M n (some (.list ((sgs M).map eC))) (some (.list ((tabN M (sgs M) n).map eRw))) k4 (some .none) k6 k7 (jk k8) none k10 (oL k11) k12 k13 k14) ⟨k6, k7, none, rfl⟩ (fun q a q2 e he ⟨i6, i7, i9, hk⟩ => by
      subst hk
      rw [List.nil_append] at he
      have ha := tabN_ok M (sgs M) n a (by rw [he]; simp)
      refine ⟨_, most_5 w n _ _ k4 i6 i7 k8 i9 k10 (q.foldl (bstM M) none) a ha.2 k11 k12 k13 k14, some (eS a.1), some (eV a.2), some (eI (tot M a.2)), ?_⟩
      rw [List.foldl_append]; rfl)
  subst h4
  rw [List.nil_append] at h3
  have i0 := M_i (M := M).1
  have i3 := M_i (M := M).2.2.2
  have z0 := sz_t (enc := eA) (xs := M.arr) (by have := w.al; omega)
  have z1 := sz_t (enc := eI) (xs := List.range M.many) (by have := w.few; simp; omega)
  have rr1 := rng_e (n := M.many) (by have := w.few; omega)
  have rr := rng_e (n := n) (by omega)
  have t0 : ([PyData.tuple [PyData.str "", PyData.tuple ((v0 M).map eI)]] : List D) = (tabN M (sgs M) 0).map eRw := by rw [S_nil]; rfl
  have htup : blt .tuple [.list ((v0 M).map eI)] = some (.tuple ((v0 M).map eI)) := rfl
  unfold yE at h1 h3
  have j0 : jk none = none := rfl
  rw [j0] at h1 h3
  generalize (tabN M (sgs M) 0).map eRw = T0 at *
  generalize (tabN M (sgs M) n).map eRw = T1 at *
  generalize eB ((tabN M (sgs M) n).foldl (bstM M) none) = BB at *
  generalize (List.range n).map eI = L1 at *
  generalize (List.range M.many).map eI = L2 at *
  generalize (v0 M).map eI = V1 at *
  generalize M.arr.map eA = MA at *
  generalize (M.arr.map fun a => a.2.1).map eC = MS at *
  generalize (sgs M).map eC = SG at *
  generalize eM M = MM at *
  generalize oL k11 = O1 at *
  try simp only [evSs, evS, evE, evEs, evO, evIfs, evF, testE, getO, getP, getV_eq, getX, setC, rd, rdAll, sl_0, sl_s, Option.bind_some, Option.map_some, Option.bind_none, Option.map_none, List.set_cons_zero, List.set_cons_succ, q_add, q_sub, q_mod, q_fdiv, q_mulr, q_adds, q_addl, q_addt, g_add, g_sub, g_adds, b_len_l, b_len_t, b_len_s, b_int_i, b_abs_i, b_tup_l, b_tup_t, k_lt, k_gt, k_le, k_ge, w_at, w_put, w_draws, List.length_map, startE, List.map_cons, List.map_nil, flIn, List.length_cons, List.length_nil, List.replicate, List.append_nil, List.cons_append, List.nil_append, outsC, Nat.zero_add, Nat.reduceAdd, Nat.reduceSub, Nat.sub_self, ↓reduceIte, if_true, if_false, Bool.false_eq_true, Int.reduceLT, Int.reduceNeg, Int.reducePow, Bool.not_true, Bool.not_false, decide_true, decide_false, nn_n, nn_b, nn_i, nn_s, nn_l, nn_t, k_isN, k_notN, argsC, backC, setV_0, setV_s, fr_n, fr_i, fr_o, fr_j, jk_s, bind_n, bind_t, bind_0, bind_s, u_ty, getX, wipeOk, wipeF, unwipe, List.all_cons, List.all_nil, List.foldr_cons, List.foldr_nil, Bool.and_true, Bool.true_and, lendI, itemsD, unlend, outI, q_pow18] at h1
  try simp only [evSs, evS, evE, evEs, evO, evIfs, evF, testE, getO, getP, getV_eq, getX, setC, rd, rdAll, sl_0, sl_s, Option.bind_some, Option.map_some, Option.bind_none, Option.map_none, List.set_cons_zero, List.set_cons_succ, q_add, q_sub, q_mod, q_fdiv, q_mulr, q_adds, q_addl, q_addt, g_add, g_sub, g_adds, b_len_l, b_len_t, b_len_s, b_int_i, b_abs_i, b_tup_l, b_tup_t, k_lt, k_gt, k_le, k_ge, w_at, w_put, w_draws, List.length_map, startE, List.map_cons, List.map_nil, flIn, List.length_cons, List.length_nil, List.replicate, List.append_nil, List.cons_append, List.nil_append, outsC, Nat.zero_add, Nat.reduceAdd, Nat.reduceSub, Nat.sub_self, ↓reduceIte, if_true, if_false, Bool.false_eq_true, Int.reduceLT, Int.reduceNeg, Int.reducePow, Bool.not_true, Bool.not_false, decide_true, decide_false, nn_n, nn_b, nn_i, nn_s, nn_l, nn_t, k_isN, k_notN, argsC, backC, setV_0, setV_s, fr_n, fr_i, fr_o, fr_j, jk_s, bind_n, bind_t, bind_0, bind_s, u_ty, getX, wipeOk, wipeF, unwipe, List.all_cons, List.all_nil, List.foldr_cons, List.foldr_nil, Bool.and_true, Bool.true_and, lendI, itemsD, unlend, outI, q_pow18] at h3
  try simp only [evSs, evS, evE, evEs, evO, evIfs, evF, testE, getO, getP, getV_eq, getX, setC, rd, rdAll, sl_0, sl_s, Option.bind_some, Option.map_some, Option.bind_none, Option.map_none, List.set_cons_zero, List.set_cons_succ, q_add, q_sub, q_mod, q_fdiv, q_mulr, q_adds, q_addl, q_addt, g_add, g_sub, g_adds, b_len_l, b_len_t, b_len_s, b_int_i, b_abs_i, b_tup_l, b_tup_t, k_lt, k_gt, k_le, k_ge, w_at, w_put, w_draws, List.length_map, startE, List.map_cons, List.map_nil, flIn, List.length_cons, List.length_nil, List.replicate, List.append_nil, List.cons_append, List.nil_append, outsC, Nat.zero_add, Nat.reduceAdd, Nat.reduceSub, Nat.sub_self, ↓reduceIte, if_true, if_false, Bool.false_eq_true, Int.reduceLT, Int.reduceNeg, Int.reducePow, Bool.not_true, Bool.not_false, decide_true, decide_false, nn_n, nn_b, nn_i, nn_s, nn_l, nn_t, k_isN, k_notN, argsC, backC, setV_0, setV_s, fr_n, fr_i, fr_o, fr_j, jk_s, bind_n, bind_t, bind_0, bind_s, u_ty, getX, wipeOk, wipeF, unwipe, List.all_cons, List.all_nil, List.foldr_cons, List.foldr_nil, Bool.and_true, Bool.true_and, lendI, itemsD, unlend, outI, q_pow18] at hl0
  try simp only [evSs, evS, evE, evEs, evO, evIfs, evF, testE, getO, getP, getV_eq, getX, setC, rd, rdAll, sl_0, sl_s, Option.bind_some, Option.map_some, Option.bind_none, Option.map_none, List.set_cons_zero, List.set_cons_succ, q_add, q_sub, q_mod, q_fdiv, q_mulr, q_adds, q_addl, q_addt, g_add, g_sub, g_adds, b_len_l, b_len_t, b_len_s, b_int_i, b_abs_i, b_tup_l, b_tup_t, k_lt, k_gt, k_le, k_ge, w_at, w_put, w_draws, List.length_map, startE, List.map_cons, List.map_nil, flIn, List.length_cons, List.length_nil, List.replicate, List.append_nil, List.cons_append, List.nil_append, outsC, Nat.zero_add, Nat.reduceAdd, Nat.reduceSub, Nat.sub_self, ↓reduceIte, if_true, if_false, Bool.false_eq_true, Int.reduceLT, Int.reduceNeg, Int.reducePow, Bool.not_true, Bool.not_false, decide_true, decide_false, nn_n, nn_b, nn_i, nn_s, nn_l, nn_t, k_isN, k_notN, argsC, backC, setV_0, setV_s, fr_n, fr_i, fr_o, fr_j, jk_s, bind_n, bind_t, bind_0, bind_s, u_ty, getX, wipeOk, wipeF, unwipe, List.all_cons, List.all_nil, List.foldr_cons, List.foldr_nil, Bool.and_true, Bool.true_and, lendI, itemsD, unlend, outI, q_pow18] at hl1
  unfold F_most_runs evFn
  simp only [ir_most_runs, evSs, evS, evE, evEs, evO, evIfs, evF, testE, getO, getP, getV_eq, getX, setC, rd, rdAll, sl_0, sl_s, Option.bind_some, Option.map_some, Option.bind_none, Option.map_none, List.set_cons_zero, List.set_cons_succ, q_add, q_sub, q_mod, q_fdiv, q_mulr, q_adds, q_addl, q_addt, g_add, g_sub, g_adds, b_len_l, b_len_t, b_len_s, b_int_i, b_abs_i, b_tup_l, b_tup_t, k_lt, k_gt, k_le, k_ge, w_at, w_put, w_draws, List.length_map, startE, List.map_cons, List.map_nil, flIn, List.length_cons, List.length_nil, List.replicate, List.append_nil, List.cons_append, List.nil_append, outsC, Nat.zero_add, Nat.reduceAdd, Nat.reduceSub, Nat.sub_self, ↓reduceIte, if_true, if_false, Bool.false_eq_true, Int.reduceLT, Int.reduceNeg, Int.reducePow, Bool.not_true, Bool.not_false, decide_true, decide_false, nn_n, nn_b, nn_i, nn_s, nn_l, nn_t, k_isN, k_notN, argsC, backC, setV_0, setV_s, fr_n, fr_i, fr_o, fr_j, jk_s, bind_n, bind_t, bind_0, bind_s, u_ty, getX, wipeOk, wipeF, unwipe, List.all_cons, List.all_nil, List.foldr_cons, List.foldr_nil, Bool.and_true, Bool.true_and, lendI, itemsD, unlend, outI, q_pow18, i3, z0, hl0, hss, i0, rr1, z1, hl1, htup, t0, rr, h1, h3]
end Lp
namespace Lp
open PySem PySem.Spec L2 Dv Lw
/-! ### both count the same -/
theorem count_one : ∀ {l : List Nat} {s : Nat}, l.Nodup → s ∈ l → l.count s = 1
  | [], _, _, h => by cases h
  | a :: l, s, hn, h => by
    rw [List.nodup_cons] at hn
    rw [List.count_cons]
    rcases List.mem_cons.mp h with rfl | h
    · rw [List.count_eq_zero.mpr hn.1]
      simp
    · rw [count_one hn.2 h]
      have : ¬ a = s := fun z => hn.1 (z ▸ h)
      simp [this]
def sumA (arr : List Ar) (f : Nat → Nat) (c q : Nat) : Nat := (arr.map fun a => if (a.2.1 == c && a.2.2.2 == q) = true then f a.1 else 0).sum
theorem val_fold (C : KV) (c q : Nat) : ∀ (arr : List Ar) (kv : KV), val (arr.foldl (stC C c) kv) q = val kv q + sumA arr (val C) c q
  | [], kv => by simp [sumA]
  | a :: arr, kv => by
    rw [List.foldl_cons, val_fold C c q arr]
    unfold sumA
    rw [List.map_cons, List.sum_cons, ← Nat.add_assoc]
    congr 1
    unfold stC
    by_cases e1 : (a.2.1 == c) = true
    · by_cases e2 : has C a.1 = true
      · rw [e1, e2, Bool.and_self, if_pos rfl, val_ins]
        by_cases e3 : q = a.2.2.2
        · subst e3
          simp
        · have : (a.2.2.2 == q) = false := by simp; omega
          rw [this]
          simp [e3]
      · have e2 : has C a.1 = false := by simpa using e2
        rw [e1, e2, has_val e2]
        simp
    · have e1 : (a.2.1 == c) = false := by simpa using e1
      rw [e1]
      simp
theorem count_sel (M : Mc) (c q s : Nat) : (sel M c s).count q = (M.arr.map fun a => if (a.2.1 == c && a.2.2.2 == q) = true then (if a.1 = s then 1 else 0) else 0).sum := by
  unfold sel
  generalize M.arr = arr
  induction arr with
  | nil => rfl
  | cons a arr ih =>
    rw [List.filterMap_cons, List.map_cons, List.sum_cons, ← ih]
    by_cases e1 : (a.1 == s) = true
    · have e1' : a.1 = s := by simpa using e1
      by_cases e2 : (a.2.1 == c) = true
      · by_cases e3 : (a.2.2.2 == q) = true
        · have e3' : a.2.2.2 = q := by simpa using e3
          rw [e1, e2, e3]
          simp [e1', e3']
          omega
        · have e3 : (a.2.2.2 == q) = false := by simpa using e3
          rw [e1, e2, e3]
          simp [List.count_cons, e3]
      · have e2 : (a.2.1 == c) = false := by simpa using e2
        rw [e1, e2]
        simp
    · have e1 : (a.1 == s) = false := by simpa using e1
      have e1' : ¬ a.1 = s := by simpa using e1
      rw [e1]
      simp [e1']
theorem sum0 {α : Type} : ∀ l : List α, (l.map fun _ => 0).sum = 0
  | [] => rfl
  | _ :: l => by rw [List.map_cons, List.sum_cons, sum0 l]
theorem sum_add {α : Type} {f g h : α → Nat} (e : ∀ a, f a + g a = h a) : ∀ l : List α, (l.map f).sum + (l.map g).sum = (l.map h).sum
  | [] => rfl
  | a :: l => by
    have := sum_add e l
    have := e a
    simp only [List.map_cons, List.sum_cons]
    omega
theorem count_nx (M : Mc) (c q : Nat) : ∀ ws : List Nat, (nxW M c ws).count q = sumA M.arr (fun p => ws.count p) c q
  | [] => by
    unfold nxW sumA
    have : (fun a : Ar => if (a.2.1 == c && a.2.2.2 == q) = true then List.count a.1 ([] : List Nat) else 0) = fun _ => 0 := by
      funext a
      simp
    rw [this, sum0]
    rfl
  | s :: ws => by
    have ih := count_nx M c q ws
    unfold nxW at *
    rw [List.flatMap_cons, List.count_append, ih, count_sel]
    unfold sumA
    refine sum_add (fun a => ?_) M.arr
    by_cases e : (a.2.1 == c && a.2.2.2 == q) = true
    · rw [if_pos e, if_pos e, if_pos e]
      show (if a.1 = s then 1 else 0) + List.count a.1 ws = List.count a.1 (s :: ws)
      rw [List.count_cons]
      by_cases e4 : a.1 = s
      · rw [if_pos e4]
        simp [e4]
        omega
      · have : ¬ s = a.1 := fun z => e4 z.symm
        rw [if_neg e4]
        simp [this]
    · rw [if_neg e, if_neg e, if_neg e]
theorem val_0 : ∀ (xs : List Nat) (kv : KV) (s : Nat), val ((xs.map fun b => (b, 1)).foldl (fun kv p => ins kv p.1 p.2) kv) s = if s ∈ xs then 1 else val kv s
  | [], kv, s => by simp
  | x :: xs, kv, s => by
    rw [List.map_cons, List.foldl_cons, val_0 xs, val_ins]
    by_cases e : s ∈ xs
    · simp [e]
    · by_cases e2 : s = x
      · simp [e2]
      · simp [e, e2]
theorem val_cnt {M : Mc} (w : Ok M) : ∀ (n : Nat) (l : List Nat) (s : Nat), l.length = n → val (cntOf M l) s = (waysOf M l).count s
  | 0, l, s, h => by
    rw [List.eq_nil_of_length_eq_zero h]
    show val (cnt0 M) s = M.beg.count s
    unfold cnt0
    rw [val_0]
    by_cases e : s ∈ M.beg
    · rw [if_pos e, count_one w.bnd e]
    · rw [if_neg e, List.count_eq_zero.mpr e]
      rfl
  | n + 1, l, s, h => by
    rcases List.eq_nil_or_concat l with rfl | ⟨r, c, rfl⟩
    · simp at h
    · rw [List.concat_eq_append] at h ⊢
      rw [ways_snoc, count_nx, show cntOf M (r ++ [c]) = nxC M (cntOf M r) c by unfold cntOf; rw [List.foldl_append]; rfl]
      unfold nxC
      rw [val_fold]
      have : val (cntOf M r) = fun p => (waysOf M r).count p := funext fun p => val_cnt w n r p (by simpa using h)
      rw [this]
      show 0 + _ = _
      omega
theorem tot_ways (M : Mc) : ∀ ws : List Nat, total M (fun s => ws.count s) = (ws.map fun s => (M.ends.filter fun e => e.1 == s).length).sum
  | [] => by
    unfold total
    have : (fun e : En2 => List.count e.1 ([] : List Nat)) = fun _ => 0 := by
      funext a
      simp
    rw [this, sum0]
    rfl
  | s :: ws => by
    rw [List.map_cons, List.sum_cons, ← tot_ways M ws]
    unfold total
    generalize M.ends = es
    induction es with
    | nil => rfl
    | cons e es ih =>
      simp only [List.map_cons, List.sum_cons, List.filter_cons]
      rw [ih, List.count_cons]
      by_cases h : e.1 = s
      · simp [h]
        omega
      · have h2 : ¬ s = e.1 := fun z => h z.symm
        simp [h, h2]
        omega
theorem count_runs_eq {M : Mc} (w : Ok M) (l : List Nat) : total M (val (cntOf M l)) = runs M l := by
  have : val (cntOf M l) = fun p => (waysOf M l).count p := funext fun p => val_cnt w _ l p rfl
  rw [this, tot_ways]
  rfl
/-! ### the vector of a row -/
def Vn (M : Mc) (l : List Nat) : List Nat := l.foldl (stV M) (v0 M)
theorem Vn_snoc (M : Mc) (l : List Nat) (c : Nat) : Vn M (l ++ [c]) = stV M (Vn M l) c := by
  unfold Vn
  rw [List.foldl_append]
  rfl
theorem stq_fold (v : List Nat) (c q : Nat) : ∀ (arr : List Ar) (lt : List Nat), (∀ a ∈ arr, a.2.2.2 < lt.length) → (arr.foldl (stq v c) lt).getD q 0 = lt.getD q 0 + sumA arr (fun p => v.getD p 0) c q
  | [], lt, _ => by simp [sumA]
  | a :: arr, lt, h => by
    rw [List.foldl_cons, stq_fold v c q arr _ fun b hb => by rw [stq_len]; exact h b (by simp [hb])]
    unfold sumA
    rw [List.map_cons, List.sum_cons, ← Nat.add_assoc]
    congr 1
    unfold stq
    by_cases e1 : (a.2.1 == c) = true
    · rw [e1, if_pos rfl]
      by_cases e3 : a.2.2.2 = q
      · subst e3
        have := h a (by simp)
        simp [List.getD_eq_getElem?_getD, this]
      · have : (a.2.2.2 == q) = false := by simpa using e3
        rw [this]
        simp [List.getD_eq_getElem?_getD, List.getElem?_set_ne e3]
    · have e1 : (a.2.1 == c) = false := by simpa using e1
      rw [e1]
      simp
theorem sumA_congr (arr : List Ar) (f g : Nat → Nat) (c q : Nat) (h : ∀ a ∈ arr, f a.1 = g a.1) : sumA arr f c q = sumA arr g c q := by
  unfold sumA
  congr 1
  apply List.map_congr_left
  intro a ha
  rw [h a ha]
theorem Vn_get {M : Mc} (w : Ok M) : ∀ (n : Nat) (l : List Nat) (s : Nat), l.length = n → s < M.many → (Vn M l).getD s 0 = (waysOf M l).count s
  | 0, l, s, h, hs => by
    rw [List.eq_nil_of_length_eq_zero h]
    show (v0 M).getD s 0 = M.beg.count s
    unfold v0
    rw [List.getD_eq_getElem?_getD, List.getElem?_map, List.getElem?_range hs]
    by_cases e : s ∈ M.beg
    · rw [count_one w.bnd e]
      simp [e]
    · rw [List.count_eq_zero.mpr e]
      simp [e]
  | n + 1, l, s, h, hs => by
    rcases List.eq_nil_or_concat l with rfl | ⟨r, c, rfl⟩
    · simp at h
    · rw [List.concat_eq_append] at h ⊢
      rw [ways_snoc, count_nx, Vn_snoc]
      unfold stV
      rw [stq_fold _ _ _ _ _ fun a ha => by rw [List.length_replicate]; exact (w.am a ha).2.2]
      rw [sumA_congr M.arr _ (fun p => (waysOf M r).count p) c s fun a ha => Vn_get w n r a.1 (by simpa using h) (w.am a ha).1]
      have : (List.replicate M.many 0).getD s 0 = 0 := by
        rw [List.getD_eq_getElem?_getD]
        simp [hs]
      rw [this]
      omega
theorem tot_Vn {M : Mc} (w : Ok M) (l : List Nat) : tot M (Vn M l) = runs M l := by
  have h := tot_ways M (waysOf M l)
  unfold runs
  rw [← h]
  unfold tot total
  congr 1
  apply List.map_congr_left
  intro e he
  exact Vn_get w _ l e.1 rfl (w.em e he)
end Lp
namespace Lp
open PySem PySem.Spec L2 Dv Lw
/-! ### the table holds each vector once, with its first row -/
def ddA (M : Mc) (T : TV) (r : List Nat) : TV := sdV T (Vn M r, r)
def dd (M : Mc) (R : List (List Nat)) : TV := R.foldl (ddA M) []
def stG (M : Mc) (sg : List Nat) (T : TV) (q : List Nat × List Nat) : TV := sg.foldl (fun T c => sdV T (stV M q.1 c, q.2 ++ [c])) T
theorem hasV_sd {T : TV} {p : List Nat × List Nat} {v : List Nat} (h : hasV T v = true) : hasV (sdV T p) v = true := by
  unfold sdV
  split
  · exact h
  · unfold hasV at *
    rw [List.any_append, h]
    rfl
theorem hasV_self (T : TV) (p : List Nat × List Nat) : hasV (sdV T p) p.1 = true := by
  unfold sdV
  split
  · assumption
  · unfold hasV
    rw [List.any_append]
    simp
theorem hasV_fold {M : Mc} {v : List Nat} (q : List Nat × List Nat) : ∀ (sg : List Nat) (T : TV), hasV T v = true → hasV (stG M sg T q) v = true
  | [], _, h => h
  | c :: sg, T, h => hasV_fold q sg _ (hasV_sd h)
theorem hasV_all {M : Mc} (q : List Nat × List Nat) : ∀ (sg : List Nat) (T : TV) (c : Nat), c ∈ sg → hasV (stG M sg T q) (stV M q.1 c) = true
  | d :: sg, T, c, h => by
    rcases List.mem_cons.mp h with rfl | h
    · exact hasV_fold q sg _ (hasV_self T (stV M q.1 c, q.2 ++ [c]))
    · exact hasV_all q sg _ c h
theorem stG_id {M : Mc} (q : List Nat × List Nat) : ∀ (sg : List Nat) (T : TV), (∀ c ∈ sg, hasV T (stV M q.1 c) = true) → stG M sg T q = T
  | [], _, _ => rfl
  | c :: sg, T, h => by
    have e : sdV T (stV M q.1 c, q.2 ++ [c]) = T := by
      unfold sdV
      rw [if_pos (h c (by simp))]
    show stG M sg (sdV T (stV M q.1 c, q.2 ++ [c])) q = T
    rw [e]
    exact stG_id q sg T fun d hd => h d (by simp [hd])
theorem hasV_later {M : Mc} {sg : List Nat} {v : List Nat} : ∀ (Q : List (List Nat × List Nat)) (T : TV), hasV T v = true → hasV (Q.foldl (stG M sg) T) v = true
  | [], _, h => h
  | q :: Q, T, h => hasV_later Q _ (hasV_fold q sg T h)
theorem hasV_mem {M : Mc} {sg : List Nat} {q : List Nat × List Nat} : ∀ (Q : List (List Nat × List Nat)) (T : TV), q ∈ Q → ∀ c ∈ sg, hasV (Q.foldl (stG M sg) T) (stV M q.1 c) = true
  | p :: Q, T, h, c, hc => by
    rcases List.mem_cons.mp h with rfl | h
    · exact hasV_later Q _ (hasV_all q sg T c hc)
    · exact hasV_mem Q _ h c hc
theorem dd_snoc (M : Mc) (R : List (List Nat)) (r : List Nat) : dd M (R ++ [r]) = sdV (dd M R) (Vn M r, r) := by
  unfold dd
  rw [List.foldl_append]
  rfl
theorem dd_step (M : Mc) (sg : List Nat) : ∀ (n : Nat) (R : List (List Nat)), R.length = n → (dd M R).foldl (stG M sg) [] = R.foldl (fun T r => stG M sg T (Vn M r, r)) []
  | 0, R, h => by
    rw [List.eq_nil_of_length_eq_zero h]
    rfl
  | n + 1, R, h => by
    rcases List.eq_nil_or_concat R with rfl | ⟨Q, r, rfl⟩
    · simp at h
    · rw [List.concat_eq_append] at h ⊢
      have ih := dd_step M sg n Q (by simpa using h)
      rw [List.foldl_append, ← ih, dd_snoc]
      by_cases e : hasV (dd M Q) (Vn M r) = true
      · have e1 : sdV (dd M Q) (Vn M r, r) = dd M Q := by unfold sdV; rw [if_pos e]
        rw [e1]
        unfold hasV at e
        obtain ⟨q, hq, h2⟩ := List.any_eq_true.mp e
        have h2 := of_decide_eq_true h2
        refine (stG_id (M := M) (Vn M r, r) sg _ fun c hc => ?_).symm
        have := hasV_mem (M := M) (sg := sg) (q := q) (dd M Q) [] hq c hc
        rw [h2] at this
        exact this
      · have e1 : sdV (dd M Q) (Vn M r, r) = dd M Q ++ [(Vn M r, r)] := by unfold sdV; rw [if_neg e]
        rw [e1, List.foldl_append]
        rfl
theorem dd_flat (M : Mc) (sg : List Nat) (R : List (List Nat)) : dd M (R.flatMap (exR sg)) = R.foldl (fun T r => stG M sg T (Vn M r, r)) [] := by
  have go : ∀ (R : List (List Nat)) (T : TV), (R.flatMap (exR sg)).foldl (ddA M) T = R.foldl (fun T r => stG M sg T (Vn M r, r)) T := by
    intro R
    induction R with
    | nil => intro T; rfl
    | cons r R ih =>
      intro T
      rw [List.flatMap_cons, List.foldl_append, List.foldl_cons, ih]
      congr 1
      unfold exR stG
      rw [List.foldl_map]
      congr 1
      funext T c
      unfold ddA
      rw [Vn_snoc]
  exact go R []
theorem tabN_dd (M : Mc) (sg : List Nat) : ∀ n : Nat, tabN M sg n = (dd M (rowsN sg n)).map fun q => (q.2, q.1)
  | 0 => rfl
  | n + 1 => by
    rw [tabN, tabN_dd M sg n, rowsN, dd_flat, ← dd_step M sg _ _ rfl]
    congr 1
    unfold nxT
    rw [List.foldl_map]
    rfl
/-! ### rows in order -/
theorem lt_app {a b : List Nat} (x y : List Nat) : a.length = b.length → a < b → a ++ x < b ++ y := by
  induction a generalizing b with
  | nil =>
    intro h h2
    cases b with
    | nil => exact absurd h2 (List.lt_irrefl _)
    | cons _ _ => cases h
  | cons c a ih =>
    intro h h2
    cases b with
    | nil => cases h
    | cons d b =>
      rw [List.cons_lt_cons_iff] at h2
      rw [List.cons_append, List.cons_append, List.cons_lt_cons_iff]
      rcases h2 with h2 | ⟨h2, h3⟩
      · exact .inl h2
      · exact .inr ⟨h2, ih (by simpa using h) h3⟩
theorem app_lt {x y : List Nat} (a : List Nat) (h : x < y) : a ++ x < a ++ y := by
  induction a with
  | nil => exact h
  | cons c a ih =>
    rw [List.cons_append, List.cons_append, List.cons_lt_cons_iff]
    exact .inr ⟨rfl, ih⟩
theorem rowsN_sorted {sg : List Nat} (hs : sg.Pairwise (· < ·)) : ∀ n : Nat, (rowsN sg n).Pairwise (· < ·)
  | 0 => by simp [rowsN]
  | n + 1 => by
    rw [rowsN, List.pairwise_flatMap]
    refine ⟨fun r _ => ?_, ?_⟩
    · unfold exR
      rw [List.pairwise_map]
      refine hs.imp fun {c d} h => app_lt r ?_
      rw [List.cons_lt_cons_iff]
      exact .inl h
    · refine List.Pairwise.imp_of_mem (fun {a b} ha hb h => ?_) (rowsN_sorted hs n)
      intro x hx y hy
      obtain ⟨c, _, rfl⟩ := List.mem_map.mp hx
      obtain ⟨d, _, rfl⟩ := List.mem_map.mp hy
      exact lt_app [c] [d] (by rw [rowsN_size ha, rowsN_size hb]) h
/-! ### the best row -/
def bstS (M : Mc) (b : Bst) (r : List Nat) : Bst := bstA b (runs M r) r
def Top (M : Mc) (R : List (List Nat)) (b : Bst) : Prop := match b with
  | none => R = []
  | some q => q.2 ∈ R ∧ q.1 = runs M q.2 ∧ ∀ r ∈ R, runs M r ≤ q.1 ∧ (runs M r = q.1 → ¬ r < q.2)
theorem top_snoc {M : Mc} {R : List (List Nat)} {b : Bst} (h : Top M R b) (r : List Nat) : Top M (R ++ [r]) (bstS M b r) := by
  unfold bstS bstA
  cases b with
  | none =>
    have h : R = [] := h
    subst h
    exact ⟨by simp, rfl, fun s hs => by
      have : s = r := by simpa using hs
      subst this
      exact ⟨Nat.le_refl _, fun _ => List.lt_irrefl _⟩⟩
  | some q =>
    obtain ⟨h1, h2, h3⟩ := h
    by_cases c : q.1 < runs M r ∨ (runs M r = q.1 ∧ r < q.2)
    · simp only [if_pos c]
      refine ⟨by simp, rfl, fun s hs => ?_⟩
      rcases List.mem_append.mp hs with hs | hs
      · obtain ⟨h4, h5⟩ := h3 s hs
        rcases c with c | ⟨c1, c2⟩
        · exact ⟨by show runs M s ≤ runs M r; omega, fun e => by have e : runs M s = runs M r := e; omega⟩
        · refine ⟨by show runs M s ≤ runs M r; omega, fun e z => ?_⟩
          have e : runs M s = runs M r := e
          exact h5 (by omega) (List.lt_trans z c2)
      · have : s = r := by simpa using hs
        subst this
        exact ⟨Nat.le_refl _, fun _ => List.lt_irrefl _⟩
    · simp only [if_neg c]
      refine ⟨by simp [h1], h2, fun s hs => ?_⟩
      rcases List.mem_append.mp hs with hs | hs
      · exact h3 s hs
      · have : s = r := by simpa using hs
        subst this
        exact ⟨by omega, fun e z => c (.inr ⟨e, z⟩)⟩
theorem top_fold (M : Mc) : ∀ (R pre : List (List Nat)) (b : Bst), Top M pre b → Top M (pre ++ R) (R.foldl (bstS M) b)
  | [], pre, b, h => by rw [List.append_nil]; exact h
  | r :: R, pre, b, h => by
    have := top_fold M R (pre ++ [r]) _ (top_snoc h r)
    rw [List.append_assoc] at this
    exact this
theorem top_one {M : Mc} {R : List (List Nat)} {b b' : Bst} (h : Top M R b) (h' : Top M R b') : b = b' := by
  cases b with
  | none =>
    have h : R = [] := h
    cases b' with
    | none => rfl
    | some q => have := h'.1; rw [h] at this; cases this
  | some q =>
    cases b' with
    | none =>
      have h' : R = [] := h'
      have := h.1
      rw [h'] at this
      cases this
    | some q' =>
      obtain ⟨a1, a2, a3⟩ := h
      obtain ⟨b1, b2, b3⟩ := h'
      have c1 := a3 _ b1
      have c2 := b3 _ a1
      have e : q.1 = q'.1 := by omega
      have l1 := c1.2 (by omega)
      have l2 := c2.2 (by omega)
      have e2 : q.2 = q'.2 := List.le_antisymm (show ¬ q'.2 < q.2 from l1) (show ¬ q.2 < q'.2 from l2)
      exact congrArg some (Prod.ext e e2)
theorem dd_sub (M : Mc) : ∀ (R : List (List Nat)) (T : TV), ∀ q ∈ R.foldl (ddA M) T, q ∈ T ∨ (q.1 = Vn M q.2 ∧ q.2 ∈ R)
  | [], _, q, h => .inl h
  | r :: R, T, q, h => by
    rcases dd_sub M R _ q h with h | ⟨h1, h2⟩
    · rcases sdV_mem h with h | rfl
      · exact .inl h
      · exact .inr ⟨rfl, by simp⟩
    · exact .inr ⟨h1, by simp [h2]⟩
theorem sdV_sub {T : TV} {p q : List Nat × List Nat} (h : q ∈ T) : q ∈ sdV T p := by
  unfold sdV
  split
  · exact h
  · simp [h]
theorem dd_first (M : Mc) : ∀ (n : Nat) (R : List (List Nat)), R.length = n → R.Pairwise (· < ·) → ∀ r ∈ R, ∃ q ∈ dd M R, q.1 = Vn M r ∧ q.2 ∈ R ∧ ¬ r < q.2
  | 0, R, h, _, r, hr => by
    rw [List.eq_nil_of_length_eq_zero h] at hr
    cases hr
  | n + 1, R, h, hp, r, hr => by
    rcases List.eq_nil_or_concat R with rfl | ⟨Q, s, rfl⟩
    · simp at h
    · rw [List.concat_eq_append] at *
      rw [List.pairwise_append] at hp
      rw [dd_snoc]
      rcases List.mem_append.mp hr with hr | hr
      · obtain ⟨q, h1, h2, h3, h4⟩ := dd_first M n Q (by simpa using h) hp.1 r hr
        exact ⟨q, sdV_sub h1, h2, by simp [h3], h4⟩
      · have e : r = s := by simpa using hr
        subst e
        by_cases c : hasV (dd M Q) (Vn M r) = true
        · have c2 := c
          unfold hasV at c2
          obtain ⟨q, hq, h2⟩ := List.any_eq_true.mp c2
          have hq2 : q.2 ∈ Q := by
            rcases dd_sub M Q [] q hq with z | ⟨_, z⟩
            · cases z
            · exact z
          exact ⟨q, sdV_sub hq, of_decide_eq_true h2, by simp [hq2], fun z => List.lt_irrefl _ (List.lt_trans z (hp.2.2 q.2 hq2 r (by simp)))⟩
        · refine ⟨(Vn M r, r), ?_, rfl, by simp, List.lt_irrefl _⟩
          unfold sdV
          rw [if_neg c]
          simp
theorem sgs_sorted (M : Mc) : (sgs M).Pairwise (· < ·) := List.Pairwise.sublist List.filter_sublist (by decide)
/-- the two ways to the best row -/
theorem most_eq {M : Mc} (w : Ok M) (n : Nat) : (tabN M (sgs M) n).foldl (bstM M) none = (rowsN (sgs M) n).foldl (bstS M) none := by
  have sub : ∀ q ∈ dd M (rowsN (sgs M) n), q.1 = Vn M q.2 ∧ q.2 ∈ rowsN (sgs M) n := fun q hq => by
    rcases dd_sub M _ [] q hq with z | z
    · cases z
    · exact z
  have e1 : (tabN M (sgs M) n).foldl (bstM M) none = ((dd M (rowsN (sgs M) n)).map (·.2)).foldl (bstS M) none := by
    rw [tabN_dd, List.foldl_map, List.foldl_map]
    have go : ∀ (Q : TV) (b : Bst), (∀ q ∈ Q, q.1 = Vn M q.2) → Q.foldl (fun b q => bstM M b (q.2, q.1)) b = Q.foldl (fun b q => bstS M b q.2) b := by
      intro Q
      induction Q with
      | nil => intro b _; rfl
      | cons q Q ih =>
        intro b h
        rw [List.foldl_cons, List.foldl_cons, ih _ fun p hp => h p (by simp [hp])]
        congr 1
        show bstA b (tot M q.1) q.2 = bstA b (runs M q.2) q.2
        rw [h q (by simp), tot_Vn w]
    exact go _ _ fun q hq => (sub q hq).1
  rw [e1]
  have t1 := top_fold M ((dd M (rowsN (sgs M) n)).map (·.2)) [] none rfl
  have t2 := top_fold M (rowsN (sgs M) n) [] none rfl
  rw [List.nil_append] at t1 t2
  refine top_one ?_ t2
  generalize ((dd M (rowsN (sgs M) n)).map (·.2)).foldl (bstS M) none = b at t1
  have first := dd_first M _ (rowsN (sgs M) n) rfl (rowsN_sorted (sgs_sorted M) n)
  cases b with
  | none =>
    have t1 : (dd M (rowsN (sgs M) n)).map (·.2) = [] := t1
    show rowsN (sgs M) n = []
    cases hR : rowsN (sgs M) n with
    | nil => rfl
    | cons r R =>
      obtain ⟨q, h1, _⟩ := first r (by rw [hR]; simp)
      have : dd M (rowsN (sgs M) n) = [] := by simpa using t1
      rw [this] at h1
      cases h1
  | some b =>
    obtain ⟨h1, h2, h3⟩ := t1
    obtain ⟨q, hq, e⟩ := List.mem_map.mp h1
    refine ⟨e ▸ (sub q hq).2, h2, fun r hr => ?_⟩
    obtain ⟨p, p1, p2, p3, p4⟩ := first r hr
    obtain ⟨h4, h5⟩ := h3 p.2 (List.mem_map.mpr ⟨p, p1, rfl⟩)
    have er : runs M r = runs M p.2 := by
      rw [← tot_Vn w r, ← p2, (sub p p1).1, tot_Vn w]
    refine ⟨by omega, fun e2 z => ?_⟩
    have l1 := h5 (by omega)
    -- p.2 is no more than r, r is less than the best
    rcases Classical.em (p.2 < r) with c | c
    · exact l1 (List.lt_trans c z)
    · have : p.2 = r := List.le_antisymm (show ¬ r < p.2 from p4) (show ¬ p.2 < r from c)
      exact l1 (this ▸ z)
end Lp
namespace Lp
open PySem PySem.Spec L2 Dv Lw
theorem alike_same {d : D} (h : tupD d 11 = true) (hs : small d) : F__law_alike [(.imm, d), (.imm, d)] = some ((false, .bool true), []) := by
  obtain ⟨b, h1, h2⟩ := e_alike d d h h hs
  have : b = true := h2.mpr rfl
  rw [h1, this]
def bstL (M : Mc) (b : Bst) (r : List Nat) : Bst := match b with
  | none => some (runs M r, r)
  | some q => if q.1 < runs M r then some (runs M r, r) else b
theorem bst_mem (M : Mc) : ∀ (R : List (List Nat)) (b : Bst) (q : Nat × List Nat), R.foldl (bstS M) b = some q → b = some q ∨ q.2 ∈ R
  | [], _, _, h => .inl h
  | r :: R, b, q, h => by
    rcases bst_mem M R _ q h with h | h
    · unfold bstS bstA at h
      cases b with
      | none => cases h; exact .inr (by simp)
      | some p =>
        simp only at h
        split at h
        · cases h; exact .inr (by simp)
        · exact .inl h
    · exact .inr (by simp [h])
theorem bstL_eq (M : Mc) : ∀ (n : Nat) (R : List (List Nat)), R.length = n → R.Pairwise (· < ·) → R.foldl (bstL M) none = R.foldl (bstS M) none
  | 0, R, h, _ => by
    rw [List.eq_nil_of_length_eq_zero h]
    rfl
  | n + 1, R, h, hp => by
    rcases List.eq_nil_or_concat R with rfl | ⟨Q, s, rfl⟩
    · simp at h
    · rw [List.concat_eq_append] at *
      rw [List.pairwise_append] at hp
      rw [List.foldl_append, List.foldl_append, bstL_eq M n Q (by simpa using h) hp.1]
      show bstL M (Q.foldl (bstS M) none) s = bstS M (Q.foldl (bstS M) none) s
      cases e : Q.foldl (bstS M) none with
      | none => rfl
      | some q =>
        have hq : q.2 ∈ Q := by
          rcases bst_mem M Q none q e with z | z
          · cases z
          · exact z
        have hlt := hp.2.2 q.2 hq s (by simp)
        unfold bstL bstS bstA
        simp only
        by_cases c : q.1 < runs M s
        · rw [if_pos c, if_pos (.inl c)]
        · rw [if_neg c, if_neg]
          rintro (z | ⟨_, z⟩)
          · exact c z
          · exact List.lt_irrefl _ (List.lt_trans z hlt)
/-! ### the law's turn -/
def lE (L : List D) (ds : List Int) (n : Nat) (t m3 k4 s5 n6 b7 r8 m9 : Option D) : En := [some (.ext, .list L), some (.own, wD ds n), jk t, jk m3, jk k4, jk s5, jk n6, jk b7, jk r8, jk m9, none, none, none]
theorem draw_row (L : List D) (ds : List Int) (n k : Nat) (hk : k ≤ 1000) (t m3 k4 s5 n6 b7 r8 m9 : Option D) : ∃ (cs : List Nat) (n' : Nat), cs.length = k ∧
    lcL (fun d e => (bindT (.n 11) d e).bind fun e1 => (evIfs P_law [] e1).bind fun b => if b.1 = true then (evE P_law el_law_0 b.2).map fun y => (some y.1, y.2) else some (none, b.2)) [11] ((List.range k).map eI) (lE L ds n t m3 k4 s5 n6 b7 r8 m9) = some (cs.map eC, lE L ds n' t m3 k4 s5 n6 b7 r8 m9) := by
  obtain ⟨rs, e', h1, cs, m, h2, h3, h5⟩ := lc_pre (f := fun d e => (bindT (.n 11) d e).bind fun e1 => (evIfs P_law [] e1).bind fun b => if b.1 = true then (evE P_law el_law_0 b.2).map fun y => (some y.1, y.2) else some (none, b.2)) (own := [11]) eI
    (fun p acc e => ∃ (cs : List Nat) (m : Nat), acc = cs.map eC ∧ cs.length = p.length ∧ e = lE L ds m t m3 k4 s5 n6 b7 r8 m9) (List.range k) [] [] _ ⟨[], n, rfl, rfl, rfl⟩ (fun p a q acc e he ⟨cs, m, h2, h3, h5⟩ => by
      subst h2 h5
      obtain ⟨c, _, hp⟩ := e_pickC ds m [97, 98] (by decide) (by decide)
      refine ⟨some (eC c), [some (.ext, .list L), some (.own, wD ds (m + 1)), jk t, jk m3, jk k4, jk s5, jk n6, jk b7, jk r8, jk m9, none, some (.imm, eI a), none], ?_, cs ++ [c], m + 1, by simp, by simp [h3], rfl⟩
      unfold lE
      simp only [el_law_0, evSs, evS, evE, evEs, evO, evIfs, evF, testE, getO, getP, getV_eq, getX, setC, rd, rdAll, sl_0, sl_s, Option.bind_some, Option.map_some, Option.bind_none, Option.map_none, List.set_cons_zero, List.set_cons_succ, q_add, q_sub, q_mod, q_fdiv, q_mulr, q_adds, q_addl, q_addt, g_add, g_sub, g_adds, b_len_l, b_len_t, b_len_s, b_int_i, b_abs_i, b_tup_l, b_tup_t, k_lt, k_gt, k_le, k_ge, w_at, w_put, w_draws, List.length_map, startE, List.map_cons, List.map_nil, flIn, List.length_cons, List.length_nil, List.replicate, List.append_nil, List.cons_append, List.nil_append, outsC, Nat.zero_add, Nat.reduceAdd, Nat.reduceSub, Nat.sub_self, ↓reduceIte, if_true, if_false, Bool.false_eq_true, Int.reduceLT, Int.reduceNeg, Int.reducePow, Bool.not_true, Bool.not_false, decide_true, decide_false, nn_n, nn_b, nn_i, nn_s, nn_l, nn_t, k_isN, k_notN, argsC, backC, setV_0, setV_s, fr_n, fr_i, fr_o, fr_j, jk_s, bind_n, bind_t, bind_0, bind_s, u_ty, getX, wipeOk, wipeF, unwipe, List.all_cons, List.all_nil, List.foldr_cons, List.foldr_nil, Bool.and_true, Bool.true_and, lendI, itemsD, unlend, outI, q_pow18, P_law, ab_e, hp])
  subst h5
  rw [List.nil_append] at h2 h3
  subst h2
  exact ⟨cs, m, by simpa using h3, h1⟩
theorem law_1 (L : List D) (ds : List Int) (n : Nat) {M : Mc} (w : Ok M) (d : D) (t k4 s5 n6 b7 r8 m9 : Option D) :
    ∃ n' k8, ((bindT (.n 4) d (lE L ds n t (some (eM M)) k4 s5 n6 b7 r8 m9)).bind fun e1 => evSs P_law bd_law_1 e1) = some (.nx (lE L ds n' t (some (eM M)) (some d) s5 n6 b7 k8 m9)) := by
  have hn : F__law_next [(.own, wD ds n), (.imm, .int 6)] = some ((false, eI (nx ds n 6)), [wD ds (n + 1)]) := e_nextN ds n 6 (by omega)
  have hk : nx ds n 6 ≤ 5 := by have := nx_lt ds n (m := 6) (by omega); omega
  obtain ⟨cs, n', hc, h1⟩ := draw_row L ds (n + 1) (nx ds n 6) (by omega) t (some (eM M)) (some d) s5 n6 b7 r8 m9
  have rr := rng_e (n := nx ds n 6) (by omega)
  have z := sz_e (enc := eI) (xs := List.range (nx ds n 6)) (by simp; omega)
  have hj := j_C (cs := cs) (by omega)
  have hmt : metTy .join (.str (S [])) = true := rfl
  have ha := e_count w cs
  have hb := e_runs w cs (by omega)
  rw [count_runs_eq w] at ha
  have hal := alike_same (d := eI (runs M cs)) rfl (by simp [small])
  have hb4 : bindT (.n 4) d (lE L ds n t (some (eM M)) k4 s5 n6 b7 r8 m9) = some (lE L ds n t (some (eM M)) (some d) s5 n6 b7 r8 m9) := by
    unfold lE
    simp only [evSs, evS, evE, evEs, evO, evIfs, evF, testE, getO, getP, getV_eq, getX, setC, rd, rdAll, sl_0, sl_s, Option.bind_some, Option.map_some, Option.bind_none, Option.map_none, List.set_cons_zero, List.set_cons_succ, q_add, q_sub, q_mod, q_fdiv, q_mulr, q_adds, q_addl, q_addt, g_add, g_sub, g_adds, b_len_l, b_len_t, b_len_s, b_int_i, b_abs_i, b_tup_l, b_tup_t, k_lt, k_gt, k_le, k_ge, w_at, w_put, w_draws, List.length_map, startE, List.map_cons, List.map_nil, flIn, List.length_cons, List.length_nil, List.replicate, List.append_nil, List.cons_append, List.nil_append, outsC, Nat.zero_add, Nat.reduceAdd, Nat.reduceSub, Nat.sub_self, ↓reduceIte, if_true, if_false, Bool.false_eq_true, Int.reduceLT, Int.reduceNeg, Int.reducePow, Bool.not_true, Bool.not_false, decide_true, decide_false, nn_n, nn_b, nn_i, nn_s, nn_l, nn_t, k_isN, k_notN, argsC, backC, setV_0, setV_s, fr_n, fr_i, fr_o, fr_j, jk_s, bind_n, bind_t, bind_0, bind_s, u_ty, getX, wipeOk, wipeF, unwipe, List.all_cons, List.all_nil, List.foldr_cons, List.foldr_nil, Bool.and_true, Bool.true_and, lendI, itemsD, unlend, outI, q_pow18]
  refine ⟨n', some (eS cs), ?_⟩
  rw [hb4, Option.bind_some]
  have s1 : evS P_law (.asg 8 (.met .join (.str "") [(.lc el_law_0 (.n 11) (.rng [(.call 2 [(.ow 1), (.int 6)])]) [] [11])])) (lE L ds n t (some (eM M)) (some d) s5 n6 b7 r8 m9) = some (.nx (lE L ds n' t (some (eM M)) (some d) s5 n6 b7 (some (eS cs)) m9)) := by
    unfold lE at h1 ⊢
    generalize (List.range (nx ds n 6)).map eI = LL at *
    generalize cs.map eC = CC at *
    generalize eM M = MM at *
    try simp only [evSs, evS, evE, evEs, evO, evIfs, evF, testE, getO, getP, getV_eq, getX, setC, rd, rdAll, sl_0, sl_s, Option.bind_some, Option.map_some, Option.bind_none, Option.map_none, List.set_cons_zero, List.set_cons_succ, q_add, q_sub, q_mod, q_fdiv, q_mulr, q_adds, q_addl, q_addt, g_add, g_sub, g_adds, b_len_l, b_len_t, b_len_s, b_int_i, b_abs_i, b_tup_l, b_tup_t, k_lt, k_gt, k_le, k_ge, w_at, w_put, w_draws, List.length_map, startE, List.map_cons, List.map_nil, flIn, List.length_cons, List.length_nil, List.replicate, List.append_nil, List.cons_append, List.nil_append, outsC, Nat.zero_add, Nat.reduceAdd, Nat.reduceSub, Nat.sub_self, ↓reduceIte, if_true, if_false, Bool.false_eq_true, Int.reduceLT, Int.reduceNeg, Int.reducePow, Bool.not_true, Bool.not_false, decide_true, decide_false, nn_n, nn_b, nn_i, nn_s, nn_l, nn_t, k_isN, k_notN, argsC, backC, setV_0, setV_s, fr_n, fr_i, fr_o, fr_j, jk_s, bind_n, bind_t, bind_0, bind_s, u_ty, getX, wipeOk, wipeF, unwipe, List.all_cons, List.all_nil, List.foldr_cons, List.foldr_nil, Bool.and_true, Bool.true_and, lendI, itemsD, unlend, outI, q_pow18] at h1
    simp only [evSs, evS, evE, evEs, evO, evIfs, evF, testE, getO, getP, getV_eq, getX, setC, rd, rdAll, sl_0, sl_s, Option.bind_some, Option.map_some, Option.bind_none, Option.map_none, List.set_cons_zero, List.set_cons_succ, q_add, q_sub, q_mod, q_fdiv, q_mulr, q_adds, q_addl, q_addt, g_add, g_sub, g_adds, b_len_l, b_len_t, b_len_s, b_int_i, b_abs_i, b_tup_l, b_tup_t, k_lt, k_gt, k_le, k_ge, w_at, w_put, w_draws, List.length_map, startE, List.map_cons, List.map_nil, flIn, List.length_cons, List.length_nil, List.replicate, List.append_nil, List.cons_append, List.nil_append, outsC, Nat.zero_add, Nat.reduceAdd, Nat.reduceSub, Nat.sub_self, ↓reduceIte, if_true, if_false, Bool.false_eq_true, Int.reduceLT, Int.reduceNeg, Int.reducePow, Bool.not_true, Bool.not_false, decide_true, decide_false, nn_n, nn_b, nn_i, nn_s, nn_l, nn_t, k_isN, k_notN, argsC, backC, setV_0, setV_s, fr_n, fr_i, fr_o, fr_j, jk_s, bind_n, bind_t, bind_0, bind_s, u_ty, getX, wipeOk, wipeF, unwipe, List.all_cons, List.all_nil, List.foldr_cons, List.foldr_nil, Bool.and_true, Bool.true_and, lendI, itemsD, unlend, outI, q_pow18, P_law, S_nil, hmt, hn, rr, z, h1, hj]
  have s2 : evE P_law (.not (.call 4 [(.call 100 [(.v 3), (.v 8)]), (.call 108 [(.v 3), (.v 8)])])) (lE L ds n' t (some (eM M)) (some d) s5 n6 b7 (some (eS cs)) m9) = some (.bool false, lE L ds n' t (some (eM M)) (some d) s5 n6 b7 (some (eS cs)) m9) := by
    unfold lE
    generalize eI (runs M cs) = RR at *
    generalize eS cs = CC at *
    generalize eM M = MM at *
    simp only [evSs, evS, evE, evEs, evO, evIfs, evF, testE, getO, getP, getV_eq, getX, setC, rd, rdAll, sl_0, sl_s, Option.bind_some, Option.map_some, Option.bind_none, Option.map_none, List.set_cons_zero, List.set_cons_succ, q_add, q_sub, q_mod, q_fdiv, q_mulr, q_adds, q_addl, q_addt, g_add, g_sub, g_adds, b_len_l, b_len_t, b_len_s, b_int_i, b_abs_i, b_tup_l, b_tup_t, k_lt, k_gt, k_le, k_ge, w_at, w_put, w_draws, List.length_map, startE, List.map_cons, List.map_nil, flIn, List.length_cons, List.length_nil, List.replicate, List.append_nil, List.cons_append, List.nil_append, outsC, Nat.zero_add, Nat.reduceAdd, Nat.reduceSub, Nat.sub_self, ↓reduceIte, if_true, if_false, Bool.false_eq_true, Int.reduceLT, Int.reduceNeg, Int.reducePow, Bool.not_true, Bool.not_false, decide_true, decide_false, nn_n, nn_b, nn_i, nn_s, nn_l, nn_t, k_isN, k_notN, argsC, backC, setV_0, setV_s, fr_n, fr_i, fr_o, fr_j, jk_s, bind_n, bind_t, bind_0, bind_s, u_ty, getX, wipeOk, wipeF, unwipe, List.all_cons, List.all_nil, List.foldr_cons, List.foldr_nil, Bool.and_true, Bool.true_and, lendI, itemsD, unlend, outI, q_pow18, P_law, ha, hb, hal]
  unfold bd_law_1
  rw [ss_cons s1, ss_cons (if_no s2), ss_nil]
theorem law_4 (L : List D) (ds : List Int) (n : Nat) {M : Mc} (w : Ok M) (r : List Nat) (hr : r.length ≤ 5) (b : Bst) (t k4 s5 n6 r8 m9 : Option D) :
    ((bindT (.n 8) (eS r) (lE L ds n t (some (eM M)) k4 s5 n6 (some (eB b)) r8 m9)).bind fun e1 => evSs P_law bd_law_4 e1) = some (.nx (lE L ds n t (some (eM M)) k4 s5 n6 (some (eB (bstL M b r))) (some (eS r)) (some (eI (runs M r))))) := by
  have hb := e_runs w r hr
  unfold bstL
  generalize runs M r = m at *
  cases b with
  | none =>
    unfold lE eB
    simp only
    generalize eS r = R1 at *
    generalize eM M = MM at *
    simp only [bd_law_4, evSs, evS, evE, evEs, evO, evIfs, evF, testE, getO, getP, getV_eq, getX, setC, rd, rdAll, sl_0, sl_s, Option.bind_some, Option.map_some, Option.bind_none, Option.map_none, List.set_cons_zero, List.set_cons_succ, q_add, q_sub, q_mod, q_fdiv, q_mulr, q_adds, q_addl, q_addt, g_add, g_sub, g_adds, b_len_l, b_len_t, b_len_s, b_int_i, b_abs_i, b_tup_l, b_tup_t, k_lt, k_gt, k_le, k_ge, w_at, w_put, w_draws, List.length_map, startE, List.map_cons, List.map_nil, flIn, List.length_cons, List.length_nil, List.replicate, List.append_nil, List.cons_append, List.nil_append, outsC, Nat.zero_add, Nat.reduceAdd, Nat.reduceSub, Nat.sub_self, ↓reduceIte, if_true, if_false, Bool.false_eq_true, Int.reduceLT, Int.reduceNeg, Int.reducePow, Bool.not_true, Bool.not_false, decide_true, decide_false, nn_n, nn_b, nn_i, nn_s, nn_l, nn_t, k_isN, k_notN, argsC, backC, setV_0, setV_s, fr_n, fr_i, fr_o, fr_j, jk_s, bind_n, bind_t, bind_0, bind_s, u_ty, getX, wipeOk, wipeF, unwipe, List.all_cons, List.all_nil, List.foldr_cons, List.foldr_nil, Bool.and_true, Bool.true_and, lendI, itemsD, unlend, outI, q_pow18, P_law, hb]
  | some q =>
    obtain ⟨qm, qr⟩ := q
    have i0 : idxD (.tuple [eI qm, eS qr]) (.int 0) = some (eI qm) := t_0
    have nn : isNone (.tuple [eI qm, eS qr]) = false := rfl
    have e1 : ((qm : Int) < (m : Int)) ↔ qm < m := by omega
    by_cases c : qm < m
    · have c2 := e1.mpr c
      unfold lE eB
      simp only [if_pos c]
      generalize hq : (PyData.tuple [eI qm, eS qr]) = QQ at *
      generalize eS r = R1 at *
      generalize eM M = MM at *
      simp only [bd_law_4, evSs, evS, evE, evEs, evO, evIfs, evF, testE, getO, getP, getV_eq, getX, setC, rd, rdAll, sl_0, sl_s, Option.bind_some, Option.map_some, Option.bind_none, Option.map_none, List.set_cons_zero, List.set_cons_succ, q_add, q_sub, q_mod, q_fdiv, q_mulr, q_adds, q_addl, q_addt, g_add, g_sub, g_adds, b_len_l, b_len_t, b_len_s, b_int_i, b_abs_i, b_tup_l, b_tup_t, k_lt, k_gt, k_le, k_ge, w_at, w_put, w_draws, List.length_map, startE, List.map_cons, List.map_nil, flIn, List.length_cons, List.length_nil, List.replicate, List.append_nil, List.cons_append, List.nil_append, outsC, Nat.zero_add, Nat.reduceAdd, Nat.reduceSub, Nat.sub_self, ↓reduceIte, if_true, if_false, Bool.false_eq_true, Int.reduceLT, Int.reduceNeg, Int.reducePow, Bool.not_true, Bool.not_false, decide_true, decide_false, nn_n, nn_b, nn_i, nn_s, nn_l, nn_t, k_isN, k_notN, argsC, backC, setV_0, setV_s, fr_n, fr_i, fr_o, fr_j, jk_s, bind_n, bind_t, bind_0, bind_s, u_ty, getX, wipeOk, wipeF, unwipe, List.all_cons, List.all_nil, List.foldr_cons, List.foldr_nil, Bool.and_true, Bool.true_and, lendI, itemsD, unlend, outI, q_pow18, P_law, hb, nn, i0, c2]
    · have c2 : ¬ ((qm : Int) < (m : Int)) := fun z => c (e1.mp z)
      unfold lE eB
      simp only [if_neg c]
      generalize hq : (PyData.tuple [eI qm, eS qr]) = QQ at *
      generalize eS r = R1 at *
      generalize eM M = MM at *
      simp only [bd_law_4, evSs, evS, evE, evEs, evO, evIfs, evF, testE, getO, getP, getV_eq, getX, setC, rd, rdAll, sl_0, sl_s, Option.bind_some, Option.map_some, Option.bind_none, Option.map_none, List.set_cons_zero, List.set_cons_succ, q_add, q_sub, q_mod, q_fdiv, q_mulr, q_adds, q_addl, q_addt, g_add, g_sub, g_adds, b_len_l, b_len_t, b_len_s, b_int_i, b_abs_i, b_tup_l, b_tup_t, k_lt, k_gt, k_le, k_ge, w_at, w_put, w_draws, List.length_map, startE, List.map_cons, List.map_nil, flIn, List.length_cons, List.length_nil, List.replicate, List.append_nil, List.cons_append, List.nil_append, outsC, Nat.zero_add, Nat.reduceAdd, Nat.reduceSub, Nat.sub_self, ↓reduceIte, if_true, if_false, Bool.false_eq_true, Int.reduceLT, Int.reduceNeg, Int.reducePow, Bool.not_true, Bool.not_false, decide_true, decide_false, nn_n, nn_b, nn_i, nn_s, nn_l, nn_t, k_isN, k_notN, argsC, backC, setV_0, setV_s, fr_n, fr_i, fr_o, fr_j, jk_s, bind_n, bind_t, bind_0, bind_s, u_ty, getX, wipeOk, wipeF, unwipe, List.all_cons, List.all_nil, List.foldr_cons, List.foldr_nil, Bool.and_true, Bool.true_and, lendI, itemsD, unlend, outI, q_pow18, P_law, hb, nn, i0, c2]
end Lp
namespace Lp
open PySem PySem.Spec L2 Dv Lw
theorem tup_B (b : Bst) : tupD (eB b) 11 = true ∧ small (eB b) := by
  cases b with
  | none => exact ⟨rfl, by simp [eB, small]⟩
  | some q => exact ⟨rfl, by simp [eB, small]⟩
theorem law_3 (L : List D) (ds : List Int) (n : Nat) {M : Mc} (w : Ok M) (t k4 s5 n6 b7 r8 m9 : Option D) :
    evE P_law (.lc (.v 10) (.n 10) (.str "ab") cd_law_3 [10]) (lE L ds n t (some (eM M)) k4 s5 n6 b7 r8 m9) = some (.list ((sgs M).map eC), lE L ds n t (some (eM M)) k4 s5 n6 b7 r8 m9) := by
  have hlc := lc_mapT eC (f := fun d e => (bindT (.n 10) d e).bind fun e1 => (evIfs P_law cd_law_3 e1).bind fun b => if b.1 = true then (evE P_law (.v 10) b.2).map fun y => (some y.1, y.2) else some (none, b.2)) (own := [10])
    (e := lE L ds n t (some (eM M)) k4 s5 n6 b7 r8 m9) (fun c => if (M.arr.any fun a => a.2.1 == c) = true then some (eC c) else none) [97, 98] (fun c _ => by
      have hin := lc_mapT eA (f := fun d e => (bindT (.n 12) d e).bind fun e1 => (evIfs P_law [] e1).bind fun b => if b.1 = true then (evE P_law el_law_2 b.2).map fun y => (some y.1, y.2) else some (none, b.2)) (own := [12])
        (e := [some (.ext, .list L), some (.own, wD ds n), jk t, some (.imm, eM M), jk k4, jk s5, jk n6, jk b7, jk r8, jk m9, some (.imm, eC c), none, none]) (fun a => some (eC a.2.1)) M.arr (fun a _ => by
          refine ⟨[some (.ext, .list L), some (.own, wD ds n), jk t, some (.imm, eM M), jk k4, jk s5, jk n6, jk b7, jk r8, jk m9, some (.imm, eC c), none, some (.imm, eA a)], ?_, rfl⟩
          have hi : idxD (eA a) (.int 1) = some (eC a.2.1) := t_1
          generalize eA a = A1 at *
          generalize eM M = MM at *
          generalize eC a.2.1 = CC at *
          generalize eC c = C2 at *
          simp only [el_law_2, evSs, evS, evE, evEs, evO, evIfs, evF, testE, getO, getP, getV_eq, getX, setC, rd, rdAll, sl_0, sl_s, Option.bind_some, Option.map_some, Option.bind_none, Option.map_none, List.set_cons_zero, List.set_cons_succ, q_add, q_sub, q_mod, q_fdiv, q_mulr, q_adds, q_addl, q_addt, g_add, g_sub, g_adds, b_len_l, b_len_t, b_len_s, b_int_i, b_abs_i, b_tup_l, b_tup_t, k_lt, k_gt, k_le, k_ge, w_at, w_put, w_draws, List.length_map, startE, List.map_cons, List.map_nil, flIn, List.length_cons, List.length_nil, List.replicate, List.append_nil, List.cons_append, List.nil_append, outsC, Nat.zero_add, Nat.reduceAdd, Nat.reduceSub, Nat.sub_self, ↓reduceIte, if_true, if_false, Bool.false_eq_true, Int.reduceLT, Int.reduceNeg, Int.reducePow, Bool.not_true, Bool.not_false, decide_true, decide_false, nn_n, nn_b, nn_i, nn_s, nn_l, nn_t, k_isN, k_notN, argsC, backC, setV_0, setV_s, fr_n, fr_i, fr_o, fr_j, jk_s, bind_n, bind_t, bind_0, bind_s, u_ty, getX, wipeOk, wipeF, unwipe, List.all_cons, List.all_nil, List.foldr_cons, List.foldr_nil, Bool.and_true, Bool.true_and, lendI, itemsD, unlend, outI, q_pow18, hi])
      have hfm : M.arr.filterMap (fun a => some (eC a.2.1)) = (M.arr.map fun a => a.2.1).map eC := by
        rw [List.filterMap_eq_map', List.map_map]; rfl
      rw [hfm] at hin
      have hz := sz_t (enc := eA) (xs := M.arr) (by have := w.al; omega)
      have i3 := M_i (M := M).2.2.2
      have hq : cmp2 .isin (eC c) (.list ((M.arr.map fun a => a.2.1).map eC)) = some (M.arr.any fun a => a.2.1 == c) := by
        have h1 : (pln (eC c) && dOkAll ((M.arr.map fun a => a.2.1).map eC) 40) = true := by rw [dOk_all (fun _ => rfl)]; rfl
        rw [cmp2, inD, if_pos h1, List.any_map, List.any_map]
        congr 1
        congr 1
        funext a
        show PyData.eqv (eC a.2.1) (eC c) = _
        rw [eqv_ss, C_beq]
      refine ⟨[some (.ext, .list L), some (.own, wD ds n), jk t, some (.imm, eM M), jk k4, jk s5, jk n6, jk b7, jk r8, jk m9, some (.imm, eC c), none, none], ?_, rfl⟩
      unfold lE
      generalize (M.arr.map fun a => a.2.1).map eC = XS at *
      generalize M.arr.map eA = XA at *
      generalize eM M = MM at *
      generalize eC c = CC at *
      try simp only [evSs, evS, evE, evEs, evO, evIfs, evF, testE, getO, getP, getV_eq, getX, setC, rd, rdAll, sl_0, sl_s, Option.bind_some, Option.map_some, Option.bind_none, Option.map_none, List.set_cons_zero, List.set_cons_succ, q_add, q_sub, q_mod, q_fdiv, q_mulr, q_adds, q_addl, q_addt, g_add, g_sub, g_adds, b_len_l, b_len_t, b_len_s, b_int_i, b_abs_i, b_tup_l, b_tup_t, k_lt, k_gt, k_le, k_ge, w_at, w_put, w_draws, List.length_map, startE, List.map_cons, List.map_nil, flIn, List.length_cons, List.length_nil, List.replicate, List.append_nil, List.cons_append, List.nil_append, outsC, Nat.zero_add, Nat.reduceAdd, Nat.reduceSub, Nat.sub_self, ↓reduceIte, if_true, if_false, Bool.false_eq_true, Int.reduceLT, Int.reduceNeg, Int.reducePow, Bool.not_true, Bool.not_false, decide_true, decide_false, nn_n, nn_b, nn_i, nn_s, nn_l, nn_t, k_isN, k_notN, argsC, backC, setV_0, setV_s, fr_n, fr_i, fr_o, fr_j, jk_s, bind_n, bind_t, bind_0, bind_s, u_ty, getX, wipeOk, wipeF, unwipe, List.all_cons, List.all_nil, List.foldr_cons, List.foldr_nil, Bool.and_true, Bool.true_and, lendI, itemsD, unlend, outI, q_pow18] at hin
      by_cases e : (M.arr.any fun a => a.2.1 == c) = true
      · rw [e] at hq
        simp only [cd_law_3, evSs, evS, evE, evEs, evO, evIfs, evF, testE, getO, getP, getV_eq, getX, setC, rd, rdAll, sl_0, sl_s, Option.bind_some, Option.map_some, Option.bind_none, Option.map_none, List.set_cons_zero, List.set_cons_succ, q_add, q_sub, q_mod, q_fdiv, q_mulr, q_adds, q_addl, q_addt, g_add, g_sub, g_adds, b_len_l, b_len_t, b_len_s, b_int_i, b_abs_i, b_tup_l, b_tup_t, k_lt, k_gt, k_le, k_ge, w_at, w_put, w_draws, List.length_map, startE, List.map_cons, List.map_nil, flIn, List.length_cons, List.length_nil, List.replicate, List.append_nil, List.cons_append, List.nil_append, outsC, Nat.zero_add, Nat.reduceAdd, Nat.reduceSub, Nat.sub_self, ↓reduceIte, if_true, if_false, Bool.false_eq_true, Int.reduceLT, Int.reduceNeg, Int.reducePow, Bool.not_true, Bool.not_false, decide_true, decide_false, nn_n, nn_b, nn_i, nn_s, nn_l, nn_t, k_isN, k_notN, argsC, backC, setV_0, setV_s, fr_n, fr_i, fr_o, fr_j, jk_s, bind_n, bind_t, bind_0, bind_s, u_ty, getX, wipeOk, wipeF, unwipe, List.all_cons, List.all_nil, List.foldr_cons, List.foldr_nil, Bool.and_true, Bool.true_and, lendI, itemsD, unlend, outI, q_pow18, i3, hz, hin, hq, e]
      · have e : (M.arr.any fun a => a.2.1 == c) = false := Bool.eq_false_iff.mpr e
        rw [e] at hq
        simp only [cd_law_3, evSs, evS, evE, evEs, evO, evIfs, evF, testE, getO, getP, getV_eq, getX, setC, rd, rdAll, sl_0, sl_s, Option.bind_some, Option.map_some, Option.bind_none, Option.map_none, List.set_cons_zero, List.set_cons_succ, q_add, q_sub, q_mod, q_fdiv, q_mulr, q_adds, q_addl, q_addt, g_add, g_sub, g_adds, b_len_l, b_len_t, b_len_s, b_int_i, b_abs_i, b_tup_l, b_tup_t, k_lt, k_gt, k_le, k_ge, w_at, w_put, w_draws, List.length_map, startE, List.map_cons, List.map_nil, flIn, List.length_cons, List.length_nil, List.replicate, List.append_nil, List.cons_append, List.nil_append, outsC, Nat.zero_add, Nat.reduceAdd, Nat.reduceSub, Nat.sub_self, ↓reduceIte, if_true, if_false, Bool.false_eq_true, Int.reduceLT, Int.reduceNeg, Int.reducePow, Bool.not_true, Bool.not_false, decide_true, decide_false, nn_n, nn_b, nn_i, nn_s, nn_l, nn_t, k_isN, k_notN, argsC, backC, setV_0, setV_s, fr_n, fr_i, fr_o, fr_j, jk_s, bind_n, bind_t, bind_0, bind_s, u_ty, getX, wipeOk, wipeF, unwipe, List.all_cons, List.all_nil, List.foldr_cons, List.foldr_nil, Bool.and_true, Bool.true_and, lendI, itemsD, unlend, outI, q_pow18, i3, hz, hin, hq, e])
  have hfm : ([97, 98] : List Nat).filterMap (fun c => if (M.arr.any fun a => a.2.1 == c) = true then some (eC c) else none) = (sgs M).map eC := by
    unfold sgs
    rw [← List.filterMap_eq_filter, List.map_filterMap]
    congr 1
    funext c
    by_cases e : (M.arr.any fun a => a.2.1 == c) = true
    · simp [Option.guard, e]
    · have e : (M.arr.any fun a => a.2.1 == c) = false := Bool.eq_false_iff.mpr e
      simp [Option.guard, e]
  rw [hfm] at hlc
  have hs : signs (S [97, 98]) = ([97, 98] : List Nat).map eC := S_signs _
  have hz : szOk (([97, 98] : List Nat).map eC).length = true := rfl
  unfold lE at hlc ⊢
  generalize (sgs M).map eC = SG at *
  generalize ([97, 98] : List Nat).map eC = AB at *
  generalize eM M = MM at *
  try simp only [evSs, evS, evE, evEs, evO, evIfs, evF, testE, getO, getP, getV_eq, getX, setC, rd, rdAll, sl_0, sl_s, Option.bind_some, Option.map_some, Option.bind_none, Option.map_none, List.set_cons_zero, List.set_cons_succ, q_add, q_sub, q_mod, q_fdiv, q_mulr, q_adds, q_addl, q_addt, g_add, g_sub, g_adds, b_len_l, b_len_t, b_len_s, b_int_i, b_abs_i, b_tup_l, b_tup_t, k_lt, k_gt, k_le, k_ge, w_at, w_put, w_draws, List.length_map, startE, List.map_cons, List.map_nil, flIn, List.length_cons, List.length_nil, List.replicate, List.append_nil, List.cons_append, List.nil_append, outsC, Nat.zero_add, Nat.reduceAdd, Nat.reduceSub, Nat.sub_self, ↓reduceIte, if_true, if_false, Bool.false_eq_true, Int.reduceLT, Int.reduceNeg, Int.reducePow, Bool.not_true, Bool.not_false, decide_true, decide_false, nn_n, nn_b, nn_i, nn_s, nn_l, nn_t, k_isN, k_notN, argsC, backC, setV_0, setV_s, fr_n, fr_i, fr_o, fr_j, jk_s, bind_n, bind_t, bind_0, bind_s, u_ty, getX, wipeOk, wipeF, unwipe, List.all_cons, List.all_nil, List.foldr_cons, List.foldr_nil, Bool.and_true, Bool.true_and, lendI, itemsD, unlend, outI, q_pow18] at hlc
  simp only [evSs, evS, evE, evEs, evO, evIfs, evF, testE, getO, getP, getV_eq, getX, setC, rd, rdAll, sl_0, sl_s, Option.bind_some, Option.map_some, Option.bind_none, Option.map_none, List.set_cons_zero, List.set_cons_succ, q_add, q_sub, q_mod, q_fdiv, q_mulr, q_adds, q_addl, q_addt, g_add, g_sub, g_adds, b_len_l, b_len_t, b_len_s, b_int_i, b_abs_i, b_tup_l, b_tup_t, k_lt, k_gt, k_le, k_ge, w_at, w_put, w_draws, List.length_map, startE, List.map_cons, List.map_nil, flIn, List.length_cons, List.length_nil, List.replicate, List.append_nil, List.cons_append, List.nil_append, outsC, Nat.zero_add, Nat.reduceAdd, Nat.reduceSub, Nat.sub_self, ↓reduceIte, if_true, if_false, Bool.false_eq_true, Int.reduceLT, Int.reduceNeg, Int.reducePow, Bool.not_true, Bool.not_false, decide_true, decide_false, nn_n, nn_b, nn_i, nn_s, nn_l, nn_t, k_isN, k_notN, argsC, backC, setV_0, setV_s, fr_n, fr_i, fr_o, fr_j, jk_s, bind_n, bind_t, bind_0, bind_s, u_ty, getX, wipeOk, wipeF, unwipe, List.all_cons, List.all_nil, List.foldr_cons, List.foldr_nil, Bool.and_true, Bool.true_and, lendI, itemsD, unlend, outI, q_pow18, ab_e, hs, hz, hlc]
theorem law_turn (L : List D) (ds : List Int) (n : Nat) (d : D) (t m3 k4 s5 n6 b7 r8 m9 : Option D) :
    ∃ n' a3 a4 a5 a6 a7 a8 a9, ((bindT (.n 2) d (lE L ds n t m3 k4 s5 n6 b7 r8 m9)).bind fun e1 => evSs P_law bd_law_5 e1) = some (.nx (lE L ds n' (some d) a3 a4 a5 a6 a7 a8 a9)) := by
  have hb : bindT (.n 2) d (lE L ds n t m3 k4 s5 n6 b7 r8 m9) = some (lE L ds n (some d) m3 k4 s5 n6 b7 r8 m9) := by
    unfold lE
    simp only [evSs, evS, evE, evEs, evO, evIfs, evF, testE, getO, getP, getV_eq, getX, setC, rd, rdAll, sl_0, sl_s, Option.bind_some, Option.map_some, Option.bind_none, Option.map_none, List.set_cons_zero, List.set_cons_succ, q_add, q_sub, q_mod, q_fdiv, q_mulr, q_adds, q_addl, q_addt, g_add, g_sub, g_adds, b_len_l, b_len_t, b_len_s, b_int_i, b_abs_i, b_tup_l, b_tup_t, k_lt, k_gt, k_le, k_ge, w_at, w_put, w_draws, List.length_map, startE, List.map_cons, List.map_nil, flIn, List.length_cons, List.length_nil, List.replicate, List.append_nil, List.cons_append, List.nil_append, outsC, Nat.zero_add, Nat.reduceAdd, Nat.reduceSub, Nat.sub_self, ↓reduceIte, if_true, if_false, Bool.false_eq_true, Int.reduceLT, Int.reduceNeg, Int.reducePow, Bool.not_true, Bool.not_false, decide_true, decide_false, nn_n, nn_b, nn_i, nn_s, nn_l, nn_t, k_isN, k_notN, argsC, backC, setV_0, setV_s, fr_n, fr_i, fr_o, fr_j, jk_s, bind_n, bind_t, bind_0, bind_s, u_ty, getX, wipeOk, wipeF, unwipe, List.all_cons, List.all_nil, List.foldr_cons, List.foldr_nil, Bool.and_true, Bool.true_and, lendI, itemsD, unlend, outI, q_pow18]
  obtain ⟨M, n1, w, hM⟩ := e_machine ds n
  have s1 : evS P_law (.asg 3 (.call 107 [(.ow 1)])) (lE L ds n (some d) m3 k4 s5 n6 b7 r8 m9) = some (.nx (lE L ds n1 (some d) (some (eM M)) k4 s5 n6 b7 r8 m9)) := by
    unfold lE
    simp only [evSs, evS, evE, evEs, evO, evIfs, evF, testE, getO, getP, getV_eq, getX, setC, rd, rdAll, sl_0, sl_s, Option.bind_some, Option.map_some, Option.bind_none, Option.map_none, List.set_cons_zero, List.set_cons_succ, q_add, q_sub, q_mod, q_fdiv, q_mulr, q_adds, q_addl, q_addt, g_add, g_sub, g_adds, b_len_l, b_len_t, b_len_s, b_int_i, b_abs_i, b_tup_l, b_tup_t, k_lt, k_gt, k_le, k_ge, w_at, w_put, w_draws, List.length_map, startE, List.map_cons, List.map_nil, flIn, List.length_cons, List.length_nil, List.replicate, List.append_nil, List.cons_append, List.nil_append, outsC, Nat.zero_add, Nat.reduceAdd, Nat.reduceSub, Nat.sub_self, ↓reduceIte, if_true, if_false, Bool.false_eq_true, Int.reduceLT, Int.reduceNeg, Int.reducePow, Bool.not_true, Bool.not_false, decide_true, decide_false, nn_n, nn_b, nn_i, nn_s, nn_l, nn_t, k_isN, k_notN, argsC, backC, setV_0, setV_s, fr_n, fr_i, fr_o, fr_j, jk_s, bind_n, bind_t, bind_0, bind_s, u_ty, getX, wipeOk, wipeF, unwipe, List.all_cons, List.all_nil, List.foldr_cons, List.foldr_nil, Bool.and_true, Bool.true_and, lendI, itemsD, unlend, outI, q_pow18, P_law, hM]
  obtain ⟨e2, h2, n2, k4', r8', e2e⟩ := for_pre (f := fun d e => (bindT (.n 4) d e).bind fun e1 => evSs P_law bd_law_1 e1) eI (fun p e => ∃ n k4 r8, e = lE L ds n (some d) (some (eM M)) k4 s5 n6 b7 r8 m9) (List.range 5) [] (lE L ds n1 (some d) (some (eM M)) k4 s5 n6 b7 r8 m9) ⟨n1, k4, r8, rfl⟩
    (fun p a q e he ⟨n, k4, r8, hk⟩ => by
      subst hk
      obtain ⟨n', k8, h⟩ := law_1 L ds n w (eI a) (some d) k4 s5 n6 b7 r8 m9
      exact ⟨_, h, n', _, k8, rfl⟩)
  subst e2e
  have r5 : rangeD [.int 5] = some ((List.range 5).map eI) := rng_e (n := 5) (by omega)
  have s2 : evS P_law (.forS (.n 4) (.rng [(.int 5)]) bd_law_1) (lE L ds n1 (some d) (some (eM M)) k4 s5 n6 b7 r8 m9) = some (.nx (lE L ds n2 (some d) (some (eM M)) k4' s5 n6 b7 r8' m9)) := by
    generalize (List.range 5).map eI = LL at *
    generalize lE L ds n1 (some d) (some (eM M)) k4 s5 n6 b7 r8 m9 = E1 at *
    generalize lE L ds n2 (some d) (some (eM M)) k4' s5 n6 b7 r8' m9 = E2 at *
    try simp only [evSs, evS, evE, evEs, evO, evIfs, evF, testE, getO, getP, getV_eq, getX, setC, rd, rdAll, sl_0, sl_s, Option.bind_some, Option.map_some, Option.bind_none, Option.map_none, List.set_cons_zero, List.set_cons_succ, q_add, q_sub, q_mod, q_fdiv, q_mulr, q_adds, q_addl, q_addt, g_add, g_sub, g_adds, b_len_l, b_len_t, b_len_s, b_int_i, b_abs_i, b_tup_l, b_tup_t, k_lt, k_gt, k_le, k_ge, w_at, w_put, w_draws, List.length_map, startE, List.map_cons, List.map_nil, flIn, List.length_cons, List.length_nil, List.replicate, List.append_nil, List.cons_append, List.nil_append, outsC, Nat.zero_add, Nat.reduceAdd, Nat.reduceSub, Nat.sub_self, ↓reduceIte, if_true, if_false, Bool.false_eq_true, Int.reduceLT, Int.reduceNeg, Int.reducePow, Bool.not_true, Bool.not_false, decide_true, decide_false, nn_n, nn_b, nn_i, nn_s, nn_l, nn_t, k_isN, k_notN, argsC, backC, setV_0, setV_s, fr_n, fr_i, fr_o, fr_j, jk_s, bind_n, bind_t, bind_0, bind_s, u_ty, getX, wipeOk, wipeF, unwipe, List.all_cons, List.all_nil, List.foldr_cons, List.foldr_nil, Bool.and_true, Bool.true_and, lendI, itemsD, unlend, outI, q_pow18] at h2
    simp only [evSs, evS, evE, evEs, evO, evIfs, evF, testE, getO, getP, getV_eq, getX, setC, rd, rdAll, sl_0, sl_s, Option.bind_some, Option.map_some, Option.bind_none, Option.map_none, List.set_cons_zero, List.set_cons_succ, q_add, q_sub, q_mod, q_fdiv, q_mulr, q_adds, q_addl, q_addt, g_add, g_sub, g_adds, b_len_l, b_len_t, b_len_s, b_int_i, b_abs_i, b_tup_l, b_tup_t, k_lt, k_gt, k_le, k_ge, w_at, w_put, w_draws, List.length_map, startE, List.map_cons, List.map_nil, flIn, List.length_cons, List.length_nil, List.replicate, List.append_nil, List.cons_append, List.nil_append, outsC, Nat.zero_add, Nat.reduceAdd, Nat.reduceSub, Nat.sub_self, ↓reduceIte, if_true, if_false, Bool.false_eq_true, Int.reduceLT, Int.reduceNeg, Int.reducePow, Bool.not_true, Bool.not_false, decide_true, decide_false, nn_n, nn_b, nn_i, nn_s, nn_l, nn_t, k_isN, k_notN, argsC, backC, setV_0, setV_s, fr_n, fr_i, fr_o, fr_j, jk_s, bind_n, bind_t, bind_0, bind_s, u_ty, getX, wipeOk, wipeF, unwipe, List.all_cons, List.all_nil, List.foldr_cons, List.foldr_nil, Bool.and_true, Bool.true_and, lendI, itemsD, unlend, outI, q_pow18, r5, h2]
  have h3 := law_3 L ds n2 w (some d) k4' s5 n6 b7 r8' m9
  have s3 : evS P_law (.asgF 5 (.lc (.v 10) (.n 10) (.str "ab") cd_law_3 [10])) (lE L ds n2 (some d) (some (eM M)) k4' s5 n6 b7 r8' m9) =
      some (.nx [some (.ext, .list L), some (.own, wD ds n2), some (.imm, d), some (.imm, eM M), jk k4', some (.own, .list ((sgs M).map eC)), jk n6, jk b7, jk r8', jk m9, none, none, none]) := by
    rw [evS]
    show (evE P_law (.lc (.v 10) (.n 10) (.str "ab") cd_law_3 [10]) _).bind _ = _
    rw [h3]
    unfold lE
    simp only [evSs, evS, evE, evEs, evO, evIfs, evF, testE, getO, getP, getV_eq, getX, setC, rd, rdAll, sl_0, sl_s, Option.bind_some, Option.map_some, Option.bind_none, Option.map_none, List.set_cons_zero, List.set_cons_succ, q_add, q_sub, q_mod, q_fdiv, q_mulr, q_adds, q_addl, q_addt, g_add, g_sub, g_adds, b_len_l, b_len_t, b_len_s, b_int_i, b_abs_i, b_tup_l, b_tup_t, k_lt, k_gt, k_le, k_ge, w_at, w_put, w_draws, List.length_map, startE, List.map_cons, List.map_nil, flIn, List.length_cons, List.length_nil, List.replicate, List.append_nil, List.cons_append, List.nil_append, outsC, Nat.zero_add, Nat.reduceAdd, Nat.reduceSub, Nat.sub_self, ↓reduceIte, if_true, if_false, Bool.false_eq_true, Int.reduceLT, Int.reduceNeg, Int.reducePow, Bool.not_true, Bool.not_false, decide_true, decide_false, nn_n, nn_b, nn_i, nn_s, nn_l, nn_t, k_isN, k_notN, argsC, backC, setV_0, setV_s, fr_n, fr_i, fr_o, fr_j, jk_s, bind_n, bind_t, bind_0, bind_s, u_ty, getX, wipeOk, wipeF, unwipe, List.all_cons, List.all_nil, List.foldr_cons, List.foldr_nil, Bool.and_true, Bool.true_and, lendI, itemsD, unlend, outI, q_pow18]
  have s4 : evS P_law (.frz 5) [some (.ext, .list L), some (.own, wD ds n2), some (.imm, d), some (.imm, eM M), jk k4', some (.own, .list ((sgs M).map eC)), jk n6, jk b7, jk r8', jk m9, none, none, none] =
      some (.nx (lE L ds n2 (some d) (some (eM M)) k4' (some (.list ((sgs M).map eC))) n6 b7 r8' m9)) := by
    unfold lE
    generalize (sgs M).map eC = SG
    simp only [evSs, evS, evE, evEs, evO, evIfs, evF, testE, getO, getP, getV_eq, getX, setC, rd, rdAll, sl_0, sl_s, Option.bind_some, Option.map_some, Option.bind_none, Option.map_none, List.set_cons_zero, List.set_cons_succ, q_add, q_sub, q_mod, q_fdiv, q_mulr, q_adds, q_addl, q_addt, g_add, g_sub, g_adds, b_len_l, b_len_t, b_len_s, b_int_i, b_abs_i, b_tup_l, b_tup_t, k_lt, k_gt, k_le, k_ge, w_at, w_put, w_draws, List.length_map, startE, List.map_cons, List.map_nil, flIn, List.length_cons, List.length_nil, List.replicate, List.append_nil, List.cons_append, List.nil_append, outsC, Nat.zero_add, Nat.reduceAdd, Nat.reduceSub, Nat.sub_self, ↓reduceIte, if_true, if_false, Bool.false_eq_true, Int.reduceLT, Int.reduceNeg, Int.reducePow, Bool.not_true, Bool.not_false, decide_true, decide_false, nn_n, nn_b, nn_i, nn_s, nn_l, nn_t, k_isN, k_notN, argsC, backC, setV_0, setV_s, fr_n, fr_i, fr_o, fr_j, jk_s, bind_n, bind_t, bind_0, bind_s, u_ty, getX, wipeOk, wipeF, unwipe, List.all_cons, List.all_nil, List.foldr_cons, List.foldr_nil, Bool.and_true, Bool.true_and, lendI, itemsD, unlend, outI, q_pow18]
  obtain ⟨N, n3, hN, s5'⟩ : ∃ N n3, N ≤ 3 ∧ evS P_law (.asg 6 (.ite (.cmp .ne (.pl 5) (.lst [])) (.call 2 [(.ow 1), (.int 4)]) (.int 0))) (lE L ds n2 (some d) (some (eM M)) k4' (some (.list ((sgs M).map eC))) n6 b7 r8' m9) =
      some (.nx (lE L ds n3 (some d) (some (eM M)) k4' (some (.list ((sgs M).map eC))) (some (eI N)) b7 r8' m9)) := by
    have hn : F__law_next [(.own, wD ds n2), (.imm, .int 4)] = some ((false, eI (nx ds n2 4)), [wD ds (n2 + 1)]) := e_nextN ds n2 4 (by omega)
    have hk : nx ds n2 4 ≤ 3 := by have := nx_lt ds n2 (m := 4) (by omega); omega
    have hne := (cmp_empty (pln_le (enc := eC) (fun _ => rfl) (sgs M))).2
    by_cases e : ((sgs M).map eC).isEmpty = true
    · rw [e] at hne
      refine ⟨0, n2, by omega, ?_⟩
      unfold lE
      generalize (sgs M).map eC = SG at *
      show _ = some (Out.nx [_, _, _, _, _, _, some (.imm, .int 0), _, _, _, _, _, _])
      simp only [evSs, evS, evE, evEs, evO, evIfs, evF, testE, getO, getP, getV_eq, getX, setC, rd, rdAll, sl_0, sl_s, Option.bind_some, Option.map_some, Option.bind_none, Option.map_none, List.set_cons_zero, List.set_cons_succ, q_add, q_sub, q_mod, q_fdiv, q_mulr, q_adds, q_addl, q_addt, g_add, g_sub, g_adds, b_len_l, b_len_t, b_len_s, b_int_i, b_abs_i, b_tup_l, b_tup_t, k_lt, k_gt, k_le, k_ge, w_at, w_put, w_draws, List.length_map, startE, List.map_cons, List.map_nil, flIn, List.length_cons, List.length_nil, List.replicate, List.append_nil, List.cons_append, List.nil_append, outsC, Nat.zero_add, Nat.reduceAdd, Nat.reduceSub, Nat.sub_self, ↓reduceIte, if_true, if_false, Bool.false_eq_true, Int.reduceLT, Int.reduceNeg, Int.reducePow, Bool.not_true, Bool.not_false, decide_true, decide_false, nn_n, nn_b, nn_i, nn_s, nn_l, nn_t, k_isN, k_notN, argsC, backC, setV_0, setV_s, fr_n, fr_i, fr_o, fr_j, jk_s, bind_n, bind_t, bind_0, bind_s, u_ty, getX, wipeOk, wipeF, unwipe, List.all_cons, List.all_nil, List.foldr_cons, List.foldr_nil, Bool.and_true, Bool.true_and, lendI, itemsD, unlend, outI, q_pow18, hne]
    · have e : ((sgs M).map eC).isEmpty = false := by simpa using e
      rw [e] at hne
      refine ⟨nx ds n2 4, n2 + 1, hk, ?_⟩
      unfold lE
      generalize (sgs M).map eC = SG at *
      simp only [evSs, evS, evE, evEs, evO, evIfs, evF, testE, getO, getP, getV_eq, getX, setC, rd, rdAll, sl_0, sl_s, Option.bind_some, Option.map_some, Option.bind_none, Option.map_none, List.set_cons_zero, List.set_cons_succ, q_add, q_sub, q_mod, q_fdiv, q_mulr, q_adds, q_addl, q_addt, g_add, g_sub, g_adds, b_len_l, b_len_t, b_len_s, b_int_i, b_abs_i, b_tup_l, b_tup_t, k_lt, k_gt, k_le, k_ge, w_at, w_put, w_draws, List.length_map, startE, List.map_cons, List.map_nil, flIn, List.length_cons, List.length_nil, List.replicate, List.append_nil, List.cons_append, List.nil_append, outsC, Nat.zero_add, Nat.reduceAdd, Nat.reduceSub, Nat.sub_self, ↓reduceIte, if_true, if_false, Bool.false_eq_true, Int.reduceLT, Int.reduceNeg, Int.reducePow, Bool.not_true, Bool.not_false, decide_true, decide_false, nn_n, nn_b, nn_i, nn_s, nn_l, nn_t, k_isN, k_notN, argsC, backC, setV_0, setV_s, fr_n, fr_i, fr_o, fr_j, jk_s, bind_n, bind_t, bind_0, bind_s, u_ty, getX, wipeOk, wipeF, unwipe, List.all_cons, List.all_nil, List.foldr_cons, List.foldr_nil, Bool.and_true, Bool.true_and, lendI, itemsD, unlend, outI, q_pow18, P_law, hne, hn]
  have s6 : evS P_law (.asg 7 .non) (lE L ds n3 (some d) (some (eM M)) k4' (some (.list ((sgs M).map eC))) (some (eI N)) b7 r8' m9) = some (.nx (lE L ds n3 (some d) (some (eM M)) k4' (some (.list ((sgs M).map eC))) (some (eI N)) (some (eB none)) r8' m9)) := by
    unfold lE eB
    simp only [evSs, evS, evE, evEs, evO, evIfs, evF, testE, getO, getP, getV_eq, getX, setC, rd, rdAll, sl_0, sl_s, Option.bind_some, Option.map_some, Option.bind_none, Option.map_none, List.set_cons_zero, List.set_cons_succ, q_add, q_sub, q_mod, q_fdiv, q_mulr, q_adds, q_addl, q_addt, g_add, g_sub, g_adds, b_len_l, b_len_t, b_len_s, b_int_i, b_abs_i, b_tup_l, b_tup_t, k_lt, k_gt, k_le, k_ge, w_at, w_put, w_draws, List.length_map, startE, List.map_cons, List.map_nil, flIn, List.length_cons, List.length_nil, List.replicate, List.append_nil, List.cons_append, List.nil_append, outsC, Nat.zero_add, Nat.reduceAdd, Nat.reduceSub, Nat.sub_self, ↓reduceIte, if_true, if_false, Bool.false_eq_true, Int.reduceLT, Int.reduceNeg, Int.reducePow, Bool.not_true, Bool.not_false, decide_true, decide_false, nn_n, nn_b, nn_i, nn_s, nn_l, nn_t, k_isN, k_notN, argsC, backC, setV_0, setV_s, fr_n, fr_i, fr_o, fr_j, jk_s, bind_n, bind_t, bind_0, bind_s, u_ty, getX, wipeOk, wipeF, unwipe, List.all_cons, List.all_nil, List.foldr_cons, List.foldr_nil, Bool.and_true, Bool.true_and, lendI, itemsD, unlend, outI, q_pow18]
  have hrows := e_rows (sgs_two M) N hN
  obtain ⟨e7, h7, r8'', m9'', e7e⟩ := for_pre (f := fun d e => (bindT (.n 8) d e).bind fun e1 => evSs P_law bd_law_4 e1) eS (fun p e => ∃ r8 m9, e = lE L ds n3 (some d) (some (eM M)) k4' (some (.list ((sgs M).map eC))) (some (eI N)) (some (eB (p.foldl (bstL M) none))) r8 m9) (rowsN (sgs M) N) []
    (lE L ds n3 (some d) (some (eM M)) k4' (some (.list ((sgs M).map eC))) (some (eI N)) (some (eB none)) r8' m9) ⟨r8', m9, rfl⟩
    (fun p a q e he ⟨r8, m9, hk⟩ => by
      subst hk
      rw [List.nil_append] at he
      have ha := rowsN_size (sg := sgs M) (n := N) (r := a) (by rw [he]; simp)
      refine ⟨_, law_4 L ds n3 w a (by omega) (p.foldl (bstL M) none) (some d) k4' (some (.list ((sgs M).map eC))) (some (eI N)) r8 m9, some (eS a), some (eI (runs M a)), ?_⟩
      rw [List.foldl_append]; rfl)
  subst e7e
  rw [List.nil_append] at h7
  have s7 : evS P_law (.forS (.n 8) (.call 109 [(.v 5), (.v 6)]) bd_law_4) (lE L ds n3 (some d) (some (eM M)) k4' (some (.list ((sgs M).map eC))) (some (eI N)) (some (eB none)) r8' m9) =
      some (.nx (lE L ds n3 (some d) (some (eM M)) k4' (some (.list ((sgs M).map eC))) (some (eI N)) (some (eB ((rowsN (sgs M) N).foldl (bstL M) none))) r8'' m9'')) := by
    generalize (rowsN (sgs M) N).map eS = RR at *
    generalize eB ((rowsN (sgs M) N).foldl (bstL M) none) = BB at *
    generalize eB none = B0 at *
    unfold lE at h7 ⊢
    generalize (sgs M).map eC = SG at *
    generalize eM M = MM at *
    try simp only [evSs, evS, evE, evEs, evO, evIfs, evF, testE, getO, getP, getV_eq, getX, setC, rd, rdAll, sl_0, sl_s, Option.bind_some, Option.map_some, Option.bind_none, Option.map_none, List.set_cons_zero, List.set_cons_succ, q_add, q_sub, q_mod, q_fdiv, q_mulr, q_adds, q_addl, q_addt, g_add, g_sub, g_adds, b_len_l, b_len_t, b_len_s, b_int_i, b_abs_i, b_tup_l, b_tup_t, k_lt, k_gt, k_le, k_ge, w_at, w_put, w_draws, List.length_map, startE, List.map_cons, List.map_nil, flIn, List.length_cons, List.length_nil, List.replicate, List.append_nil, List.cons_append, List.nil_append, outsC, Nat.zero_add, Nat.reduceAdd, Nat.reduceSub, Nat.sub_self, ↓reduceIte, if_true, if_false, Bool.false_eq_true, Int.reduceLT, Int.reduceNeg, Int.reducePow, Bool.not_true, Bool.not_false, decide_true, decide_false, nn_n, nn_b, nn_i, nn_s, nn_l, nn_t, k_isN, k_notN, argsC, backC, setV_0, setV_s, fr_n, fr_i, fr_o, fr_j, jk_s, bind_n, bind_t, bind_0, bind_s, u_ty, getX, wipeOk, wipeF, unwipe, List.all_cons, List.all_nil, List.foldr_cons, List.foldr_nil, Bool.and_true, Bool.true_and, lendI, itemsD, unlend, outI, q_pow18] at h7
    simp only [evSs, evS, evE, evEs, evO, evIfs, evF, testE, getO, getP, getV_eq, getX, setC, rd, rdAll, sl_0, sl_s, Option.bind_some, Option.map_some, Option.bind_none, Option.map_none, List.set_cons_zero, List.set_cons_succ, q_add, q_sub, q_mod, q_fdiv, q_mulr, q_adds, q_addl, q_addt, g_add, g_sub, g_adds, b_len_l, b_len_t, b_len_s, b_int_i, b_abs_i, b_tup_l, b_tup_t, k_lt, k_gt, k_le, k_ge, w_at, w_put, w_draws, List.length_map, startE, List.map_cons, List.map_nil, flIn, List.length_cons, List.length_nil, List.replicate, List.append_nil, List.cons_append, List.nil_append, outsC, Nat.zero_add, Nat.reduceAdd, Nat.reduceSub, Nat.sub_self, ↓reduceIte, if_true, if_false, Bool.false_eq_true, Int.reduceLT, Int.reduceNeg, Int.reducePow, Bool.not_true, Bool.not_false, decide_true, decide_false, nn_n, nn_b, nn_i, nn_s, nn_l, nn_t, k_isN, k_notN, argsC, backC, setV_0, setV_s, fr_n, fr_i, fr_o, fr_j, jk_s, bind_n, bind_t, bind_0, bind_s, u_ty, getX, wipeOk, wipeF, unwipe, List.all_cons, List.all_nil, List.foldr_cons, List.foldr_nil, Bool.and_true, Bool.true_and, lendI, itemsD, unlend, outI, q_pow18, P_law, hrows, h7]
  have hmost := e_most w N hN
  rw [most_eq w N, ← bstL_eq M _ (rowsN (sgs M) N) rfl (rowsN_sorted (sgs_sorted M) N)] at hmost
  have hal := alike_same (tup_B ((rowsN (sgs M) N).foldl (bstL M) none)).1 (tup_B _).2
  have s8 : evE P_law (.not (.call 4 [(.call 101 [(.v 3), (.v 6)]), (.v 7)])) (lE L ds n3 (some d) (some (eM M)) k4' (some (.list ((sgs M).map eC))) (some (eI N)) (some (eB ((rowsN (sgs M) N).foldl (bstL M) none))) r8'' m9'') =
      some (.bool false, lE L ds n3 (some d) (some (eM M)) k4' (some (.list ((sgs M).map eC))) (some (eI N)) (some (eB ((rowsN (sgs M) N).foldl (bstL M) none))) r8'' m9'') := by
    generalize eB ((rowsN (sgs M) N).foldl (bstL M) none) = BB at *
    unfold lE
    generalize (sgs M).map eC = SG at *
    generalize eM M = MM at *
    simp only [evSs, evS, evE, evEs, evO, evIfs, evF, testE, getO, getP, getV_eq, getX, setC, rd, rdAll, sl_0, sl_s, Option.bind_some, Option.map_some, Option.bind_none, Option.map_none, List.set_cons_zero, List.set_cons_succ, q_add, q_sub, q_mod, q_fdiv, q_mulr, q_adds, q_addl, q_addt, g_add, g_sub, g_adds, b_len_l, b_len_t, b_len_s, b_int_i, b_abs_i, b_tup_l, b_tup_t, k_lt, k_gt, k_le, k_ge, w_at, w_put, w_draws, List.length_map, startE, List.map_cons, List.map_nil, flIn, List.length_cons, List.length_nil, List.replicate, List.append_nil, List.cons_append, List.nil_append, outsC, Nat.zero_add, Nat.reduceAdd, Nat.reduceSub, Nat.sub_self, ↓reduceIte, if_true, if_false, Bool.false_eq_true, Int.reduceLT, Int.reduceNeg, Int.reducePow, Bool.not_true, Bool.not_false, decide_true, decide_false, nn_n, nn_b, nn_i, nn_s, nn_l, nn_t, k_isN, k_notN, argsC, backC, setV_0, setV_s, fr_n, fr_i, fr_o, fr_j, jk_s, bind_n, bind_t, bind_0, bind_s, u_ty, getX, wipeOk, wipeF, unwipe, List.all_cons, List.all_nil, List.foldr_cons, List.foldr_nil, Bool.and_true, Bool.true_and, lendI, itemsD, unlend, outI, q_pow18, P_law, hmost, hal]
  refine ⟨n3, some (eM M), k4', some (.list ((sgs M).map eC)), some (eI N), some (eB ((rowsN (sgs M) N).foldl (bstL M) none)), r8'', m9'', ?_⟩
  rw [hb, Option.bind_some]
  unfold bd_law_5
  rw [ss_cons s1, ss_cons s2, ss_cons s3, ss_cons s4, ss_cons s5', ss_cons s6, ss_cons s7, ss_cons (if_no s8), ss_nil]
theorem law_true (ns : List Int) (hn : ns.length ≤ 63) : F_law [(.ext, .list (ns.map PyData.int))] = some ((false, .bool true), []) := by
  obtain ⟨ds, hd⟩ := e_draws ns hn
  obtain ⟨e', h1, n', t, a3, a4, a5, a6, a7, a8, a9, he⟩ := for_pre (f := fun d e => (bindT (.n 2) d e).bind fun e1 => evSs P_law bd_law_5 e1) eI (fun _ e => ∃ n t a3 a4 a5 a6 a7 a8 a9, e = lE (ns.map PyData.int) ds n t a3 a4 a5 a6 a7 a8 a9) (List.range 6) [] (lE (ns.map PyData.int) ds 0 none none none none none none none none)
    ⟨0, none, none, none, none, none, none, none, none, rfl⟩ (fun p a q e he ⟨n, t, a3, a4, a5, a6, a7, a8, a9, hk⟩ => by
      subst hk
      obtain ⟨n', b3, b4, b5, b6, b7, b8, b9, h⟩ := law_turn (ns.map PyData.int) ds n (eI a) t a3 a4 a5 a6 a7 a8 a9
      exact ⟨_, h, n', _, b3, b4, b5, b6, b7, b8, b9, rfl⟩)
  subst he
  have rr : rangeD [.int 6] = some ((List.range 6).map eI) := rng_e (n := 6) (by omega)
  have s1 : evS P_law (.asgF 1 (.dct [(.str "draws"), (.call 1 [(.ex 0), (.int 400)]), (.str "at"), (.int 0)])) [some (.ext, .list (ns.map PyData.int)), none, none, none, none, none, none, none, none, none, none, none, none] = some (.nx (lE (ns.map PyData.int) ds 0 none none none none none none none none)) := by
    have hw : wD ds 0 = .dict [(.str "draws", .list (ds.map PyData.int)), (.str "at", .int 0)] := rfl
    have j0 : jk none = none := rfl
    have hk := w_all (.list (ds.map PyData.int)) (.int 0)
    unfold lE
    rw [hw]
    simp only [j0]
    generalize ns.map PyData.int = L at hd ⊢
    simp only [evSs, evS, evE, evEs, evO, evIfs, evF, testE, getO, getP, getV_eq, getX, setC, rd, rdAll, sl_0, sl_s, Option.bind_some, Option.map_some, Option.bind_none, Option.map_none, List.set_cons_zero, List.set_cons_succ, q_add, q_sub, q_mod, q_fdiv, q_mulr, q_adds, q_addl, q_addt, g_add, g_sub, g_adds, b_len_l, b_len_t, b_len_s, b_int_i, b_abs_i, b_tup_l, b_tup_t, k_lt, k_gt, k_le, k_ge, w_at, w_put, w_draws, List.length_map, startE, List.map_cons, List.map_nil, flIn, List.length_cons, List.length_nil, List.replicate, List.append_nil, List.cons_append, List.nil_append, outsC, Nat.zero_add, Nat.reduceAdd, Nat.reduceSub, Nat.sub_self, ↓reduceIte, if_true, if_false, Bool.false_eq_true, Int.reduceLT, Int.reduceNeg, Int.reducePow, Bool.not_true, Bool.not_false, decide_true, decide_false, nn_n, nn_b, nn_i, nn_s, nn_l, nn_t, k_isN, k_notN, argsC, backC, setV_0, setV_s, fr_n, fr_i, fr_o, fr_j, jk_s, bind_n, bind_t, bind_0, bind_s, u_ty, getX, wipeOk, wipeF, unwipe, List.all_cons, List.all_nil, List.foldr_cons, List.foldr_nil, Bool.and_true, Bool.true_and, lendI, itemsD, unlend, outI, q_pow18, P_law, hd, pairUp, hk, fill_w]
  have s2 : evS P_law (.forS (.n 2) (.rng [(.int 6)]) bd_law_5) (lE (ns.map PyData.int) ds 0 none none none none none none none none) = some (.nx (lE (ns.map PyData.int) ds n' t a3 a4 a5 a6 a7 a8 a9)) := by
    generalize (List.range 6).map eI = LL at *
    generalize lE (ns.map PyData.int) ds 0 none none none none none none none none = E0' at h1 ⊢
    generalize lE (ns.map PyData.int) ds n' t a3 a4 a5 a6 a7 a8 a9 = E1' at h1 ⊢
    try simp only [evSs, evS, evE, evEs, evO, evIfs, evF, testE, getO, getP, getV_eq, getX, setC, rd, rdAll, sl_0, sl_s, Option.bind_some, Option.map_some, Option.bind_none, Option.map_none, List.set_cons_zero, List.set_cons_succ, q_add, q_sub, q_mod, q_fdiv, q_mulr, q_adds, q_addl, q_addt, g_add, g_sub, g_adds, b_len_l, b_len_t, b_len_s, b_int_i, b_abs_i, b_tup_l, b_tup_t, k_lt, k_gt, k_le, k_ge, w_at, w_put, w_draws, List.length_map, startE, List.map_cons, List.map_nil, flIn, List.length_cons, List.length_nil, List.replicate, List.append_nil, List.cons_append, List.nil_append, outsC, Nat.zero_add, Nat.reduceAdd, Nat.reduceSub, Nat.sub_self, ↓reduceIte, if_true, if_false, Bool.false_eq_true, Int.reduceLT, Int.reduceNeg, Int.reducePow, Bool.not_true, Bool.not_false, decide_true, decide_false, nn_n, nn_b, nn_i, nn_s, nn_l, nn_t, k_isN, k_notN, argsC, backC, setV_0, setV_s, fr_n, fr_i, fr_o, fr_j, jk_s, bind_n, bind_t, bind_0, bind_s, u_ty, getX, wipeOk, wipeF, unwipe, List.all_cons, List.all_nil, List.foldr_cons, List.foldr_nil, Bool.and_true, Bool.true_and, lendI, itemsD, unlend, outI, q_pow18] at h1
    simp only [evSs, evS, evE, evEs, evO, evIfs, evF, testE, getO, getP, getV_eq, getX, setC, rd, rdAll, sl_0, sl_s, Option.bind_some, Option.map_some, Option.bind_none, Option.map_none, List.set_cons_zero, List.set_cons_succ, q_add, q_sub, q_mod, q_fdiv, q_mulr, q_adds, q_addl, q_addt, g_add, g_sub, g_adds, b_len_l, b_len_t, b_len_s, b_int_i, b_abs_i, b_tup_l, b_tup_t, k_lt, k_gt, k_le, k_ge, w_at, w_put, w_draws, List.length_map, startE, List.map_cons, List.map_nil, flIn, List.length_cons, List.length_nil, List.replicate, List.append_nil, List.cons_append, List.nil_append, outsC, Nat.zero_add, Nat.reduceAdd, Nat.reduceSub, Nat.sub_self, ↓reduceIte, if_true, if_false, Bool.false_eq_true, Int.reduceLT, Int.reduceNeg, Int.reducePow, Bool.not_true, Bool.not_false, decide_true, decide_false, nn_n, nn_b, nn_i, nn_s, nn_l, nn_t, k_isN, k_notN, argsC, backC, setV_0, setV_s, fr_n, fr_i, fr_o, fr_j, jk_s, bind_n, bind_t, bind_0, bind_s, u_ty, getX, wipeOk, wipeF, unwipe, List.all_cons, List.all_nil, List.foldr_cons, List.foldr_nil, Bool.and_true, Bool.true_and, lendI, itemsD, unlend, outI, q_pow18, rr, h1]
  have s3 : evSs P_law [(.ret (.bool true))] (lE (ns.map PyData.int) ds n' t a3 a4 a5 a6 a7 a8 a9) = some (.rt (false, .bool true) (lE (ns.map PyData.int) ds n' t a3 a4 a5 a6 a7 a8 a9)) := by
    simp only [evSs, evS, evE, evEs, evO, evIfs, evF, testE, getO, getP, getV_eq, getX, setC, rd, rdAll, sl_0, sl_s, Option.bind_some, Option.map_some, Option.bind_none, Option.map_none, List.set_cons_zero, List.set_cons_succ, q_add, q_sub, q_mod, q_fdiv, q_mulr, q_adds, q_addl, q_addt, g_add, g_sub, g_adds, b_len_l, b_len_t, b_len_s, b_int_i, b_abs_i, b_tup_l, b_tup_t, k_lt, k_gt, k_le, k_ge, w_at, w_put, w_draws, List.length_map, startE, List.map_cons, List.map_nil, flIn, List.length_cons, List.length_nil, List.replicate, List.append_nil, List.cons_append, List.nil_append, outsC, Nat.zero_add, Nat.reduceAdd, Nat.reduceSub, Nat.sub_self, ↓reduceIte, if_true, if_false, Bool.false_eq_true, Int.reduceLT, Int.reduceNeg, Int.reducePow, Bool.not_true, Bool.not_false, decide_true, decide_false, nn_n, nn_b, nn_i, nn_s, nn_l, nn_t, k_isN, k_notN, argsC, backC, setV_0, setV_s, fr_n, fr_i, fr_o, fr_j, jk_s, bind_n, bind_t, bind_0, bind_s, u_ty, getX, wipeOk, wipeF, unwipe, List.all_cons, List.all_nil, List.foldr_cons, List.foldr_nil, Bool.and_true, Bool.true_and, lendI, itemsD, unlend, outI, q_pow18]
  have hall : evSs P_law ir_law [some (.ext, .list (ns.map PyData.int)), none, none, none, none, none, none, none, none, none, none, none, none] = some (.rt (false, .bool true) (lE (ns.map PyData.int) ds n' t a3 a4 a5 a6 a7 a8 a9)) := by
    unfold ir_law
    rw [ss_cons s1, ss_cons s2, s3]
  unfold F_law evFn
  have hst : startE 13 [(Fl.ext, PyData.list (ns.map PyData.int))] = [some (.ext, .list (ns.map PyData.int)), none, none, none, none, none, none, none, none, none, none, none, none] := rfl
  rw [hst, hall]
  rfl
end Lp
theorem PySem.Challenge.cw_tapestride_k72_counts_of_runs_holds : PySem.Challenge.rw_tapestride_k72_counts_of_runs.Holds := by
  exact Lw.holds_of Lp.law_true
