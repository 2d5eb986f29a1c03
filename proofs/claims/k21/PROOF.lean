import PyProof.Rows.All
import Wide.All
import OpenK.AllK
import Wide.FinOn
import HandS.ForMost
import HandS.Conv
import HandS.TupAny
import HandS.TupMul
import HandS.Style
import HandS.Deep
import HandS.IsInst
import HandS.SortInts
import KE.DataMinMax
import KE.DataFind
import KE.DataAny
import HandS.Strs
import HandS.TupLe
import KE.SortData
import HandS.Flow
import HandS.SetFor
import HandS.Iter
import KE.GoesMore
import KE.GoesEnum
import HandS.Zip
import HandS.Head2
import HandS.HeadHook2
import HandS.HeadEnd
import PySem.Challenge.RW_booksswapped_k21_whole_nested_sayings
section
set_option Elab.async false
set_option linter.all false
set_option maxRecDepth 100000
/-! DA: plain data, a small language of expressions and statements over it, and what a run of it gives. -/
namespace PV
open PySem L2

/-- plain data; box: the one drawing box -/
inductive D where
  | non | bl (b : Bool) | int (i : Int) | str (x : Str) | tup (xs : List D) | lst (xs : List D) | box

mutual
/-- == of data -/
def D.eqv : D → D → Bool
  | .non, .non => true
  | .bl a, .bl b => a == b
  | .bl a, .int j => (if a then 1 else 0) == j
  | .int i, .bl b => i == (if b then 1 else 0)
  | .int i, .int j => i == j
  | .str x, .str y => x == y
  | .lst xs, .lst ys => D.eqvL xs ys
  | .tup xs, .tup ys => D.eqvL xs ys
  | _, _ => false
def D.eqvL : List D → List D → Bool
  | [], [] => true
  | x :: xs, y :: ys => D.eqv x y && D.eqvL xs ys
  | _, _ => false
end
mutual
/-- how deep it is nested -/
def D.dep : D → Nat
  | .tup xs => D.depL xs + 1
  | .lst xs => D.depL xs + 1
  | _ => 0
def D.depL : List D → Nat
  | [] => 0
  | x :: xs => max (D.dep x) (D.depL xs)
end
mutual
/-- no box is in it, and its texts are texts -/
def D.pl : D → Bool
  | .tup xs => D.plL xs
  | .lst xs => D.plL xs
  | .str x => PyData.strOk x
  | .box => false
  | _ => true
def D.plL : List D → Bool
  | [] => true
  | x :: xs => D.pl x && D.plL xs
end
/-- may be compared by == -/
def D.cmpb (d : D) : Bool := d.pl && decide (d.dep ≤ 64)

inductive Slot where
  | un | val (d : D) | own (xs : List D)
/-- the drawing box: its cells, what is left of a number, its seed -/
structure Bx where
  cells : List Int
  st : List Int
structure Env where
  sl : List Slot
  bx : Bx
def Env.get (ρ : Env) (i : Nat) : Slot := ρ.sl.getD i .un
def Env.put (ρ : Env) (i : Nat) (s : Slot) : Env := { ρ with sl := ρ.sl.set i s }
def Env.wipe (ρ : Env) : List Nat → Env
  | [] => ρ
  | v :: vs => (ρ.wipe vs).put v .un
/-- the slots vs as in ρ0 -/
def Env.rest (ρ0 ρ : Env) : List Nat → Env
  | [] => ρ
  | v :: vs => (Env.rest ρ0 ρ vs).put v (ρ0.get v)
/-- what an expression hands on: a value, or the list that slot i owns -/
inductive Hd where
  | v (d : D) | p (i : Nat)
def Hd.at : Hd → Env → Option D
  | .v d, _ => some d
  | .p i, ρ => match ρ.get i with | .own ds => some (.lst ds) | _ => none
def Hd.val : Hd → Option D
  | .v d => some d
  | .p _ => none
def atL : List Hd → Env → Option (List D)
  | [], _ => some []
  | h :: hs, ρ => do let d ← h.at ρ; let ds ← atL hs ρ; some (d :: ds)
def valL : List Hd → Option (List D)
  | [] => some []
  | h :: hs => do let d ← h.val; let ds ← valL hs; some (d :: ds)

inductive Op2 where
  | add | sub | mul | fdiv | mod | pow | eq | ne | lt | le | gt | ge | isin | notin | is_ | isnot
  deriving DecidableEq
inductive Ty where
  | int | bool | str | tuple | list
  deriving DecidableEq
/-- built-in functions by values -/
inductive Bf where
  | len | sum | min | max | all | any | sorted | tuple | list | abs | int | str | setlen | setsort
  deriving DecidableEq
/-- methods that change nothing -/
inductive Mf where
  | index | count | upper | join
  deriving DecidableEq

mutual
inductive E where
  | var (i : Nat) | pk (i : Nat)
  | kint (i : Int) | kbl (b : Bool) | kstr (x : Str) | knon
  | gl (x : Str) (d : D)
  | op (o : Op2) (a b : E)
  | chain (o1 o2 : Op2) (a b c : E)
  | neg (a : E) | not (a : E)
  | and (a b : E) | or (a b : E)
  | ite (c a b : E)
  | tup (es : Es) | lst (es : Es)
  | ix (a i : E)
  | sl (a : E) (lo hi : Es)
  | rev (a : E)
  | comp (vs : List Nat) (it : Wk) (ifs : Es) (elt : E)
  | comp2 (vs : List Nat) (it : Wk) (ifs : Es) (vs2 : List Nat) (it2 : Wk) (ifs2 : Es) (elt : E)
  | call (f : Nat) (args : Es)
  | bi (f : Bf) (args : Es)
  | rngl (tup : Bool) (lo hi : E)
  | isi (t : Ty) (a : E)
  | mt (m : Mf) (r : E) (a : E)
  | rep (es : Es) (a : E)
  | pop (i : Nat) (a : Es)
  | no
  | rngs (lo hi st : E)
  | srt (a : E)
  | cnt (a : E)
inductive Wk where
  | of (e : E) | rng1 (hi : E) | rng (lo hi : E) | enum (e : E) | zip (a b : E)
inductive Es where
  | nil | cons (e : E) (es : Es)
end

mutual
inductive S where
  | asg (i : Nat) (e : E)
  | new (i : Nat) (e : E)
  | asgT (is : List Nat) (e : E)
  | par (i : Nat) (ni : Bool) (a : E) (j : Nat) (nj : Bool) (b : E)
  | ex (e : E)
  | app (i : Nat) (e : E) | ext (i : Nat) (e : E)
  | set (i : Nat) (ix e : E)
  | aug (o : Op2) (i : Nat) (e : E)
  | augs (o : Op2) (i : Nat) (ix e : E)
  | ite (c : E) (a b : Ss)
  | for_ (vs : List Nat) (it : Wk) (body : Ss)
  | whl (c : E) (body : Ss)
  | ret (e : E) | brk | cnt | pass
  | frz (i : Nat)
  | par3 (i : Nat) (ni : Bool) (a : E) (j : Nat) (nj : Bool) (b : E) (l : Nat) (nl : Bool) (e : E)
  | no
inductive Ss where
  | nil | cons (s : S) (ss : Ss)
end

/-! ### operations by values -/
def line : Nat := sizeLine
def tru : D → Option Bool
  | .bl b => some b
  | .non => some false
  | .int i => some (i != 0)
  | .str x => if x.length ≤ line then some ((x.length : Int) != 0) else none
  | .tup xs => some (!xs.isEmpty)
  | .lst xs => some (!xs.isEmpty)
  | .box => none
def big : Int := 18446744073709551616
def dAdd : D → D → Option D
  | .int i, .int j => some (.int (i + j))
  | .str x, .str y => if x.length + y.length ≤ line then some (.str (x ++ y)) else none
  | .tup xs, .tup ys => if xs.length + ys.length ≤ line then some (.tup (xs ++ ys)) else none
  | .lst xs, .lst ys => if xs.length + ys.length ≤ line then some (.lst (xs ++ ys)) else none
  | _, _ => none
def dSub : D → D → Option D
  | .int i, .int j => some (.int (i - j))
  | _, _ => none
def dMul : D → D → Option D
  | .int i, .int j => if (-big < i ∧ i < big) ∨ (-big < j ∧ j < big) then some (.int (i * j)) else none
  | .tup xs, .int k => if -1000000 ≤ k ∧ k ≤ 1000 ∧ xs.length ≤ 1000 then some (.tup (List.replicate k.toNat xs).flatten) else none
  | _, _ => none
def dFdiv : D → D → Option D
  | .int i, .int j => if j ≠ 0 ∧ j.natAbs < 1073741824 then some (.int (i.fdiv j)) else none
  | _, _ => none
def dMod : D → D → Option D
  | .int i, .int j => if j ≠ 0 then some (.int (i.fmod j)) else none
  | _, _ => none
def dPow : D → D → Option D
  | .int i, .int j => if 0 ≤ j ∧ j ≤ 1000000 ∧ i.natAbs < 2 ^ 64 then some (.int (i ^ j.toNat)) else none
  | _, _ => none
def dEq (a b : D) : Option Bool := if a.cmpb && b.cmpb then some (a.eqv b) else none
def dLt : D → D → Option Bool
  | .int i, .int j => some (decide (i < j))
  | .str x, .str y => some (decide (x.cps.toList < y.cps.toList))
  | _, _ => none
def dLe : D → D → Option Bool
  | .int i, .int j => some (decide (i ≤ j))
  | _, _ => none
def dGt : D → D → Option Bool
  | .int i, .int j => some (decide (j < i))
  | _, _ => none
def dGe : D → D → Option Bool
  | .int i, .int j => some (decide (j ≤ i))
  | _, _ => none
def dIn : D → D → Option Bool
  | a, .lst ys => if a.cmpb && (D.lst ys).cmpb then some (ys.any fun y => y.eqv a) else none
  | a, .tup ys => if a.cmpb && (D.lst ys).cmpb then some (ys.any fun y => y.eqv a) else none
  | .str x, .str y => some (!(Builtin.Str.occurrences y x 0 y.length 1).isEmpty)
  | _, _ => none
def dIs : D → D → Option Bool
  | .bl a, .bl b => some (a == b)
  | .non, .non => some true
  | .box, .non => none
  | _, .non => some false
  | _, _ => none
def op2 : Op2 → D → D → Option D
  | .add, a, b => dAdd a b
  | .sub, a, b => dSub a b
  | .mul, a, b => dMul a b
  | .fdiv, a, b => dFdiv a b
  | .mod, a, b => dMod a b
  | .pow, a, b => dPow a b
  | .eq, a, b => (dEq a b).map .bl
  | .ne, a, b => (dEq a b).map fun r => .bl !r
  | .lt, a, b => (dLt a b).map .bl
  | .le, a, b => (dLe a b).map .bl
  | .gt, a, b => (dGt a b).map .bl
  | .ge, a, b => (dGe a b).map .bl
  | .isin, a, b => (dIn a b).map .bl
  | .notin, a, b => (dIn a b).map fun r => .bl !r
  | .is_, a, b => (dIs a b).map .bl
  | .isnot, a, b => (dIs a b).map fun r => .bl !r
def dIx : D → D → Option D
  | .lst xs, .int i => atI xs i
  | .tup xs, .int i => atI xs i
  | .str x, .int i => if x.length ≤ line then (atI x.cps.toList i).map fun c => .str ⟨#[c]⟩ else none
  | _, _ => none
/-- a slice -/
def slc {α : Type} (xs : List α) (lo hi : Option Int) : List α := (xs.drop (HT.sIx xs.length 0 lo)).take (HT.sIx xs.length xs.length hi - HT.sIx xs.length 0 lo)
def dSl : D → Option Int → Option Int → Option D
  | .lst xs, lo, hi => some (.lst (slc xs lo hi))
  | .tup xs, lo, hi => some (.tup (slc xs lo hi))
  | .str x, lo, hi => if x.length ≤ line then some (.str (cutS x lo hi)) else none
  | _, _, _ => none
def dRev : D → Option D
  | .lst xs => some (.lst xs.reverse)
  | .tup xs => some (.tup xs.reverse)
  | _ => none
def dNeg : D → Option D
  | .int i => some (.int (-i))
  | _ => none
/-- x op= y of ints -/
def aug2 : Op2 → D → D → Option D
  | .add, .int i, .int j => some (.int (i + j))
  | .sub, .int i, .int j => some (.int (i - j))
  | .mul, .int i, .int j => if (-big < i ∧ i < big) ∨ (-big < j ∧ j < big) then some (.int (i * j)) else none
  | _, _, _ => none
def isTy : Ty → D → Option Bool
  | _, .box => none
  | .int, .int _ => some true
  | .int, .bl _ => some true
  | .bool, .bl _ => some true
  | .str, .str _ => some true
  | .tuple, .tup _ => some true
  | .list, .lst _ => some true
  | _, _ => some false
def intL : List D → Option (List Int)
  | [] => some []
  | .int i :: ds => (intL ds).map (i :: ·)
  | _ :: _ => none
def boolL : List D → Option (List Bool)
  | [] => some []
  | .bl b :: ds => (boolL ds).map (b :: ·)
  | _ :: _ => none

/-! ### order, sorting -/
mutual
/-- < of data of one kind: ints, texts, tuples -/
def D.ltb : D → D → Bool
  | .int i, .int j => decide (i < j)
  | .str x, .str y => decide (x.cps.toList < y.cps.toList)
  | .tup xs, .tup ys => D.ltbL xs ys
  | _, _ => false
def D.ltbL : List D → List D → Bool
  | [], [] => false
  | [], _ :: _ => true
  | _ :: _, [] => false
  | x :: xs, y :: ys => if D.eqv x y then D.ltbL xs ys else D.ltb x y
end
def insG {α : Type} (lt : α → α → Bool) (x : α) : List α → List α
  | [] => [x]
  | y :: ys => if lt y x then y :: insG lt x ys else x :: y :: ys
/-- stable -/
def sortG {α : Type} (lt : α → α → Bool) : List α → List α
  | [] => []
  | x :: xs => insG lt x (sortG lt xs)
mutual
/-- may be compared by <: of the same kinds, place by place -/
def D.same : D → D → Bool
  | .int _, .int _ => true
  | .str x, .str y => PyData.strOk x && PyData.strOk y
  | .tup xs, .tup ys => D.sameL xs ys
  | _, _ => false
def D.sameL : List D → List D → Bool
  | [], _ => true
  | _ :: _, [] => true
  | x :: xs, y :: ys => D.same x y && D.sameL xs ys
end
/-- not the empty tuple -/
def notNil : D → Bool | .tup [] => false | _ => true
def allSame (xs : List D) : Bool := xs.all fun x => x.cmpb && decide (x.dep ≤ 16) && xs.all fun y => x.same y
def dSorted (xs : List D) : Option (List D) :=
  if allSame xs then some (sortG D.ltb xs) else none
/-- the first of the least, of the greatest -/
def minF (x : D) (xs : List D) : D := xs.foldl (fun a y => if D.ltb y a then y else a) x
def maxF (x : D) (xs : List D) : D := xs.foldl (fun a y => if D.ltb a y then y else a) x
def dMin : List D → Option D
  | [] => none
  | x :: xs => if allSame (x :: xs) then some (minF x xs) else none
def dMax : List D → Option D
  | [] => none
  | x :: xs => if allSame (x :: xs) then some (maxF x xs) else none
def maxI : List Int → Option Int
  | [] => none
  | x :: xs => some (xs.foldl max x)
def minI : List Int → Option Int
  | [] => none
  | x :: xs => some (xs.foldl min x)
def seqOf : D → Option (List D)
  | .lst xs => some xs
  | .tup xs => some xs
  | _ => none
def bfn : Bf → List D → Option D
  | .len, [.str x] => if x.length ≤ line then some (.int x.length) else none
  | .len, [.lst xs] => some (.int xs.length)
  | .len, [.tup xs] => some (.int xs.length)
  | .sum, [.lst xs] => (intL xs).map fun ns => .int ns.sum
  | .max, [.lst xs] => ((intL xs).bind fun ns => (maxI ns).map .int).or (dMax xs)
  | .min, [.lst xs] => ((intL xs).bind fun ns => (minI ns).map .int).or (dMin xs)
  | .sum, [.tup xs] => (intL xs).map fun ns => .int ns.sum
  | .max, [.tup xs] => (intL xs).bind fun ns => (maxI ns).map .int
  | .min, [.tup xs] => (intL xs).bind fun ns => (minI ns).map .int
  | .max, [.int i, .int j] => some (.int (if j > i then j else i))
  | .min, [.int i, .int j] => some (.int (if j < i then j else i))
  | .all, [.lst xs] => (boolL xs).map fun bs => .bl (bs.all id)
  | .any, [.lst xs] => ((boolL xs).map fun bs => .bl (bs.any id)).or ((intL xs).map fun ns => .bl (ns.any fun n => n != 0))
  | .sorted, [.lst xs] => (dSorted xs).map .lst
  | .sorted, [.tup xs] => (dSorted xs).map .lst
  | .tuple, [.lst xs] => some (.tup xs)
  | .tuple, [.tup xs] => some (.tup xs)
  | .list, [.lst xs] => some (.lst xs)
  | .list, [.tup xs] => some (.lst xs)
  | .abs, [.int i] => some (.int (if i < 0 then -i else i))
  | .int, [.int i] => some (.int i)
  | .int, [.bl b] => some (.int (if b then 1 else 0))
  | .str, [.int i] => if i.natAbs < 1000000 then some (.str (toString i)) else none
  | _, _ => none
/-- which give a new list -/
def bfNew : Bf → Bool
  | .sorted => true
  | .list => true
  | _ => false
def mfn : Mf → D → List D → Option D
  | .index, .lst xs, [a] => if (D.lst xs).cmpb && a.cmpb then (xs.findIdx? fun y => y.eqv a).map (fun (j : Nat) => D.int (j : Int)) else none
  | .index, .tup xs, [a] => if (D.lst xs).cmpb && a.cmpb then (xs.findIdx? fun y => y.eqv a).map (fun (j : Nat) => D.int (j : Int)) else none
  | .count, .lst xs, [a] => if (D.lst xs).cmpb && a.cmpb then some (.int (xs.countP fun y => y.eqv a : Nat)) else none
  | .count, .tup xs, [a] => if (D.lst xs).cmpb && a.cmpb then some (.int (xs.countP fun y => y.eqv a : Nat)) else none
  | _, _, _ => none
def rngL (lo hi : Int) : List D := (List.range (hi - lo).toNat).map fun (k : Nat) => D.int (lo + k)
/-- tuple(range(lo, hi, st)) -/
def rngS (lo hi st : Int) : List D := (List.range ((hi - lo + st - 1) / st).toNat).map fun (k : Nat) => D.int (lo + k * st)
def insU (x : Int) : List Int → List Int
  | [] => [x]
  | y :: ys => if x < y then x :: y :: ys else if x = y then y :: ys else y :: insU x ys
/-- each once, upwards -/
def usort (ns : List Int) : List Int := ns.foldr insU []
def dSrt (d : D) : Option D := (seqOf d).bind fun ds => (intL ds).bind fun ns => if ns.length < 64 then some (.lst ((usort ns).map .int)) else none
def dCnt (d : D) : Option D := (seqOf d).bind fun ds => (intL ds).bind fun ns => if ns.length < 64 then some (.int ((usort ns).length : Nat)) else none
def small62 (lo hi : Int) : Bool := decide (-(2 ^ 62) ≤ lo) && decide (lo < 2 ^ 62) && decide (-(2 ^ 62) ≤ hi) && decide (hi < 2 ^ 62)
def enumL : Nat → List D → List D
  | _, [] => []
  | k, x :: xs => .tup [.int k, x] :: enumL (k + 1) xs
def zipL : List D → List D → List D
  | x :: xs, y :: ys => .tup [x, y] :: zipL xs ys
  | _, _ => []

/-! ### what a run gives -/
abbrev Call := Nat → List D → Bx → Option (D × Bx)
/-- what a loop walks: data, or the list that a slot owns -/
inductive Src where
  | vals (xs : List D) | live (i : Nat)
/-- zip of two lists, of two tuples -/
def zipS : D → D → Option Src
  | .lst xs, .lst ys => some (.vals (zipL xs ys))
  | .tup xs, .tup ys => some (.vals (zipL xs ys))
  | _, _ => none
def srcOf : Hd → Env → Option Src
  | .p i, ρ => match ρ.get i with | .own _ => some (.live i) | _ => none
  | .v (.lst xs), _ => some (.vals xs)
  | .v (.tup xs), _ => some (.vals xs)
  | .v (.str x), _ => if x.length ≤ line then some (.vals (x.cps.toList.map fun c => .str ⟨#[c]⟩)) else none
  | .v _, _ => none
/-- a name, or names of a tuple -/
def setTg : List Nat → D → Env → Option Env
  | [i], d, ρ => some (ρ.put i (.val d))
  | [i, j], .tup [a, b], ρ => some ((ρ.put i (.val a)).put j (.val b))
  | [i, j, k], .tup [a, b, c], ρ => some (((ρ.put i (.val a)).put j (.val b)).put k (.val c))
  | _, _, _ => none
def isOwn : Slot → Bool
  | .own _ => true
  | _ => false
/-- a comprehension's walk: each turn hands on an item or none -/
def compL (turn : D → Env → Option (List D × Env)) : List D → Env → Option (List D × Env)
  | [], ρ => some ([], ρ)
  | x :: xs, ρ => do
    let (r, ρ) ← turn x ρ
    let (ys, ρ) ← compL turn xs ρ
    some (r ++ ys, ρ)
def compV (turn : D → Env → Option (List D × Env)) (i : Nat) : Nat → Nat → Env → Option (List D × Env)
  | 0, _, _ => none
  | n + 1, k, ρ => match ρ.get i with
    | .own ds => match ds[k]? with
      | none => some ([], ρ)
      | some x => do
        let (r, ρ) ← turn x ρ
        let (ys, ρ) ← compV turn i n (k + 1) ρ
        some (r ++ ys, ρ)
    | _ => none
def fuel : Nat := 1000000
def compS (turn : D → Env → Option (List D × Env)) (s : Src) (ρ : Env) : Option (List D × Env) :=
  match s with
  | .vals xs => compL turn xs ρ
  | .live i => compV turn i fuel 0 ρ

/-- a walk over data alone -/
def compLv (turn : D → Env → Option (List D × Env)) (s : Src) (ρ : Env) : Option (List D × Env) :=
  match s with
  | .vals xs => compL turn xs ρ
  | .live _ => none

/-- as a test -/
def tstR : Option (Hd × Env) → Option (Bool × Env)
  | none => none
  | some (x, ρ) => do
    let x ← x.at ρ
    let b ← tru x
    some (b, ρ)

mutual
def ev (c : Call) : E → Env → Option (Hd × Env)
  | .var i, ρ => match ρ.get i with | .val d => some (.v d, ρ) | _ => none
  | .pk i, ρ => match ρ.get i with | .own _ => some (.p i, ρ) | _ => none
  | .kint i, ρ => some (.v (.int i), ρ)
  | .kbl b, ρ => some (.v (.bl b), ρ)
  | .kstr x, ρ => some (.v (.str x), ρ)
  | .knon, ρ => some (.v .non, ρ)
  | .gl _ d, ρ => some (.v d, ρ)
  | .op o a b, ρ => do
    let (x, ρ) ← ev c a ρ
    let (y, ρ) ← ev c b ρ
    let x ← x.at ρ
    let y ← y.at ρ
    let d ← op2 o x y
    some (.v d, ρ)
  | .chain o1 o2 a b e, ρ => do
    let (x, ρ) ← ev c a ρ
    let (y, ρ) ← ev c b ρ
    let x ← x.val
    let y ← y.val
    match ← op2 o1 x y with
    | .bl true => do
      let (z, ρ) ← ev c e ρ
      let z ← z.at ρ
      let d ← op2 o2 y z
      some (.v d, ρ)
    | .bl false => some (.v (.bl false), ρ)
    | _ => none
  | .neg a, ρ => do
    let (x, ρ) ← ev c a ρ
    let x ← x.at ρ
    let d ← dNeg x
    some (.v d, ρ)
  | .not a, ρ => do
    let (b, ρ) ← tstR (ev c a ρ)
    some (.v (.bl !b), ρ)
  | .and a e, ρ => do
    let (h, ρ) ← ev c a ρ
    let x ← h.at ρ
    match ← tru x with
    | true => ev c e ρ
    | false => some (h, ρ)
  | .or a e, ρ => do
    let (h, ρ) ← ev c a ρ
    let x ← h.at ρ
    match ← tru x with
    | true => some (h, ρ)
    | false => ev c e ρ
  | .ite t a b, ρ => do
    let (t, ρ) ← tstR (ev c t ρ)
    match t with
    | true => ev c a ρ
    | false => ev c b ρ
  | .tup es, ρ => do
    let (hs, ρ) ← evs c es ρ
    let ds ← valL hs
    some (.v (.tup ds), ρ)
  | .lst es, ρ => do
    let (hs, ρ) ← evs c es ρ
    let ds ← valL hs
    some (.v (.lst ds), ρ)
  | .ix a i, ρ => do
    let (x, ρ) ← ev c a ρ
    let (y, ρ) ← ev c i ρ
    let x ← x.at ρ
    let y ← y.at ρ
    let d ← dIx x y
    some (.v d, ρ)
  | .sl a lo hi, ρ => do
    let (x, ρ) ← ev c a ρ
    let (l, ρ) ← evO c lo ρ
    let (u, ρ) ← evO c hi ρ
    let x ← x.at ρ
    let d ← dSl x l u
    some (.v d, ρ)
  | .rev a, ρ => do
    let (x, ρ) ← ev c a ρ
    let x ← x.at ρ
    let d ← dRev x
    some (.v d, ρ)
  | .comp vs it ifs elt, ρ => do
    let (s, ρ) ← evIt c it ρ
    if vs.any fun v => isOwn (ρ.get v) then none else
    let (ds, ρ') ← compS (fun x ρ => do
      let ρ ← setTg vs x (ρ.wipe vs)
      let (b, ρ) ← evIfs c ifs ρ
      match b with
      | true => do
        let (h, ρ) ← ev c elt ρ
        let d ← h.val
        some ([d], ρ)
      | false => some ([], ρ)) s (ρ.wipe vs)
    some (.v (.lst ds), Env.rest ρ ρ' vs)
  | .comp2 vs it ifs vs2 it2 ifs2 elt, ρ => do
    let (s, ρ) ← evIt c it ρ
    if (vs ++ vs2).any fun v => isOwn (ρ.get v) then none else
    let (ds, ρ') ← compLv (fun x ρ => do
      let ρ ← setTg vs x (ρ.wipe (vs ++ vs2))
      let (b, ρ) ← evIfs c ifs ρ
      match b with
      | true => do
        let (s2, ρ) ← evIt c it2 ρ
        compLv (fun x ρ => do
          let ρ ← setTg vs2 x (ρ.wipe vs2)
          let (b, ρ) ← evIfs c ifs2 ρ
          match b with
          | true => do
            let (h, ρ) ← ev c elt ρ
            let d ← h.val
            some ([d], ρ)
          | false => some ([], ρ)) s2 (ρ.wipe vs2)
      | false => some ([], ρ)) s (ρ.wipe (vs ++ vs2))
    if ds.length < line then some (.v (.lst ds), Env.rest ρ ρ' (vs ++ vs2)) else none
  | .no, _ => none
  | .call f args, ρ => do
    let (hs, ρ) ← evs c args ρ
    let ds ← valL hs
    let (d, b) ← c f ds ρ.bx
    some (.v d, { ρ with bx := b })
  | .bi f args, ρ => do
    let (hs, ρ) ← evs c args ρ
    let ds ← atL hs ρ
    let d ← bfn f ds
    some (.v d, ρ)
  | .rngl t lo hi, ρ => do
    let (x, ρ) ← ev c lo ρ
    let (y, ρ) ← ev c hi ρ
    match x, y with
    | .v (.int i), .v (.int j) => if small62 i j && decide ((j - i).toNat ≤ line) then some (.v (if t then .tup (rngL i j) else .lst (rngL i j)), ρ) else none
    | _, _ => none
  | .isi t a, ρ => do
    let (x, ρ) ← ev c a ρ
    let x ← x.at ρ
    let b ← isTy t x
    some (.v (.bl b), ρ)
  | .mt m r a, ρ => do
    let (x, ρ) ← ev c r ρ
    let _ ← x.at ρ
    let (y, ρ) ← ev c a ρ
    let x ← x.at ρ
    let y ← y.at ρ
    let d ← mfn m x [y]
    some (.v d, ρ)
  | .rep es a, ρ => do
    let (hs, ρ) ← evs c es ρ
    let ds ← valL hs
    let (y, ρ) ← ev c a ρ
    match y with
    | .v (.int k) => if -(2 ^ 63) ≤ k ∧ k < 2 ^ 63 ∧ ds.length * k.toNat ≤ line then some (.v (.lst (List.replicate k.toNat ds).flatten), ρ) else none
    | _ => none
  | .pop i args, ρ => if !isOwn (ρ.get i) then none else do
    let (hs, ρ) ← evs c args ρ
    match ρ.get i, hs with
    | .own ds, [] => match ds[ds.length - 1]? with
      | some d => some (.v d, ρ.put i (.own ds.dropLast))
      | none => none
    | .own ds, [.v (.int k)] => match ixN ds.length k with
      | some j => match ds[j]? with
        | some d => some (.v d, ρ.put i (.own (ds.eraseIdx j)))
        | none => none
      | none => none
    | _, _ => none
  | .rngs lo hi st, ρ => do
    let (x, ρ) ← ev c lo ρ
    let (y, ρ) ← ev c hi ρ
    let (z, ρ) ← ev c st ρ
    match x, y, z with
    | .v (.int i), .v (.int j), .v (.int k) => if small62 i j && decide (0 < k) && decide (k < 1000000) && decide (i ≤ j) && decide ((j - i).toNat ≤ line) then some (.v (.tup (rngS i j k)), ρ) else none
    | _, _, _ => none
  | .srt a, ρ => do
    let (x, ρ) ← ev c a ρ
    let x ← x.at ρ
    let d ← dSrt x
    some (.v d, ρ)
  | .cnt a, ρ => do
    let (x, ρ) ← ev c a ρ
    let x ← x.at ρ
    let d ← dCnt x
    some (.v d, ρ)
termination_by structural e => e
def evs (c : Call) : Es → Env → Option (List Hd × Env)
  | .nil, ρ => some ([], ρ)
  | .cons e es, ρ => do
    let (h, ρ) ← ev c e ρ
    let (hs, ρ) ← evs c es ρ
    some (h :: hs, ρ)
termination_by structural e => e
/-- all tests, from the left -/
def evIfs (c : Call) : Es → Env → Option (Bool × Env)
  | .nil, ρ => some (true, ρ)
  | .cons e .nil, ρ => tstR (ev c e ρ)
  | .cons _ (.cons _ _), _ => none
termination_by structural e => e
/-- an end of a slice: none, or an int -/
def evO (c : Call) : Es → Env → Option (Option Int × Env)
  | .nil, ρ => some (none, ρ)
  | .cons e .nil, ρ => do
    let (x, ρ) ← ev c e ρ
    match x with
    | .v (.int i) => some (some i, ρ)
    | _ => none
  | .cons _ (.cons _ _), _ => none
termination_by structural e => e
def evIt (c : Call) : Wk → Env → Option (Src × Env)
  | .of e, ρ => do
    let (x, ρ) ← ev c e ρ
    let s ← srcOf x ρ
    some (s, ρ)
  | .rng1 hi, ρ => do
    let (y, ρ) ← ev c hi ρ
    match y with
    | .v (.int j) => if small62 0 j && decide ((j - 0).toNat ≤ line) then some (.vals (rngL 0 j), ρ) else none
    | _ => none
  | .rng lo hi, ρ => do
    let (x, ρ) ← ev c lo ρ
    let (y, ρ) ← ev c hi ρ
    match x, y with
    | .v (.int i), .v (.int j) => if small62 i j && decide ((j - i).toNat ≤ line) then some (.vals (rngL i j), ρ) else none
    | _, _ => none
  | .enum e, ρ => do
    let (x, ρ) ← ev c e ρ
    let d ← x.val
    let xs ← seqOf d
    some (.vals (enumL 0 xs), ρ)
  | .zip a b, ρ => do
    let (x, ρ) ← ev c a ρ
    let (y, ρ) ← ev c b ρ
    let x ← x.val
    let y ← y.val
    let s ← zipS x y
    some (s, ρ)
termination_by structural e => e
end

abbrev evT (c : Call) (e : E) (ρ : Env) : Option (Bool × Env) := tstR (ev c e ρ)
inductive Fl where
  | next | brk | cnt | ret (d : D)
def forL (turn : D → Env → Option (Fl × Env)) : List D → Env → Option (Fl × Env)
  | [], ρ => some (.next, ρ)
  | x :: xs, ρ => do
    let (f, ρ) ← turn x ρ
    match f with
    | .brk => some (.next, ρ)
    | .ret d => some (.ret d, ρ)
    | _ => forL turn xs ρ
def forV (turn : D → Env → Option (Fl × Env)) (i : Nat) : Nat → Nat → Env → Option (Fl × Env)
  | 0, _, _ => none
  | n + 1, k, ρ => match ρ.get i with
    | .own ds => match ds[k]? with
      | none => some (.next, ρ)
      | some x => do
        let (f, ρ) ← turn x ρ
        match f with
        | .brk => some (.next, ρ)
        | .ret d => some (.ret d, ρ)
        | _ => forV turn i n (k + 1) ρ
    | _ => none
def whlN (test : Env → Option (Bool × Env)) (turn : Env → Option (Fl × Env)) : Nat → Env → Option (Fl × Env)
  | 0, _ => none
  | n + 1, ρ => do
    let (b, ρ) ← test ρ
    match b with
    | false => some (.next, ρ)
    | true => do
      let (f, ρ) ← turn ρ
      match f with
      | .brk => some (.next, ρ)
      | .ret d => some (.ret d, ρ)
      | _ => whlN test turn n ρ
def newPut (n : Bool) (i : Nat) (d : D) (ρ : Env) : Option Env :=
  match n, d with
  | false, d => some (ρ.put i (.val d))
  | true, .lst ds => some (ρ.put i (.own ds))
  | true, _ => none

mutual
def exS (c : Call) : S → Env → Option (Fl × Env)
  | .asg i e, ρ => do
    let (h, ρ) ← ev c e ρ
    let d ← h.val
    some (.next, ρ.put i (.val d))
  | .new i e, ρ => do
    let (h, ρ) ← ev c e ρ
    match h with
    | .v (.lst ds) => some (.next, ρ.put i (.own ds))
    | _ => none
  | .asgT is e, ρ => do
    let (h, ρ) ← ev c e ρ
    let d ← h.val
    let ρ ← setTg is d ρ
    some (.next, ρ)
  | .par i ni a j nj b, ρ => do
    let (x, ρ) ← ev c a ρ
    let (y, ρ) ← ev c b ρ
    let x ← x.val
    let y ← y.val
    let ρ ← newPut ni i x ρ
    let ρ ← newPut nj j y ρ
    some (.next, ρ)
  | .ex e, ρ => do
    let (_, ρ) ← ev c e ρ
    some (.next, ρ)
  | .app i e, ρ => if !isOwn (ρ.get i) then none else do
    let (h, ρ) ← ev c e ρ
    let d ← h.val
    match ρ.get i with
    | .own ds => if ds.length < line then some (.next, ρ.put i (.own (ds ++ [d]))) else none
    | _ => none
  | .ext i e, ρ => if !isOwn (ρ.get i) then none else do
    let (h, ρ) ← ev c e ρ
    let d ← h.val
    match ρ.get i, d with
    | .own ds, .lst es => if ds.length + es.length ≤ line then some (.next, ρ.put i (.own (ds ++ es))) else none
    | _, _ => none
  | .set i ix e, ρ => do
    let (h, ρ) ← ev c e ρ
    let d ← h.val
    if !isOwn (ρ.get i) then none else do
    let (k, ρ) ← ev c ix ρ
    match ρ.get i, k with
    | .own ds, .v (.int k) => match ixN ds.length k with
      | some j => some (.next, ρ.put i (.own (ds.set j d)))
      | none => none
    | _, _ => none
  | .aug o i e, ρ => match ρ.get i with
    | .val x => do
      let (y, ρ) ← ev c e ρ
      let y ← y.val
      let d ← aug2 o x y
      some (.next, ρ.put i (.val d))
    | _ => none
  | .augs o i ix e, ρ => if !isOwn (ρ.get i) then none else do
    let (k, ρ) ← ev c ix ρ
    match ρ.get i, k with
    | .own ds, .v (.int k) => do
      let x ← atI ds k
      let (y, ρ) ← ev c e ρ
      let y ← y.val
      let d ← aug2 o x y
      match ρ.get i with
      | .own ds => match ixN ds.length k with
        | some j => some (.next, ρ.put i (.own (ds.set j d)))
        | none => none
      | _ => none
    | _, _ => none
  | .ite t a b, ρ => do
    let (t, ρ) ← evT c t ρ
    match t with
    | true => exs c a ρ
    | false => exs c b ρ
  | .for_ vs it body, ρ => do
    let (s, ρ) ← evIt c it ρ
    let turn := fun x ρ => do
      let ρ ← setTg vs x ρ
      exs c body ρ
    match s with
    | .vals xs => forL turn xs ρ
    | .live i => forV turn i fuel 0 ρ
  | .whl t body, ρ => whlN (fun ρ => evT c t ρ) (fun ρ => exs c body ρ) fuel ρ
  | .ret e, ρ => do
    let (h, ρ) ← ev c e ρ
    let d ← h.at ρ
    some (.ret d, ρ)
  | .brk, ρ => some (.brk, ρ)
  | .cnt, ρ => some (.cnt, ρ)
  | .pass, ρ => some (.next, ρ)
  | .frz i, ρ => match ρ.get i with
    | .own ds => some (.next, ρ.put i (.val (.lst ds)))
    | _ => none
  | .par3 i ni a j nj b l nl e, ρ => do
    let (x, ρ) ← ev c a ρ
    let (y, ρ) ← ev c b ρ
    let (z, ρ) ← ev c e ρ
    let x ← x.val
    let y ← y.val
    let z ← z.val
    let ρ ← newPut ni i x ρ
    let ρ ← newPut nj j y ρ
    let ρ ← newPut nl l z ρ
    some (.next, ρ)
  | .no, _ => none
termination_by structural s => s
def exs (c : Call) : Ss → Env → Option (Fl × Env)
  | .nil, ρ => some (.next, ρ)
  | .cons s ss, ρ => do
    let (f, ρ) ← exS c s ρ
    match f with
    | .next => exs c ss ρ
    | f => some (f, ρ)
termination_by structural s => s
end
end PV

end
section
set_option Elab.async false
set_option linter.all false
set_option maxRecDepth 100000
set_option maxHeartbeats 1000000
/-! DB: how data lie in the heap. -/
namespace PV
open PySem PySem.Spec PyProof.Rows L2

/-- what stays through a law's run: the written part, the drawing box, its cells -/
structure G where
  K : PySem.W.Frag
  ba : Addr
  bc : Addr

/-- the tuple at a has no dict of its own -/
def StT (K : PySem.W.Frag) (H : Hp) (a : Addr) : Prop := (∃ o u, H a = some (.frz o u) ∧ o.cls = .type "tuple" ∧ o.dict = none) ∨ ∃ o, K.lookup a = some o ∧ o.cls = .type "tuple" ∧ o.dict = none
def TupS (K : PySem.W.Frag) (H : Hp) (a : Addr) (xs : List V) : Prop := SqT K H a xs ∧ StT K H a
mutual
inductive Rep (g : G) (H : Hp) : V → D → Prop
  | non : Rep g H .non .non
  | bl (b : Bool) : Rep g H (.bl b) (.bl b)
  | int (i : Int) : Rep g H (.int i) (.int i)
  | str (x : Str) : Rep g H (.str x) (.str x)
  | tup {a : Addr} {xs : List V} {ds : List D} : TupS g.K H a xs → RepL g H xs ds → Rep g H (.ref a) (.tup ds)
  | lst {a : Addr} {xs : List V} {ds : List D} : H a = some (.lst xs) → RepL g H xs ds → Rep g H (.ref a) (.lst ds)
  | box : Rep g H (.ref g.ba) .box
inductive RepL (g : G) (H : Hp) : List V → List D → Prop
  | nil : RepL g H [] []
  | cons {v : V} {vs : List V} {d : D} {ds : List D} : Rep g H v d → RepL g H vs ds → RepL g H (v :: vs) (d :: ds)
end
section
variable {g : G} {H H' : Hp} {v : V} {d : D} {vs : List V} {ds : List D} {a b : Addr} {xs : List V}
theorem Same.sqT {K : PySem.W.Frag} (e : Same H H') (h : SqT K H a xs) : SqT K H' a xs := by
  rcases h with (h | ⟨o, h⟩) | h
  · exact .inl (.inl (e _ _ h))
  · exact .inl (.inr ⟨o, e _ _ h⟩)
  · exact .inr h
theorem Same.tupS {K : PySem.W.Frag} (e : Same H H') (h : TupS K H a xs) : TupS K H' a xs := by
  refine ⟨Same.sqT e h.1, ?_⟩
  rcases h.2 with ⟨o, u, h, q⟩ | h
  · exact .inl ⟨o, u, e _ _ h, q⟩
  · exact .inr h
mutual
theorem Rep.mono (e : Same H H') : ∀ {d : D} {v : V}, Rep g H v d → Rep g H' v d
  | .non, _, h => by cases h; exact .non
  | .bl _, _, h => by cases h; exact .bl _
  | .int _, _, h => by cases h; exact .int _
  | .str _, _, h => by cases h; exact .str _
  | .tup ds, _, h => by
    cases h with
    | tup h1 h2 => exact .tup (Same.tupS e h1) (RepL.mono e h2)
  | .lst ds, _, h => by
    cases h with
    | lst h1 h2 => exact .lst (e _ _ h1) (RepL.mono e h2)
  | .box, _, h => by cases h; exact .box
theorem RepL.mono (e : Same H H') : ∀ {ds : List D} {vs : List V}, RepL g H vs ds → RepL g H' vs ds
  | [], _, h => by cases h; exact .nil
  | d :: ds, _, h => by
    cases h with
    | cons h1 h2 => exact .cons (Rep.mono e h1) (RepL.mono e h2)
end
theorem RepL.length : ∀ {ds : List D} {vs : List V}, RepL g H vs ds → vs.length = ds.length
  | [], _, h => by cases h; rfl
  | d :: ds, _, h => by
    cases h with
    | cons h1 h2 => simp only [List.length_cons, RepL.length h2]
theorem RepL.append : ∀ {ds es : List D} {vs ws : List V}, RepL g H vs ds → RepL g H ws es → RepL g H (vs ++ ws) (ds ++ es)
  | [], _, _, _, h, k => by cases h; exact k
  | d :: ds, _, _, _, h, k => by
    cases h with
    | cons h1 h2 => exact .cons h1 (RepL.append h2 k)
theorem RepL.get : ∀ {ds : List D} {vs : List V} {i : Nat} {d : D}, RepL g H vs ds → ds[i]? = some d → ∃ v, vs[i]? = some v ∧ Rep g H v d
  | [], _, _, _, h, e => by simp at e
  | d :: ds, _, 0, _, h, e => by
    cases h with
    | cons h1 h2 =>
      simp at e; subst e
      exact ⟨_, rfl, h1⟩
  | d :: ds, _, i + 1, _, h, e => by
    cases h with
    | cons h1 h2 =>
      obtain ⟨v, e1, e2⟩ := RepL.get (i := i) h2 (by simpa using e)
      exact ⟨v, by simpa using e1, e2⟩
theorem RepL.get' : ∀ {ds : List D} {vs : List V} {i : Nat} {v : V}, RepL g H vs ds → vs[i]? = some v → ∃ d, ds[i]? = some d ∧ Rep g H v d
  | [], _, _, _, h, e => by cases h; simp at e
  | d :: ds, _, 0, _, h, e => by
    cases h with
    | cons h1 h2 =>
      simp at e; subst e
      exact ⟨_, rfl, h1⟩
  | d :: ds, _, i + 1, _, h, e => by
    cases h with
    | cons h1 h2 =>
      obtain ⟨v, e1, e2⟩ := RepL.get' (i := i) h2 (by simpa using e)
      exact ⟨v, by simpa using e1, e2⟩
theorem RepL.set : ∀ {ds : List D} {vs : List V} {d : D} {v : V} (i : Nat), RepL g H vs ds → Rep g H v d → RepL g H (vs.set i v) (ds.set i d)
  | [], _, _, _, _, h, k => by cases h; exact .nil
  | _ :: _, _, _, _, 0, h, k => by
    cases h with
    | cons h1 h2 => exact .cons k h2
  | _ :: _, _, _, _, i + 1, h, k => by
    cases h with
    | cons h1 h2 => exact .cons h1 (RepL.set i h2 k)
theorem RepL.eraseIdx : ∀ {ds : List D} {vs : List V} (i : Nat), RepL g H vs ds → RepL g H (vs.eraseIdx i) (ds.eraseIdx i)
  | [], _, _, h => by cases h; exact .nil
  | _ :: _, _, 0, h => by
    cases h with
    | cons h1 h2 => exact h2
  | _ :: _, _, i + 1, h => by
    cases h with
    | cons h1 h2 => exact .cons h1 (RepL.eraseIdx i h2)
theorem RepL.drop : ∀ {ds : List D} {vs : List V} (i : Nat), RepL g H vs ds → RepL g H (vs.drop i) (ds.drop i)
  | _, _, 0, h => h
  | [], _, i + 1, h => by cases h; exact .nil
  | _ :: _, _, i + 1, h => by
    cases h with
    | cons h1 h2 => exact RepL.drop i h2
theorem RepL.take : ∀ {ds : List D} {vs : List V} (i : Nat), RepL g H vs ds → RepL g H (vs.take i) (ds.take i)
  | _, _, 0, h => by simp; exact .nil
  | [], _, i + 1, h => by cases h; exact .nil
  | _ :: _, _, i + 1, h => by
    cases h with
    | cons h1 h2 => exact .cons h1 (RepL.take i h2)
theorem RepL.rev : ∀ {ds : List D} {vs : List V}, RepL g H vs ds → RepL g H vs.reverse ds.reverse
  | [], _, h => by cases h; exact .nil
  | _ :: _, _, h => by
    cases h with
    | cons h1 h2 => simp only [List.reverse_cons]; exact RepL.append (RepL.rev h2) (.cons h1 .nil)
theorem RepL.dropLast {ds : List D} {vs : List V} (h : RepL g H vs ds) : RepL g H vs.dropLast ds.dropLast := by
  rw [List.dropLast_eq_take, List.dropLast_eq_take, h.length]; exact h.take _
theorem RepL.slc {ds : List D} {vs : List V} (h : RepL g H vs ds) (lo hi : Option Int) : RepL g H (cutV vs lo hi) (PV.slc ds lo hi) := by
  unfold cutV PV.slc
  rw [h.length]
  exact (h.drop _).take _
end

/-! ### hidden places -/
def hid (Z : Addr → Bool) (H : Hp) : Hp := fun a => if Z a = true then none else H a
def Or2 (Z Y : Addr → Bool) : Addr → Bool := fun a => Z a || Y a
section
variable {Z Y : Addr → Bool} {H H' : Hp} {a : Addr} {o : HO}
theorem hid_some (h : hid Z H a = some o) : Z a = false ∧ H a = some o := by
  unfold hid at h
  split at h
  · cases h
  · rename_i q; exact ⟨by simpa using q, h⟩
theorem hid_of (z : Z a = false) (h : H a = some o) : hid Z H a = some o := by
  unfold hid; rw [if_neg (by simp [z])]; exact h
theorem hid_le : Same (hid Z H) H := fun _ _ h => (hid_some h).2
theorem hid_mono (e : Same H H') : Same (hid Z H) (hid Z H') := fun _ _ h => hid_of (hid_some h).1 (e _ _ (hid_some h).2)
/-- hidden places are tracked -/
def Dom (Z : Addr → Bool) (H : Hp) : Prop := ∀ a, Z a = true → H a ≠ none
theorem Dom.not (d : Dom Z H) (h : H a = none) : Z a = false := by
  cases e : Z a with
  | false => rfl
  | true => exact absurd h (d a e)
theorem Dom.same (d : Dom Z H) (e : Same H H') : Dom Z H' := fun a z h => by
  cases q : H a with
  | none => exact d a z q
  | some o => rw [e a o q] at h; cases h
theorem same_upd (h : H a = none) : Same H (upd H a o) := fun b u e => by rw [upd_ne (ne_of_none e h)]; exact e
end

/-- a value, or a list whose own place is hidden, its items not -/
def RepP (g : G) (Y : Addr → Bool) (H : Hp) (v : V) (d : D) : Prop :=
  Rep g (hid Y H) v d ∨ ∃ p xs ds, v = .ref p ∧ d = .lst ds ∧ H p = some (.lst xs) ∧ RepL g (hid Y H) xs ds
inductive RepPL (g : G) (Y : Addr → Bool) (H : Hp) : List V → List D → Prop
  | nil : RepPL g Y H [] []
  | cons {v : V} {vs : List V} {d : D} {ds : List D} : RepP g Y H v d → RepPL g Y H vs ds → RepPL g Y H (v :: vs) (d :: ds)
section
variable {g : G} {Y : Addr → Bool} {H H' : Hp} {v : V} {i : Int} {b : Bool} {x : Str} {ds : List D} {d : D}
theorem RepP.int (h : RepP g Y H v (.int i)) : v = .int i := by
  rcases h with h | ⟨_, _, _, _, e, _⟩
  · cases h; rfl
  · cases e
theorem RepP.bl (h : RepP g Y H v (.bl b)) : v = .bl b := by
  rcases h with h | ⟨_, _, _, _, e, _⟩
  · cases h; rfl
  · cases e
theorem RepP.str (h : RepP g Y H v (.str x)) : v = .str x := by
  rcases h with h | ⟨_, _, _, _, e, _⟩
  · cases h; rfl
  · cases e
theorem RepP.non (h : RepP g Y H v .non) : v = .non := by
  rcases h with h | ⟨_, _, _, _, e, _⟩
  · cases h; rfl
  · cases e
theorem RepP.tup (h : RepP g Y H v (.tup ds)) : ∃ p xs, v = .ref p ∧ TupS g.K (hid Y H) p xs ∧ RepL g (hid Y H) xs ds := by
  rcases h with h | ⟨_, _, _, _, e, _⟩
  · cases h with
    | tup h1 h2 => exact ⟨_, _, rfl, h1, h2⟩
  · cases e
theorem RepP.lst (h : RepP g Y H v (.lst ds)) : ∃ p xs, v = .ref p ∧ H p = some (.lst xs) ∧ RepL g (hid Y H) xs ds := by
  rcases h with h | ⟨p, xs, es, e1, e2, h1, h2⟩
  · cases h with
    | lst h1 h2 => exact ⟨_, _, rfl, (hid_some h1).2, h2⟩
  · cases e2; exact ⟨p, xs, e1, h1, h2⟩
theorem RepP.isRef_lst (h : RepP g Y H v (.lst ds)) : ∃ p, v = .ref p := let ⟨p, _, e, _⟩ := h.lst; ⟨p, e⟩
end
/-- what is not hidden is read in the whole -/
theorem sqT_hid {K : PySem.W.Frag} {Y : Addr → Bool} {H : Hp} {a : Addr} {xs : List V} (h : TupS K (hid Y H) a xs) : SqT K H a xs := Same.sqT hid_le h.1

/-! ### lengths that the heap itself bounds -/
structure LenOk (K : PySem.W.Frag) (H : Hp) : Prop where
  l : ∀ a xs, SqL K H a xs → xs.length ≤ sizeLine
  t : ∀ a xs, SqT K H a xs → xs.length ≤ sizeLine
theorem Inv.lenOk {X : Cx} {pins : List (Addr × Obj)} {σ : L2.St} {H : Hp} {s : Shared} (I : Inv X pins σ H s) : LenOk X.K H :=
  ⟨fun a xs h => let ⟨_, _, _, z⟩ := I.list h; z, fun a xs h => let ⟨_, _, _, z⟩ := I.tuple h; z⟩
/-- a reading with lengths known ahead and behind -/
theorem PE.of {X : Cx} {e : Expr} {t t0 : TE} (h : PE X e t0) (imp : ∀ σ H Q, LenOk X.K H → t σ H Q → t0 σ H (fun v H' => LenOk X.K H' → Q v H')) : PE X e t := ⟨fun pins s σ H Q I hw =>
  thn (h.run pins s σ H _ I (imp σ H Q (Inv.lenOk I) hw)) fun u s' ⟨v, H', I', r, q⟩ => ⟨v, H', I', r, q (Inv.lenOk I')⟩⟩
theorem PT.of {X : Cx} {e : Expr} {t t0 : TT} (h : PT X e t0) (imp : ∀ σ H Q, LenOk X.K H → t σ H Q → t0 σ H (fun v H' => LenOk X.K H' → Q v H')) : PT X e t := ⟨fun pins s σ H Q I hw =>
  thn (h.run pins s σ H _ I (imp σ H Q (Inv.lenOk I) hw)) fun u s' ⟨H', I', q⟩ => ⟨H', I', q (Inv.lenOk I')⟩⟩
theorem OpR.of {X : Cx} {f : Value → Value → Sem Value} {r r0 : R2} (h : OpR X f r0) (imp : ∀ x y H Q, LenOk X.K H → r x y H Q → r0 x y H (fun v H' => LenOk X.K H' → Q v H')) : OpR X f r := fun pins s σ H x y v u Q I rx ry hw =>
  thn (h pins s σ H x y v u _ I rx ry (imp x y H Q (Inv.lenOk I) hw)) fun u s' ⟨v, H', I', r, q⟩ => ⟨v, H', I', r, q (Inv.lenOk I')⟩
theorem CallR.of {X : Cx} {f : Value} {r r0 : List V → Hp → VK → Prop} (h : CallR X f r0) (imp : ∀ xs H Q, LenOk X.K H → r xs H Q → r0 xs H (fun v H' => LenOk X.K H' → Q v H')) : CallR X f r := fun pins s σ H xs us Q I rx hw =>
  thn (h pins s σ H xs us _ I rx (imp xs H Q (Inv.lenOk I) hw)) fun u s' ⟨v, H', I', r, q⟩ => ⟨v, H', I', r, q (Inv.lenOk I')⟩
/-! ### tuples kept with their object: the rules that make them -/
section
variable {X : Cx} {es : List Expr} {pos : Pos}
def FT (o : Obj) : Prop := o.cls = .type "tuple" ∧ o.dict = none
abbrev tO (its : List Value) : Obj := { cls := .type "tuple", data := .seq its.toArray }
theorem tO_ok {P : Program} {w : World} {H : Hp} {h : Heap} {its : List Value} {xs : List V} (z : xs.length ≤ sizeLine) (r : Vals xs its) : ObjOk P w H (h.push (tO its)) h.objs.size (.frz (tO its) (.tup xs)) :=
  ⟨Heap.get?_push_size _ rfl, z, its, r, ⟨_, Heap.get?_push_size _ rfl, rfl, _, rfl⟩⟩
def sTup (t : TA) : TE := fun σ H Q => t σ H fun xs H1 => xs.length ≤ sizeLine ∧ ∀ p o, H1 p = none → FT o → Q (.ref p) (upd H1 p (.frz o (.tup xs)))
theorem st_tup {x1} {t : TA} (h : PA X es t) : PE X (.Tuple es x1 pos) (sTup t) := by
  refine ⟨fun pins s σ H Q I hq => ?_⟩
  refine wpAny_Tuple_spliced (thn (h.run pos pins s σ H _ I hq) fun us s1 ⟨xs, H1, I1, r, z, q⟩ => ⟨by rw [← r.length]; exact z, ?_⟩)
  have hf : H1 s1.heap.objs.size = none := I1.hok.fresh (Nat.le_refl _)
  exact ⟨.ref s1.heap.objs.size, upd H1 s1.heap.objs.size (.frz (tO us) (.tup xs)), I1.laid (t' := s1.toks) (fun b u e => Heap.get?_push_of_some _ e) (Nat.le_refl _) (tO_ok z r), rfl, q _ _ hf ⟨rfl, rfl⟩⟩
theorem st_tuple_of : CallR X (.type "tuple") (fun xs H Q => ∃ p ys, xs = [.ref p] ∧ ((SqL X.K H p ys ∧ ∀ l o, H l = none → FT o → Q (.ref l) (upd H l (.frz o (.tup ys)))) ∨ (SqT X.K H p ys ∧ Q (.ref p) H))) := by
  intro pins s σ H xs us Q I r h
  obtain ⟨p, ys, rfl, h⟩ := h
  obtain ⟨u, rfl, rx⟩ := vals1 r
  cases rx
  rcases h with ⟨hq, q⟩ | ⟨hq, q⟩
  · obtain ⟨its, r', pl, hz⟩ := I.list hq
    have hlen := r'.length
    refine call_tuple_list pl.isList (fun h' kp => ?_) (by simp only [List.size_toArray] <;> omega)
    have I1 : Inv X pins σ H { s with heap := h' } := I.kept (t' := s.toks) kp
    have I2 : Inv X pins σ (upd H h'.objs.size (.frz (tO its) (.tup ys))) { s with heap := h'.push (tO its) } :=
      I1.laid (t' := s.toks) (fun b o e => Heap.get?_push_of_some _ e) (Nat.le_refl _) (tO_ok hz r')
    exact ⟨.ref h'.objs.size, _, I2, rfl, q _ _ (I1.hok.fresh (Nat.le_refl _)) ⟨rfl, rfl⟩⟩
  · obtain ⟨its, r', pl, hz⟩ := I.tuple hq
    exact call_tuple_same pl ⟨.ref p, H, I, rfl, q⟩
def sCatA (K : PySem.W.Frag) : R2 := fun x y H Q => ∃ a b xs ys, x = .ref a ∧ y = .ref b ∧ SqT K H a xs ∧ SqT K H b ys ∧ xs.length + ys.length ≤ sizeLine ∧
  (xs = [] → Q (.ref b) H) ∧ (xs ≠ [] → ys = [] → Q (.ref a) H) ∧ (xs ≠ [] → ys ≠ [] → ∀ p o, H p = none → FT o → Q (.ref p) (upd H p (.frz o (.tup (xs ++ ys)))))
theorem st_catA : OpR X (binaryOp .Add) (sCatA X.K) := by
  intro pins s σ H x y v u Q I rx ry h
  obtain ⟨a, b, xs, ys, rfl, rfl, ha, hb, hz, q0, q1, q2⟩ := h
  cases rx
  cases ry
  obtain ⟨its, r1, p1, _⟩ := I.tuple ha
  obtain ⟨its2, r2, p2, _⟩ := I.tuple hb
  by_cases hx : xs = []
  · subst hx
    cases r1
    exact cat_tup0 p1 p2 ⟨.ref b, H, I, rfl, q0 rfl⟩
  · refine HT.cat_tup p1 p2 (fun z => hx (r1.nil_iff.mp z)) (fun z => ⟨.ref a, H, I, rfl, q1 hx (r2.nil_iff.mp z)⟩) (fun z => ?_) (by rw [← r1.length, ← r2.length]; exact hz)
    exact ⟨.ref s.heap.objs.size, _, I.laid (t' := s.toks) (o := .frz (tO (its ++ its2)) (.tup (xs ++ ys))) (fun b ob q => Heap.get?_push_of_some _ q) (Nat.le_refl _) (tO_ok (by rw [List.length_append]; exact hz) (r1.append r2)), rfl, q2 hx (fun w => z (r2.nil_iff.mpr w)) _ _ (I.hok.fresh (Nat.le_refl _)) ⟨rfl, rfl⟩⟩
def sSlA (K : PySem.W.Frag) : V → Option Int → Option Int → Hp → VK → Prop := fun x lo hi H Q => ∃ a xs, x = .ref a ∧ SqT K H a xs ∧
  (HT.sIx xs.length 0 lo = 0 ∧ HT.sIx xs.length xs.length hi = xs.length → Q (.ref a) H) ∧ (¬ (HT.sIx xs.length 0 lo = 0 ∧ HT.sIx xs.length xs.length hi = xs.length) → ∀ p o, H p = none → FT o → Q (.ref p) (upd H p (.frz o (.tup (cutV xs lo hi)))))
theorem st_slA : SlR X (sSlA X.K) := by
  intro pins s σ H x v vl vu lo hi sl Q I rx hs pl pu h
  obtain ⟨a, xs, rfl, hx, q1, q2⟩ := h
  cases rx
  obtain ⟨its, r, ht, hz⟩ := I.tuple hx
  have hlen : its.toArray.size = xs.length := by rw [List.size_toArray]; exact r.length.symm
  refine ⟨"tuple", _, PyProof.Rows.slot_tuple_getitem.lookup, ht.typeIs, ?_⟩
  by_cases hw : HT.sIx xs.length 0 lo = 0 ∧ HT.sIx xs.length xs.length hi = xs.length
  · exact getItem_tuple_whole ht hs pl pu (by rw [hlen]; exact hw) ⟨.ref a, H, I, rfl, q1 hw⟩
  · refine HT.getItem_tuple_cut ht hs pl pu (by rw [hlen]; exact hw) ?_ (by rw [hlen]; exact hz)
    rw [hlen]
    exact ⟨.ref s.heap.objs.size, _, I.laid (t' := s.toks) (fun b ob q => Heap.get?_push_of_some _ q) (Nat.le_refl _) (tO_ok (Nat.le_trans (cutV_length xs lo hi) hz) ((r.drop (HT.sIx xs.length 0 lo)).take (HT.sIx xs.length xs.length hi - HT.sIx xs.length 0 lo))), rfl, q2 hw _ _ (I.hok.fresh (Nat.le_refl _)) ⟨rfl, rfl⟩⟩
def sTupRg (te : L2.St → Hp → (Int → Int → Hp → Prop) → Prop) : TE := fun σ H Q => te σ H fun a b H1 => RgOk a b ∧ ∀ q o, H1 q = none → FT o → Q (.ref q) (upd H1 q (.frz o (.tup (rgV a b))))
theorem st_tupRg {e : Expr} {te : L2.St → Hp → (Int → Int → Hp → Prop) → Prop} {p pos : Pos} (hc : X.calm = true) (hg : Gl X "tuple") (hm : X.mg "tuple" = none) (he : PRg X e te) (na : starEach [e] X.env = (false, eval e X.env) :: starEach [] X.env := by rfl) : PE X (.Call (.Name "tuple" p) [e] [] pos) (sTupRg te) := by
  refine ⟨fun pins s σ H Q I h => ?_⟩
  refine Call_ (ld_blt I hg hm boot_tuple (PyProof.Rows.callWith_type1 (args_cons (thn (he pins s σ H _ I h) fun x s1 ⟨r, a, b, t, u, v, H1, ex, hr, I1, ok, q⟩ => args_nil ?_) na) na))
  subst ex
  obtain ⟨b1, b2, b3, b4, b5⟩ := ok
  refine call_tuple_range (n := (b - a).toNat) (I1.ok.hd hc) hr (small_one b1 b2 b3 b4) (rangeSize_nat a b) b5 fun h' tk acc hk hi => ?_
  have I2 : Inv X pins σ H1 { s1 with heap := h', toks := tk } := I1.kept hk
  refine ⟨.ref h'.objs.size, upd H1 h'.objs.size (.frz (tO acc.toList) (.tup (rgV a b))), I2.laid (t' := tk) (fun c o e => Heap.get?_push_of_some _ e) (Nat.le_refl _) ?_, rfl, q _ _ (I2.hok.fresh (Nat.le_refl _)) ⟨rfl, rfl⟩⟩
  have := tO_ok (P := X.prog) (w := X.w) (H := upd H1 h'.objs.size (.frz (tO acc.toList) (.tup (rgV a b)))) (h := h') (its := acc.toList) (by rw [rgV_length, sizeLine_eq]; omega) (vals_rg hi)
  simpa using this
end
theorem OpR.len {X : Cx} {f : Value → Value → Sem Value} {r0 : R2} (h : OpR X f r0) : OpR X f (fun x y H Q => r0 x y H (fun v H' => LenOk X.K H' → Q v H')) := OpR.of h fun _ _ _ _ _ q => q
theorem CallR.len {X : Cx} {f : Value} {r0 : List V → Hp → VK → Prop} (h : CallR X f r0) : CallR X f (fun xs H Q => r0 xs H (fun v H' => LenOk X.K H' → Q v H')) := CallR.of h fun _ _ _ _ q => q
end PV

end
section
set_option Elab.async false
set_option linter.all false
set_option maxRecDepth 100000
set_option maxHeartbeats 4000000
/-! DB2: tuples turned round, tuples times a number, kept with their object. -/
namespace PV
open PySem PySem.Spec PyProof.Rows L2
section
variable {prog : Program} {w : World} {A : Around} {E : Value → Shared → Prop} {s : Shared}
theorem places_rev (n : Nat) : Builtin.Slice.slicePlaces ((n : Int) - 1) (-1) (-1) = n := by
  unfold Builtin.Slice.slicePlaces
  have h1 : ¬ ((-1 : Int) > 0) := by omega
  have h2 : (-(-1) : Int) = 1 := rfl
  simp only [h1, if_false, h2, Int.ediv_one]
  split <;> omega
theorem pick_rev (xs : Array Value) : ((List.range xs.size).filterMap fun (m : Nat) => xs[((xs.size : Int) - 1 + (m : Int) * -1).toNat]?).toArray = xs.toList.reverse.toArray := by
  congr 1
  refine List.ext_getElem? fun i => ?_
  have e : ((List.range xs.size).filterMap fun (m : Nat) => xs[((xs.size : Int) - 1 + (m : Int) * -1).toNat]?) = (List.range xs.size).map fun (m : Nat) => xs[xs.size - 1 - m]?.getD .none := by
    rw [← List.filterMap_eq_map]
    have aux : ∀ l : List Nat, (∀ m ∈ l, m < xs.size) → (l.filterMap fun (m : Nat) => xs[((xs.size : Int) - 1 + (m : Int) * -1).toNat]?) = l.filterMap (some ∘ fun (m : Nat) => xs[xs.size - 1 - m]?.getD .none) := by
      intro l
      induction l with
      | nil => intro _; rfl
      | cons m l ih =>
        intro hl
        have hm := hl m List.mem_cons_self
        have e1 : ((xs.size : Int) - 1 + (m : Int) * -1).toNat = xs.size - 1 - m := by omega
        have h : xs.size - 1 - m < xs.size := by omega
        rw [List.filterMap_cons, List.filterMap_cons, ih fun z hz => hl z (List.mem_cons_of_mem _ hz), e1]
        simp [h]
    exact aux _ fun m hm => List.mem_range.mp hm
  rw [e]
  by_cases c : i < xs.size
  · have h : xs.size - 1 - i < xs.size := by omega
    simp [List.getElem?_reverse, c, h]
  · simp [c]
theorem sliceApplied_rev {sl : Addr} {vs : Value} {n : Nat} {Q : Int × Int × Nat → Shared → Prop} (hs : s.heap.IsSliceOf sl .none .none vs) (ps : IsPart vs (some (-1)))
    (h : Q ((n : Int) - 1, -1, n) s) : wpAny (model prog w) A (Builtin.Slice.sliceApplied (.ref sl) (pure (n : Int))) Q E s := by
  obtain ⟨os, hos, hcs, hds⟩ := id hs
  unfold Builtin.Slice.sliceApplied Builtin.Slice.sliceFields
  refine wpAny_bind (wpAny_bind (wpAny_field hos hds (x := .none) rfl (wpAny_bind (wpAny_field hos hds (x := .none) rfl (wpAny_bind (wpAny_field hos hds (x := vs) rfl (wpAny_pure ?_)))))))
  refine wpAny_bind (HT.slicePart_ ps ?_)
  show wpAny _ _ (if ((-1 : Int) == 0) = true then _ else _) _ _ s
  rw [if_neg (by decide)]
  refine wpAny_bind (slicePart_none (wpAny_bind (slicePart_none (wpAny_bind (wpAny_pure ?_)))))
  show wpAny _ _ (pure ((n : Int) - 1, (-1 : Int), Builtin.Slice.slicePlaces ((n : Int) - 1) (-1) (-1))) _ _ s
  rw [places_rev]
  exact wpAny_pure h
theorem getItem_tuple_rev {t sl : Addr} {items : Array Value} {vs : Value} {Q : Value → Shared → Prop} (ht : IsTup s.heap t items) (hs : s.heap.IsSliceOf sl .none .none vs) (ps : IsPart vs (some (-1)))
    (h : Q (.ref s.heap.objs.size) { s with heap := s.heap.push { cls := .type "tuple", data := .seq items.toList.reverse.toArray } })
    (hsz : items.size ≤ sizeLine) : wpAny (model prog w) A (getItem (.ref t) (.ref sl)) Q E s := by
  have htake : sizeOk (.seq items.toList.reverse.toArray) := by
    show items.toList.reverse.toArray.size ≤ sizeLine
    rw [List.size_toArray, List.length_reverse, Array.length_toList]
    exact hsz
  obtain ⟨os, hos, hcs, hds⟩ := id hs
  have hTs : s.TypeIs (.ref sl) "slice" := ⟨os, hos, hcs⟩
  unfold getItem
  try with_reducible refine wpAny_holding ?_
  first | refine wpAny_bind (wpAny_pure ?_) | skip
  refine wpAny_bind (wpAny_sequenceKey ht.typeIs (by decide) ?_)
  refine wpAny_bind (wpAny_callSpecial?_slot (name := Str.ofString "__getitem__") ht.typeIs PyProof.Rows.slot_tuple_getitem
    (wpAny_call_entry PyProof.Rows.slot_tuple_getitem ht.typeIs entry_tuple_getitem ?_ (args_tuple_getitem _ _)))
  show wpAny _ _ (Builtin.Tuple.tupleItemsOf (.ref t) >>= _) _ _ s
  refine wpAny_bind (tupleItemsOf_ ht ?_)
  refine wpAny_bind (wpAny_typeOf hTs ?_)
  rw [if_pos (by decide)]
  refine wpAny_bind (sliceApplied_rev (n := items.size) hs ps ?_)
  have hno : ¬ ((((items.size : Int) - 1) == 0 && (-1 : Int) == 1 && items.size == items.size) = true) := by
    rw [show ((-1 : Int) == 1) = false from rfl, Bool.and_false, Bool.false_and]
    exact Bool.false_ne_true
  show wpAny _ _ (if (((items.size : Int) - 1) == 0 && (-1 : Int) == 1 && items.size == items.size) = true then _ else _) _ _ s
  rw [if_neg hno, pick_rev]
  first
    | exact wpAny_bind (m := Builtin.Tuple.tupleExact _) (wpAny_newObj_type (wpAny_pure ⟨_, rfl, wpAny_pure h⟩) htake)
    | exact wpAny_bind (m := Builtin.Tuple.tupleExact _) (wpAny_newObj_type (wpAny_bind (wpAny_pure (wpAny_pure ⟨_, rfl, wpAny_pure h⟩))) htake)
    | exact wpAny_bind (wpAny_bind (m := Builtin.Tuple.tupleExact _) (wpAny_newObj_type (wpAny_pure (wpAny_pure ⟨_, rfl, wpAny_pure h⟩)) htake))
    | exact wpAny_bind (wpAny_bind (m := Builtin.Tuple.tupleExact _) (wpAny_newObj_type (wpAny_pure ⟨_, rfl, wpAny_pure h⟩) htake))
end
section
variable {X : Cx}
/-- x[::-1] of a list or a tuple -/
def sRev (K : PySem.W.Frag) (te : TE) : TE := fun σ H Q => te σ H fun x H1 => ∃ a xs, x = .ref a ∧ ((SqL K H1 a xs ∧ ∀ p, H1 p = none → Q (.ref p) (upd H1 p (.lst xs.reverse))) ∨ (SqT K H1 a xs ∧ ∀ p o, H1 p = none → FT o → Q (.ref p) (upd H1 p (.frz o (.tup xs.reverse)))))
theorem st_rev {e : Expr} {te : TE} {k : Nat} {p1 p2 p3 pos : Pos} (he : PE X e te) : PE X (.Subscript e (.Slice none none (some (.UnaryOp .USub (.Constant (.int 1) k p1) p2)) p3) pos) (sRev X.K te) := by
  refine ⟨fun pins s σ H Q I h => ?_⟩
  refine Subscript_ (thn (he.run pins s σ H _ I h) fun v s1 ⟨x, H1, I1, r1, q1⟩ => ?_)
  obtain ⟨a, xs, ex, q⟩ := q1
  subst ex
  cases r1
  have hst : PO X (some (.UnaryOp .USub (.Constant (.int 1) k p1) p2)) (tPart (tUn (rU fun i => .int (-i)) (tC (.int 1)))) := po_some (pe_un un_neg pe_int)
  refine wpAny_Slice (thn (po_none.run pins s1 σ H1 (fun o H2 => o = none ∧ H2 = H1) I1 ⟨rfl, rfl⟩) fun vl s2 ⟨l, H2, I2, pl, el, e2⟩ => ?_)
  subst el e2
  refine thn (po_none.run pins s2 σ H2 (fun o H3 => o = none ∧ H3 = H2) I2 ⟨rfl, rfl⟩) fun vu s3 ⟨u, H3, I3, pu, eu, e3⟩ => ?_
  subst eu e3
  refine thn (hst.run pins s3 σ H3 (fun o H4 => o = some (-1) ∧ H4 = H3) I3 ⟨1, rfl, -1, rfl, rfl, rfl⟩) fun vs s4 ⟨o, H4, I4, ps, eo, e4⟩ => ?_
  subst eo e4
  have I5 : Inv X pins σ H4 { s4 with heap := s4.heap.push { cls := .type "slice", data := .fields #[vl, vu, vs] } } := I4.kept (t' := s4.toks) fun b ob q => Heap.get?_push_of_some _ q
  rcases q with ⟨hx, q⟩ | ⟨hx, q⟩
  · obtain ⟨its, r, ht, hz⟩ := I5.list hx
    have hlen := r.length
    show wpAny (model X.prog X.w) X.A (subscriptTail e (.Slice none none (some (.UnaryOp .USub (.Constant (.int 1) k p1) p2)) p3) (.ref a) (.ref s4.heap.objs.size)) (EP X pins σ Q) X.xe { s4 with heap := s4.heap.push { cls := .type "slice", data := .fields #[vl, vu, vs] } }
    refine tail_any (ops := [.ref a, .ref s4.heap.objs.size]) ht.isList.typeIs (PySem.slot_list_getitem.lookup) ?_ (by with_unfolding_all rfl)
    refine wpAny_getItem_list_slice ht.isList (Heap.IsSliceOf.new _ vl vu vs) pl pu ps (by decide) ?_ (by rw [List.size_toArray]; omega)
    rw [PySem.W.krv_pick]
    refine ⟨.ref _, _, I5.laid (t' := s4.toks) (o := .lst xs.reverse) (fun b ob q => Heap.get?_push_of_some _ q) (Nat.le_refl _) ?_, rfl, q _ (I5.hok.fresh (Nat.le_refl _))⟩
    exact ⟨by rw [List.length_reverse]; exact hz, _, 0, r.reverse, Heap.get?_push_size _ rfl⟩
  · obtain ⟨its, r, ht, hz⟩ := I5.tuple hx
    have hlen := r.length
    cases pl
    cases pu
    show wpAny (model X.prog X.w) X.A (subscriptTail e (.Slice none none (some (.UnaryOp .USub (.Constant (.int 1) k p1) p2)) p3) (.ref a) (.ref s4.heap.objs.size)) (EP X pins σ Q) X.xe { s4 with heap := s4.heap.push { cls := .type "slice", data := .fields #[.none, .none, vs] } }
    refine tail_any (ops := [.ref a, .ref s4.heap.objs.size]) ht.typeIs (PyProof.Rows.slot_tuple_getitem.lookup) ?_ (by with_unfolding_all rfl)
    refine getItem_tuple_rev ht (Heap.IsSliceOf.new _ .none .none vs) ps ?_ (by rw [List.size_toArray]; omega)
    refine ⟨.ref _, _, I5.laid (t' := s4.toks) (o := .frz (tO its.reverse) (.tup xs.reverse)) (fun b ob q => Heap.get?_push_of_some _ q) (Nat.le_refl _) ?_, rfl, q _ _ (I5.hok.fresh (Nat.le_refl _)) ⟨rfl, rfl⟩⟩
    exact tO_ok (by rw [List.length_reverse]; exact hz) r.reverse
def sRepT (K : PySem.W.Frag) : R2 := fun x y H Q => ∃ l k xs, x = .ref l ∧ y = .int k ∧ SqT K H l xs ∧ xs ≠ [] ∧ 2 ≤ k ∧ k ≤ 1000 ∧ xs.length ≤ 1000 ∧ ∀ p o, H p = none → FT o → Q (.ref p) (upd H p (.frz o (.tup (List.replicate k.toNat xs).flatten)))
theorem st_repT : OpR X (binaryOp .Mult) (sRepT X.K) := by
  intro pins s σ H x y v u Q I rx ry h
  obtain ⟨l, k, xs, rfl, rfl, hT, hne, h1, h2, hz, q⟩ := h
  cases rx
  obtain ⟨t, rfl⟩ := ry
  obtain ⟨its, r, ⟨⟨cls, dd, data, sl⟩, ho, hc, n, hd⟩, hs⟩ := I.tuple hT
  simp only at hc hd
  subst hc hd
  have hle : its.length = xs.length := r.length.symm
  have hn : its ≠ [] := fun e => hne (by
    rw [e] at hle
    exact List.eq_nil_of_length_eq_zero hle.symm)
  have hi : its.toArray.isEmpty = false := by
    cases its with
    | nil => exact absurd rfl hn
    | cons a b => rfl
  have hsz0 : its.toArray.size = xs.length := by rw [List.size_toArray, hle]
  have hm : ((its.toArray.size : Nat) : Int) * k ≤ 1000000 := by
    rw [hsz0]
    have a1 : ((xs.length : Nat) : Int) * k ≤ 1000 * k := Int.mul_le_mul_of_nonneg_right (by omega) (by omega)
    omega
  have flen : (List.replicate k.toNat its).flatten.length ≤ sizeLine := by
    rw [PyProof.Rows.lm_len_rep_flat, hle, sizeLine_eq]
    have a1 : k.toNat * xs.length ≤ 1000 * 1000 := Nat.mul_le_mul (by omega) hz
    omega
  have c0 : (decide (k < -(2 ^ 63)) || decide (k ≥ 2 ^ 63)) = false := by
    rw [decide_eq_false (by omega), decide_eq_false (by omega)] <;> rfl
  have c1 : (its.toArray.isEmpty || k == 1) = false := by
    rw [hi, Bool.false_or]
    exact beq_eq_false_iff_ne.mpr (by omega)
  have c2 : (decide (k ≤ 0) || its.toArray.isEmpty) = false := by
    rw [hi, Bool.or_false]
    exact decide_eq_false (by omega)
  have c4 : Builtin.Tuple.tupleTooMany (((its.toArray.size : Nat) : Int) * k) = false := by
    unfold Builtin.Tuple.tupleTooMany
    rw [sizeLine_eq]
    exact decide_eq_false (by omega)
  refine wpAny_binaryOp_repeat_ref (T := "tuple") (U := "int") (by decide) ⟨_, ho, rfl⟩ (fun s' => typeIs_int s' k t) noFill_tuple_mul F.fills_int_mul F.slot_int_rmul repeat_tuple F.slot_int_index.lookup
    (call_meets F.slot_int_rmul (typeIs_int s k t) F.entry_int_rmul (F.args_int_rmul_2 _ _) (int_rmul_tuple k t l its.toArray n dd sl)
      ⟨ho, rfl, ⟨_, ho, rfl⟩, call_meets F.slot_tuple_mul ⟨_, ho, rfl⟩ F.entry_tuple_mul (F.args_tuple_mul_2 _ _) (tuple_mulW l its.toArray n dd sl k t c0 c1 c2 (by omega) c4 (by rw [size_rep, List.size_toArray]; exact flen)) ⟨ho, ?_⟩⟩)
  rw [size_rep]
  refine ⟨.ref s.heap.objs.size, _, I.laid (t' := s.toks) (o := .frz (tO (List.replicate k.toNat its).flatten) (.tup (List.replicate k.toNat xs).flatten)) (fun b ob q => Heap.get?_push_of_some _ q) (Nat.le_refl _) (tO_ok ?_ (r.rep k.toNat)), rfl, q _ _ (I.hok.fresh (Nat.le_refl _)) ⟨rfl, rfl⟩⟩
  rw [PyProof.Rows.lm_len_rep_flat, sizeLine_eq]
  have a1 : k.toNat * xs.length ≤ 1000 * 1000 := Nat.mul_le_mul (by omega) hz
  omega
end
end PV

end
section
set_option Elab.async false
set_option linter.all false
set_option maxRecDepth 100000
set_option maxHeartbeats 4000000
/-! DB3: tuples times any number. -/
namespace PV
open PySem PySem.Spec PyProof.Rows L2
theorem tuple_mulS (l : Addr) (items : Array Value) (n : Nat) (dd : Option Addr) (sl : Array (Option Value)) (x : Int) (u : Tok) (c0 : (decide (x < -(2 ^ 63)) || decide (x ≥ 2 ^ 63)) = false) (c1 : (items.isEmpty || x == 1) = true) :
    Meets (Builtin.«tuple.__mul__» ⟨[.ref l, .int x u], []⟩) (fun _ R s => s.heap.get? l = some { cls := .type "tuple", dict := dd, data := .seq items n, slots := sl } ∧
      R (.ok (.ret (Value.ref l))) s) :=
  .of_wp fun prog w A R s h => by
    obtain ⟨hp, g, d, tk, os⟩ := s
    obtain ⟨hl, h⟩ := h
    have f1 := AutoSeq1.idx_int
    wp_walk using wpAny_loadPart' hl
    repeat (first
      | (refine wpAny_ite_false (decide_eq_false (by rw [c0]; exact Bool.false_ne_true)) ?_; wp_walk using wpAny_loadPart' hl)
      | (refine wpAny_ite_true (decide_eq_true (by rw [c1])) ?_; wp_walk using wpAny_loadPart' hl))
    exact ⟨_, rfl, h⟩
theorem tuple_mulE (l : Addr) (items : Array Value) (n : Nat) (dd : Option Addr) (sl : Array (Option Value)) (x : Int) (u : Tok) (c0 : (decide (x < -(2 ^ 63)) || decide (x ≥ 2 ^ 63)) = false) (c1 : (items.isEmpty || x == 1) = false) (c2 : (decide (x ≤ 0) || items.isEmpty) = true) :
    Meets (Builtin.«tuple.__mul__» ⟨[.ref l, .int x u], []⟩) (fun _ R s => s.heap.get? l = some { cls := .type "tuple", dict := dd, data := .seq items n, slots := sl } ∧
      R (.ok (.ret (Value.ref s.heap.objs.size))) { s with heap := s.heap.push { cls := Value.type "tuple", data := Data.seq #[] }, toks := s.toks }) :=
  .of_wp fun prog w A R s h => by
    obtain ⟨hp, g, d, tk, os⟩ := s
    obtain ⟨hl, h⟩ := h
    have f1 := AutoSeq1.idx_int
    wp_walk using wpAny_loadPart' hl
    repeat (first
      | (refine wpAny_ite_false (decide_eq_false (by rw [c0]; exact Bool.false_ne_true)) ?_; wp_walk using wpAny_loadPart' hl)
      | (refine wpAny_ite_false (decide_eq_false (by rw [c1]; exact Bool.false_ne_true)) ?_; wp_walk using wpAny_loadPart' hl)
      | (refine wpAny_ite_true (decide_eq_true (by rw [c2])) ?_; wp_walk using wpAny_loadPart' hl))
    exact ⟨_, rfl, h⟩
/-- t * k: the tuple itself, or a new one -/
def sRepA (K : PySem.W.Frag) : R2 := fun x y H Q => ∃ l k xs, x = .ref l ∧ y = .int k ∧ SqT K H l xs ∧ -1000000 ≤ k ∧ k ≤ 1000 ∧ xs.length ≤ 1000 ∧ ((xs = [] ∨ k = 1) → Q (.ref l) H) ∧ (xs ≠ [] → k ≠ 1 → ∀ p o, H p = none → FT o → Q (.ref p) (upd H p (.frz o (.tup (List.replicate k.toNat xs).flatten))))
section
variable {X : Cx}
theorem st_repA : OpR X (binaryOp .Mult) (sRepA X.K) := by
  intro pins s σ H x y v u Q I rx ry h
  obtain ⟨l, k, xs, rfl, rfl, hT, hk1, hk2, hz, q1, q2⟩ := h
  by_cases h2 : xs ≠ [] ∧ 2 ≤ k
  · exact st_repT pins s σ H _ _ v u Q I rx ry ⟨l, k, xs, rfl, rfl, hT, h2.1, h2.2, hk2, hz, q2 h2.1 (by omega)⟩
  · cases rx
    obtain ⟨t, rfl⟩ := ry
    obtain ⟨its, r, ⟨⟨cls, dd, data, sl⟩, ho, hc, n, hd⟩, hs⟩ := I.tuple hT
    simp only at hc hd
    subst hc hd
    have hle : its.length = xs.length := r.length.symm
    have c0 : (decide (k < -(2 ^ 63)) || decide (k ≥ 2 ^ 63)) = false := by
      rw [decide_eq_false (by omega), decide_eq_false (by omega)] <;> rfl
    have hi : its.toArray.isEmpty = xs.isEmpty := by
      cases its with
      | nil => cases xs with
        | nil => rfl
        | cons a b => cases hle
      | cons a b => cases xs with
        | nil => cases hle
        | cons a b => rfl
    by_cases h1 : xs = [] ∨ k = 1
    · have c1 : (its.toArray.isEmpty || k == 1) = true := by
        rw [hi]
        rcases h1 with rfl | rfl
        · rfl
        · simp
      refine wpAny_binaryOp_repeat_ref (T := "tuple") (U := "int") (by decide) ⟨_, ho, rfl⟩ (fun s' => typeIs_int s' k t) noFill_tuple_mul F.fills_int_mul F.slot_int_rmul repeat_tuple F.slot_int_index.lookup
        (call_meets F.slot_int_rmul (typeIs_int s k t) F.entry_int_rmul (F.args_int_rmul_2 _ _) (int_rmul_tuple k t l its.toArray n dd sl)
          ⟨ho, rfl, ⟨_, ho, rfl⟩, call_meets F.slot_tuple_mul ⟨_, ho, rfl⟩ F.entry_tuple_mul (F.args_tuple_mul_2 _ _) (tuple_mulS l its.toArray n dd sl k t c0 c1) ⟨ho, ?_⟩⟩)
      exact ⟨.ref l, H, I, rfl, q1 h1⟩
    · have hx : xs ≠ [] := fun e => h1 (.inl e)
      have hk : k ≠ 1 := fun e => h1 (.inr e)
      have hkn : k ≤ 0 := by
        have : ¬ 2 ≤ k := fun z => h2 ⟨hx, z⟩
        omega
      have he : xs.isEmpty = false := by cases xs with | nil => exact absurd rfl hx | cons a b => rfl
      have c1 : (its.toArray.isEmpty || k == 1) = false := by
        rw [hi, he, Bool.false_or]
        exact beq_eq_false_iff_ne.mpr hk
      have c2 : (decide (k ≤ 0) || its.toArray.isEmpty) = true := by
        rw [decide_eq_true hkn]; rfl
      have h0 : k.toNat = 0 := by omega
      have q := q2 hx hk
      rw [h0] at q
      refine wpAny_binaryOp_repeat_ref (T := "tuple") (U := "int") (by decide) ⟨_, ho, rfl⟩ (fun s' => typeIs_int s' k t) noFill_tuple_mul F.fills_int_mul F.slot_int_rmul repeat_tuple F.slot_int_index.lookup
        (call_meets F.slot_int_rmul (typeIs_int s k t) F.entry_int_rmul (F.args_int_rmul_2 _ _) (int_rmul_tuple k t l its.toArray n dd sl)
          ⟨ho, rfl, ⟨_, ho, rfl⟩, call_meets F.slot_tuple_mul ⟨_, ho, rfl⟩ F.entry_tuple_mul (F.args_tuple_mul_2 _ _) (tuple_mulE l its.toArray n dd sl k t c0 c1 c2) ⟨ho, ?_⟩⟩)
      exact ⟨.ref s.heap.objs.size, _, I.laid (t' := s.toks) (o := .frz (tO []) (.tup [])) (fun b ob q => Heap.get?_push_of_some _ q) (Nat.le_refl _) (tO_ok (Nat.zero_le _) .nil), rfl, q _ _ (I.hok.fresh (Nat.le_refl _)) ⟨rfl, rfl⟩⟩
end
end PV

end
section
set_option Elab.async false
set_option linter.all false
set_option maxRecDepth 100000
set_option maxHeartbeats 1000000
/-! DV: operations by values, over data. -/
namespace PV
open PySem PySem.Spec PyProof.Rows L2

mutual
def D.py : D → PyData
  | .non => .none
  | .bl b => .bool b
  | .int i => .int i
  | .str x => .str x
  | .tup xs => .tuple (D.pyL xs)
  | .lst xs => .list (D.pyL xs)
  | .box => .none
def D.pyL : List D → List PyData
  | [] => []
  | x :: xs => D.py x :: D.pyL xs
end
mutual
theorem eqv_py : ∀ a b : D, a.pl = true → b.pl = true → PyData.eqv a.py b.py = D.eqv a b
  | .non, b, _, hb => by cases b <;> first | rfl | (simp [D.pl] at hb)
  | .bl x, b, _, hb => by cases b <;> first | rfl | (simp [D.pl] at hb)
  | .int x, b, _, hb => by cases b <;> first | rfl | (simp [D.pl] at hb)
  | .str x, b, _, hb => by cases b <;> first | rfl | (simp [D.pl] at hb)
  | .tup xs, b, ha, hb => by
    cases b with
    | tup ys => exact eqv_pyL xs ys ha hb
    | box => simp [D.pl] at hb
    | _ => rfl
  | .lst xs, b, ha, hb => by
    cases b with
    | lst ys => exact eqv_pyL xs ys ha hb
    | box => simp [D.pl] at hb
    | _ => rfl
  | .box, _, ha, _ => by simp [D.pl] at ha
theorem eqv_pyL : ∀ a b : List D, D.plL a = true → D.plL b = true → PyData.eqvAll (D.pyL a) (D.pyL b) = D.eqvL a b
  | [], [], _, _ => rfl
  | [], _ :: _, _, _ => rfl
  | _ :: _, [], _, _ => rfl
  | x :: xs, y :: ys, ha, hb => by
    simp only [D.plL, Bool.and_eq_true] at ha hb
    show (PyData.eqv x.py y.py && PyData.eqvAll (D.pyL xs) (D.pyL ys)) = (D.eqv x y && D.eqvL xs ys)
    rw [eqv_py x y ha.1 hb.1, eqv_pyL xs ys ha.2 hb.2]
end
mutual
theorem dep_py : ∀ a : D, a.py.depth = a.dep
  | .non => rfl
  | .bl _ => rfl
  | .int _ => rfl
  | .str _ => rfl
  | .tup xs => by show PyData.depthAll (D.pyL xs) + 1 = D.depL xs + 1; rw [dep_pyL xs]
  | .lst xs => by show PyData.depthAll (D.pyL xs) + 1 = D.depL xs + 1; rw [dep_pyL xs]
  | .box => rfl
theorem dep_pyL : ∀ a : List D, PyData.depthAll (D.pyL a) = D.depL a
  | [] => rfl
  | x :: xs => by show max (PyData.depth x.py) (PyData.depthAll (D.pyL xs)) = max x.dep (D.depL xs); rw [dep_py x, dep_pyL xs]
end
mutual
theorem lay_py : ∀ a : D, a.pl = true → a.py.canLay0 = true
  | .non, _ => by simp [D.py, PyData.canLay0]
  | .bl _, _ => by simp [D.py, PyData.canLay0]
  | .int _, _ => by simp [D.py, PyData.canLay0]
  | .str _, h => by simp only [D.py, PyData.canLay0]; exact h
  | .tup xs, h => by simp only [D.py, PyData.canLay0]; exact lay_pyL xs h
  | .lst xs, h => by simp only [D.py, PyData.canLay0]; exact lay_pyL xs h
  | .box, h => by simp [D.pl] at h
theorem lay_pyL : ∀ a : List D, D.plL a = true → PyData.canLayAll0 (D.pyL a) = true
  | [], _ => by simp [D.pyL, PyData.canLayAll0]
  | x :: xs, h => by
    simp only [D.plL, Bool.and_eq_true] at h
    simp only [D.pyL, PyData.canLayAll0, lay_py x h.1, lay_pyL xs h.2, Bool.and_self]
end
theorem shaped_py {a : D} (h : a.cmpb = true) : a.pl = true ∧ SeqAt.shaped a.py = true := by
  simp only [D.cmpb, Bool.and_eq_true, decide_eq_true_eq] at h
  refine ⟨h.1, ?_⟩
  unfold SeqAt.shaped
  rw [lay_py a h.1, dep_py a, decide_eq_true h.2]; rfl
section
variable {g : G} {Y : Addr → Bool} {H H' : Hp}
mutual
theorem Rep.dp : ∀ {d : D} {v : V}, Rep g H v d → d.pl = true → Dp g.K H v d.py
  | .non, _, h, _ => by cases h; exact .non
  | .bl _, _, h, _ => by cases h; exact .bl _
  | .int _, _, h, _ => by cases h; exact .int _
  | .str _, _, h, _ => by cases h; exact .str _
  | .tup ds, _, h, p => by
    cases h with
    | tup h1 h2 => exact .tup h1.1 (RepL.dp h2 p)
  | .lst ds, _, h, p => by
    cases h with
    | lst h1 h2 => exact .lst (.inl (.inl h1)) (RepL.dp h2 p)
  | .box, _, h, p => by simp [D.pl] at p
theorem RepL.dp : ∀ {ds : List D} {vs : List V}, RepL g H vs ds → D.plL ds = true → DpAll g.K H vs (D.pyL ds)
  | [], _, h, _ => by cases h; exact .nil
  | d :: ds, _, h, p => by
    simp only [D.plL, Bool.and_eq_true] at p
    cases h with
    | cons h1 h2 => exact .cons (Rep.dp h1 p.1) (RepL.dp h2 p.2)
end
theorem RepP.dp {v : V} {d : D} (h : RepP g Y H v d) (p : d.pl = true) : Dp g.K H v d.py := by
  rcases h with h | ⟨q, xs, ds, rfl, rfl, h1, h2⟩
  · exact Rep.dp (h.mono hid_le) p
  · exact .lst (.inl (.inl h1)) (RepL.dp (RepL.mono hid_le h2) p)
end

/-! ### two-place operations -/
/-- a result by values: nothing is changed, the value is d -/
def Res (g : G) (Y : Addr → Bool) (H : Hp) (d : D) (v : V) (H' : Hp) : Prop := Same H H' ∧ Rep g (hid Y H') v d
/-- a new list -/
def ResN (g : G) (Y : Addr → Bool) (H : Hp) (d : D) (v : V) (H' : Hp) : Prop := ∃ p xs ds, d = .lst ds ∧ v = .ref p ∧ H p = none ∧ H' = upd H p (.lst xs) ∧ RepL g (hid Y H) xs ds
theorem ResN.res {g : G} {Y : Addr → Bool} {H H' : Hp} {d : D} {v : V} (dm : Dom Y H) (h : ResN g Y H d v H') : Res g Y H d v H' := by
  obtain ⟨p, xs, ds, rfl, rfl, hp, rfl, hr⟩ := h
  exact ⟨same_upd hp, .lst (hid_of (dm.not hp) upd_same) (RepL.mono (hid_mono (same_upd hp)) hr)⟩
/-- one thing of data, by values -/
def rB (g : G) (f : D → D → Option D) : R2 := fun x y H Q => ∃ Y a b d, Dom Y H ∧ RepP g Y H x a ∧ RepP g Y H y b ∧ f a b = some d ∧ ∀ v H', LenOk g.K H' → Res g Y H d v H' → Q v H'
theorem res_same {g : G} {Y : Addr → Bool} {H : Hp} {d : D} {v : V} (h : Rep g (hid Y H) v d) : Res g Y H d v H := ⟨fun _ _ e => e, h⟩
theorem res_tup {g : G} {Y : Addr → Bool} {H : Hp} {ds : List D} {xs : List V} {p : Addr} {o : Obj} (dm : Dom Y H) (hp : H p = none) (ho : FT o) (h : RepL g (hid Y H) xs ds) : Res g Y H (.tup ds) (.ref p) (upd H p (.frz o (.tup xs))) :=
  ⟨same_upd hp, .tup ⟨.inl (.inr ⟨o, hid_of (dm.not hp) upd_same⟩), .inl ⟨o, _, hid_of (dm.not hp) upd_same, ho⟩⟩ (RepL.mono (hid_mono (same_upd hp)) h)⟩
/-- a tuple that may not be kept with its object -/
theorem res_tupW {g : G} {Y : Addr → Bool} {H : Hp} {ds : List D} {xs : List V} {p : Addr} (dm : Dom Y H) (hp : H p = none) (h : RepL g (hid Y H) xs ds) : Same H (upd H p (.tup xs)) ∧ SqT g.K (hid Y (upd H p (.tup xs))) p xs ∧ RepL g (hid Y (upd H p (.tup xs))) xs ds :=
  ⟨same_upd hp, .inl (.inl (hid_of (dm.not hp) upd_same)), RepL.mono (hid_mono (same_upd hp)) h⟩
section
variable {X : Cx} {g : G}
/-- split an operation by what its first operand is -/
theorem opR_or {f : Value → Value → Sem Value} {r r1 r2 : R2} (h1 : OpR X f r1) (h2 : OpR X f r2) (i : ∀ x y H Q, r x y H Q → r1 x y H Q ∨ r2 x y H Q) : OpR X f r :=
  fun pins s σ H x y v u Q I rx ry h => (i x y H Q h).elim (h1 pins s σ H x y v u Q I rx ry) (h2 pins s σ H x y v u Q I rx ry)
theorem opd_add (hK : X.K = g.K) : OpR X (binaryOp .Add) (rB g dAdd) := by
  intro pins s σ H x y v u Q I rx ry ⟨Y, a, b, d, dm, ha, hb, e, k⟩
  have k' : ∀ v H', Res g Y H d v H' → LenOk X.K H' → Q v H' := fun v H' r l => k v H' (hK ▸ l) r
  cases a with
  | int i => cases b with
    | int j =>
      obtain rfl := ha.int
      obtain rfl := hb.int
      cases e
      exact (OpR.len op_add) pins s σ H _ _ v u Q I rx ry ⟨i, j, rfl, rfl, k' _ _ (res_same (.int _))⟩
    | _ => cases e
  | str i => cases b with
    | str j =>
      obtain rfl := ha.str
      obtain rfl := hb.str
      simp only [dAdd] at e
      split at e
      · rename_i hl
        cases e
        exact (OpR.len op_add_str) pins s σ H _ _ v u Q I rx ry ⟨i, j, rfl, rfl, hl, k' _ _ (res_same (.str _))⟩
      · cases e
    | _ => cases e
  | tup xs => cases b with
    | tup ys =>
      obtain ⟨p, vs, rfl, h1, h2⟩ := ha.tup
      obtain ⟨q, ws, rfl, h3, h4⟩ := hb.tup
      simp only [dAdd] at e
      split at e
      · rename_i hl
        cases e
        rw [← h2.length, ← h4.length] at hl
        have h5 := h2.append h4
        refine (OpR.len st_catA) pins s σ H _ _ v u Q I rx ry ⟨p, q, vs, ws, rfl, rfl, hK ▸ sqT_hid h1, hK ▸ sqT_hid h3, hl, fun e0 => ?_, fun _ e0 => ?_, fun _ _ r o hr ho => k' _ _ (res_tup dm hr ho h5)⟩
        · subst e0
          refine k' _ _ (res_same ?_)
          have : xs = [] := List.eq_nil_of_length_eq_zero (by rw [← h2.length]; rfl)
          subst this
          exact .tup h3 h4
        · subst e0
          refine k' _ _ (res_same ?_)
          have : ys = [] := List.eq_nil_of_length_eq_zero (by rw [← h4.length]; rfl)
          subst this
          rw [List.append_nil]
          exact .tup h1 h2
      · cases e
    | _ => cases e
  | lst xs => cases b with
    | lst ys =>
      obtain ⟨p, vs, rfl, h1, h2⟩ := ha.lst
      obtain ⟨q, ws, rfl, h3, h4⟩ := hb.lst
      simp only [dAdd] at e
      split at e
      · rename_i hl
        cases e
        rw [← h2.length, ← h4.length] at hl
        exact (OpR.len op_cat) pins s σ H _ _ v u Q I rx ry ⟨p, q, vs, ws, rfl, rfl, h1, h3, hl, fun r hr => k' _ _ (ResN.res dm ⟨r, _, _, rfl, rfl, hr, rfl, h2.append h4⟩)⟩
      · cases e
    | _ => cases e
  | _ => cases e
theorem opd_sub (hK : X.K = g.K) : OpR X (binaryOp .Sub) (rB g dSub) := by
  intro pins s σ H x y v u Q I rx ry ⟨Y, a, b, d, dm, ha, hb, e, k⟩
  have k' : ∀ v H', Res g Y H d v H' → LenOk X.K H' → Q v H' := fun v H' r l => k v H' (hK ▸ l) r
  cases a with
  | int i => cases b with
    | int j =>
      obtain rfl := ha.int
      obtain rfl := hb.int
      cases e
      exact (OpR.len op_sub) pins s σ H _ _ v u Q I rx ry ⟨i, j, rfl, rfl, k' _ _ (res_same (.int _))⟩
    | _ => cases e
  | _ => cases e
theorem RepL.rep {g : G} {H : Hp} {vs : List V} {ds : List D} (h : RepL g H vs ds) : ∀ k : Nat, RepL g H (List.replicate k vs).flatten (List.replicate k ds).flatten
  | 0 => .nil
  | k + 1 => by
    rw [List.replicate_succ, List.replicate_succ, List.flatten_cons, List.flatten_cons]
    exact h.append (RepL.rep h k)
theorem opd_mul (hK : X.K = g.K) : OpR X (binaryOp .Mult) (rB g dMul) := by
  intro pins s σ H x y v u Q I rx ry ⟨Y, a, b, d, dm, ha, hb, e, k⟩
  have k' : ∀ v H', Res g Y H d v H' → LenOk X.K H' → Q v H' := fun v H' r l => k v H' (hK ▸ l) r
  cases a with
  | int i => cases b with
    | int j =>
      obtain rfl := ha.int
      obtain rfl := hb.int
      simp only [dMul] at e
      split at e
      · rename_i hc
        cases e
        exact (OpR.len op_mul) pins s σ H _ _ v u Q I rx ry ⟨i, j, rfl, rfl, by unfold CMul; unfold big at hc; omega, k' _ _ (res_same (.int _))⟩
      · cases e
    | _ => cases e
  | tup xs => cases b with
    | int j =>
      obtain ⟨p, ws, rfl, h1, h2⟩ := ha.tup
      obtain rfl := hb.int
      simp only [dMul] at e
      split at e
      · rename_i hc
        cases e
        have hl := h2.length
        refine (OpR.len st_repA) pins s σ H _ _ v u Q I rx ry ⟨p, j, ws, rfl, rfl, hK ▸ sqT_hid h1, hc.1, hc.2.1, by rw [hl]; exact hc.2.2, fun e0 => k' _ _ (res_same ?_), fun _ _ q o hq ho => k' _ _ (res_tup dm hq ho (RepL.rep h2 _))⟩
        rcases e0 with e0 | e0
        · subst e0
          cases h2
          have : (List.replicate j.toNat ([] : List D)).flatten = [] := by simp
          rw [this]
          exact .tup h1 .nil
        · subst e0
          have : (List.replicate (1 : Int).toNat xs).flatten = xs := by simp [List.replicate]
          rw [this]
          exact .tup h1 h2
      · cases e
    | _ => cases e
  | _ => cases e
theorem opd_fdiv (hK : X.K = g.K) : OpR X (binaryOp .FloorDiv) (rB g dFdiv) := by
  intro pins s σ H x y v u Q I rx ry ⟨Y, a, b, d, dm, ha, hb, e, k⟩
  have k' : ∀ v H', Res g Y H d v H' → LenOk X.K H' → Q v H' := fun v H' r l => k v H' (hK ▸ l) r
  cases a with
  | int i => cases b with
    | int j =>
      obtain rfl := ha.int
      obtain rfl := hb.int
      simp only [dFdiv] at e
      split at e
      · rename_i hc
        cases e
        exact (OpR.len op_fdivN) pins s σ H _ _ v u Q I rx ry ⟨i, j, rfl, rfl, hc, k' _ _ (res_same (.int _))⟩
      · cases e
    | _ => cases e
  | _ => cases e
theorem opd_mod (hK : X.K = g.K) : OpR X (binaryOp .Mod) (rB g dMod) := by
  intro pins s σ H x y v u Q I rx ry ⟨Y, a, b, d, dm, ha, hb, e, k⟩
  have k' : ∀ v H', Res g Y H d v H' → LenOk X.K H' → Q v H' := fun v H' r l => k v H' (hK ▸ l) r
  cases a with
  | int i => cases b with
    | int j =>
      obtain rfl := ha.int
      obtain rfl := hb.int
      simp only [dMod] at e
      split at e
      · rename_i hc
        cases e
        exact (OpR.len op_modN) pins s σ H _ _ v u Q I rx ry ⟨i, j, rfl, rfl, hc, k' _ _ (res_same (.int _))⟩
      · cases e
    | _ => cases e
  | _ => cases e
theorem opd_pow (hK : X.K = g.K) : OpR X (binaryOp .Pow) (rB g dPow) := by
  intro pins s σ H x y v u Q I rx ry ⟨Y, a, b, d, dm, ha, hb, e, k⟩
  have k' : ∀ v H', Res g Y H d v H' → LenOk X.K H' → Q v H' := fun v H' r l => k v H' (hK ▸ l) r
  cases a with
  | int i => cases b with
    | int j =>
      obtain rfl := ha.int
      obtain rfl := hb.int
      simp only [dPow] at e
      split at e
      · rename_i hc
        cases e
        exact (OpR.len op_pow) pins s σ H _ _ v u Q I rx ry ⟨i, j, rfl, rfl, hc, k' _ _ (res_same (.int _))⟩
      · cases e
    | _ => cases e
  | _ => cases e

/-! ### comparisons -/
theorem opd_eq (hK : X.K = g.K) (hu : X.A.units + 64 < cLine) : OpR X (compareOp .Eq) (rB g fun a b => (dEq a b).map .bl) := by
  intro pins s σ H x y v u Q I rx ry ⟨Y, a, b, d, dm, ha, hb, e, k⟩
  have k' : ∀ v H', Res g Y H d v H' → LenOk X.K H' → Q v H' := fun v H' r l => k v H' (hK ▸ l) r
  by_cases hc : (a.cmpb && b.cmpb) = true
  · simp only [dEq, if_pos hc, Option.map_some, Option.some.injEq] at e
    simp only [Bool.and_eq_true] at hc
    subst e
    have h1 := shaped_py hc.1
    have h2 := shaped_py hc.2
    refine (OpR.len (op_eqD hu)) pins s σ H _ _ v u Q I rx ry ⟨a.py, b.py, hK ▸ ha.dp h1.1, hK ▸ hb.dp h2.1, h1.2, h2.2, ?_⟩
    rw [eqv_py a b h1.1 h2.1]
    exact k' _ _ (res_same (.bl _))
  · simp [dEq, hc] at e
theorem opd_ne (hK : X.K = g.K) (hu : X.A.units + 64 < cLine) : OpR X (compareOp .NotEq) (rB g fun a b => (dEq a b).map fun r => .bl !r) := by
  intro pins s σ H x y v u Q I rx ry ⟨Y, a, b, d, dm, ha, hb, e, k⟩
  have k' : ∀ v H', Res g Y H d v H' → LenOk X.K H' → Q v H' := fun v H' r l => k v H' (hK ▸ l) r
  by_cases hc : (a.cmpb && b.cmpb) = true
  · simp only [dEq, if_pos hc, Option.map_some, Option.some.injEq] at e
    simp only [Bool.and_eq_true] at hc
    subst e
    have h1 := shaped_py hc.1
    have h2 := shaped_py hc.2
    refine (OpR.len (op_neD hu)) pins s σ H _ _ v u Q I rx ry ⟨a.py, b.py, hK ▸ ha.dp h1.1, hK ▸ hb.dp h2.1, h1.2, h2.2, ?_⟩
    rw [eqv_py a b h1.1 h2.1]
    exact k' _ _ (res_same (.bl _))
  · simp [dEq, hc] at e
theorem opd_lt (hK : X.K = g.K) : OpR X (compareOp .Lt) (rB g fun a b => (dLt a b).map .bl) := by
  intro pins s σ H x y v u Q I rx ry ⟨Y, a, b, d, dm, ha, hb, e, k⟩
  have k' : ∀ v H', Res g Y H d v H' → LenOk X.K H' → Q v H' := fun v H' r l => k v H' (hK ▸ l) r
  cases a with
  | int i => cases b with
    | int j =>
      obtain rfl := ha.int
      obtain rfl := hb.int
      cases e
      exact (OpR.len op_lt) pins s σ H _ _ v u Q I rx ry ⟨i, j, rfl, rfl, k' _ _ (res_same (.bl _))⟩
    | _ => cases e
  | str i => cases b with
    | str j =>
      obtain rfl := ha.str
      obtain rfl := hb.str
      cases e
      exact (OpR.len op_lt_str) pins s σ H _ _ v u Q I rx ry ⟨i, j, rfl, rfl, k' _ _ (res_same (.bl _))⟩
    | _ => cases e
  | _ => cases e
theorem opd_le (hK : X.K = g.K) : OpR X (compareOp .LtE) (rB g fun a b => (dLe a b).map .bl) := by
  intro pins s σ H x y v u Q I rx ry ⟨Y, a, b, d, dm, ha, hb, e, k⟩
  have k' : ∀ v H', Res g Y H d v H' → LenOk X.K H' → Q v H' := fun v H' r l => k v H' (hK ▸ l) r
  cases a with
  | int i => cases b with
    | int j =>
      obtain rfl := ha.int
      obtain rfl := hb.int
      cases e
      exact (OpR.len op_le) pins s σ H _ _ v u Q I rx ry ⟨i, j, rfl, rfl, k' _ _ (res_same (.bl _))⟩
    | _ => cases e
  | _ => cases e
theorem opd_gt (hK : X.K = g.K) : OpR X (compareOp .Gt) (rB g fun a b => (dGt a b).map .bl) := by
  intro pins s σ H x y v u Q I rx ry ⟨Y, a, b, d, dm, ha, hb, e, k⟩
  have k' : ∀ v H', Res g Y H d v H' → LenOk X.K H' → Q v H' := fun v H' r l => k v H' (hK ▸ l) r
  cases a with
  | int i => cases b with
    | int j =>
      obtain rfl := ha.int
      obtain rfl := hb.int
      cases e
      exact (OpR.len op_gt) pins s σ H _ _ v u Q I rx ry ⟨i, j, rfl, rfl, k' _ _ (res_same (.bl _))⟩
    | _ => cases e
  | _ => cases e
theorem opd_ge (hK : X.K = g.K) : OpR X (compareOp .GtE) (rB g fun a b => (dGe a b).map .bl) := by
  intro pins s σ H x y v u Q I rx ry ⟨Y, a, b, d, dm, ha, hb, e, k⟩
  have k' : ∀ v H', Res g Y H d v H' → LenOk X.K H' → Q v H' := fun v H' r l => k v H' (hK ▸ l) r
  cases a with
  | int i => cases b with
    | int j =>
      obtain rfl := ha.int
      obtain rfl := hb.int
      cases e
      exact (OpR.len op_ge) pins s σ H _ _ v u Q I rx ry ⟨i, j, rfl, rfl, k' _ _ (res_same (.bl _))⟩
    | _ => cases e
  | _ => cases e
theorem pyL_any (f : D → Bool) (f' : PyData → Bool) : ∀ ys : List D, (∀ y ∈ ys, f' y.py = f y) → (D.pyL ys).any f' = ys.any f
  | [], _ => rfl
  | y :: ys, h => by
    show (f' y.py || (D.pyL ys).any f') = (f y || ys.any f)
    rw [h y List.mem_cons_self, pyL_any f f' ys fun z hz => h z (List.mem_cons_of_mem _ hz)]
theorem plL_mem : ∀ {ys : List D}, D.plL ys = true → ∀ y ∈ ys, y.pl = true
  | [], _, _, h => nomatch h
  | z :: ys, h, y, hy => by
    simp only [D.plL, Bool.and_eq_true] at h
    rcases List.mem_cons.mp hy with rfl | hy
    · exact h.1
    · exact plL_mem h.2 y hy
theorem any_py {a : D} {ys : List D} (ha : a.pl = true) (hy : D.plL ys = true) : ((D.pyL ys).any fun z => PyData.eqv z a.py) = ys.any fun y => y.eqv a :=
  pyL_any _ _ ys fun y h => eqv_py y a (plL_mem hy y h) ha
theorem opd_in0 (hK : X.K = g.K) (hu : X.A.units + 65 < cLine) (neg : Bool) : OpR X (compareOp (if neg then .NotIn else .In)) (rB g fun a b => (dIn a b).map fun r => .bl (if neg then !r else r)) := by
  intro pins s σ H x y v u Q I rx ry ⟨Y, a, b, d, dm, ha, hb, e, k⟩
  have k' : ∀ v H', Res g Y H d v H' → LenOk X.K H' → Q v H' := fun v H' r l => k v H' (hK ▸ l) r
  have fin : ∀ b : Bool, (d = .bl b) → EP X pins σ Q (.bool b) s := fun b e => ⟨.bl b, H, I, rfl, k' _ _ (res_same (by rw [e]; exact .bl b)) (Inv.lenOk I)⟩
  cases b with
  | lst ys =>
    by_cases hc : (a.cmpb && (D.lst ys).cmpb) = true
    · simp only [dIn, if_pos hc, Option.map_some, Option.some.injEq] at e
      simp only [Bool.and_eq_true] at hc
      subst e
      have h1 := shaped_py hc.1
      have h2 := shaped_py hc.2
      obtain ⟨as, r1⟩ := Dp.reads I a.py x v (hK ▸ ha.dp h1.1) rx
      obtain ⟨bs, r2⟩ := Dp.reads I (D.lst ys).py y u (hK ▸ hb.dp h2.1) ry
      cases neg with
      | false => exact SeqAt.in_list_reads r2 r1 (SeqAt.canLay_of_shaped h2.2) (SeqAt.canLay_of_shaped h1.2) (room_in_shaped h1.2 hu) (fin _ (by rw [any_py h1.1 h2.1]; rfl))
      | true => exact SeqAt.notIn_list_reads r2 r1 (SeqAt.canLay_of_shaped h2.2) (SeqAt.canLay_of_shaped h1.2) (room_in_shaped h1.2 hu) (fin _ (by rw [any_py h1.1 h2.1]; rfl))
    · simp [dIn, hc] at e
  | tup ys =>
    by_cases hc : (a.cmpb && (D.lst ys).cmpb) = true
    · simp only [dIn, if_pos hc, Option.map_some, Option.some.injEq] at e
      simp only [Bool.and_eq_true] at hc
      subst e
      have h1 := shaped_py hc.1
      have h2 := shaped_py hc.2
      obtain ⟨as, r1⟩ := Dp.reads I a.py x v (hK ▸ ha.dp h1.1) rx
      obtain ⟨bs, r2⟩ := Dp.reads I (D.tup ys).py y u (hK ▸ hb.dp h2.1) ry
      cases neg with
      | false => exact SeqAt.in_tuple_reads r2 r1 (SeqAt.canLay_of_shaped h2.2) (SeqAt.canLay_of_shaped h1.2) (room_in_shaped h1.2 hu) (fin _ (by rw [any_py h1.1 h2.1]; rfl))
      | true => exact SeqAt.notIn_tuple_reads r2 r1 (SeqAt.canLay_of_shaped h2.2) (SeqAt.canLay_of_shaped h1.2) (room_in_shaped h1.2 hu) (fin _ (by rw [any_py h1.1 h2.1]; rfl))
    · simp [dIn, hc] at e
  | str j => cases a with
    | str i =>
      obtain rfl := ha.str
      obtain rfl := hb.str
      cases e
      cases neg with
      | false => exact (OpR.len op_in_str) pins s σ H _ _ v u Q I rx ry ⟨i, j, rfl, rfl, k' _ _ (res_same (.bl _))⟩
      | true => exact (OpR.len op_notin_str) pins s σ H _ _ v u Q I rx ry ⟨i, j, rfl, rfl, k' _ _ (res_same (.bl _))⟩
    | _ => cases e
  | _ => cases a <;> cases e
theorem opd_in (hK : X.K = g.K) (hu : X.A.units + 65 < cLine) : OpR X (compareOp .In) (rB g fun a b => (dIn a b).map .bl) := opd_in0 hK hu false
theorem opd_notin (hK : X.K = g.K) (hu : X.A.units + 65 < cLine) : OpR X (compareOp .NotIn) (rB g fun a b => (dIn a b).map fun r => .bl !r) := opd_in0 hK hu true
theorem is_none {Y : Addr → Bool} {H : Hp} {a : D} {v : V} (h : RepP g Y H v a) : decide (v = .non) = (match a with | .non => true | _ => false) := by
  cases a with
  | non => obtain rfl := h.non; rfl
  | bl b => obtain rfl := h.bl; rfl
  | int b => obtain rfl := h.int; rfl
  | str b => obtain rfl := h.str; rfl
  | tup b => obtain ⟨p, _, rfl, _⟩ := h.tup; rfl
  | lst b => obtain ⟨p, _, rfl, _⟩ := h.lst; rfl
  | box =>
    rcases h with h | ⟨_, _, _, _, e, _⟩
    · cases h; rfl
    · cases e
theorem opd_is (hK : X.K = g.K) : OpR X (compareOp .Is) (rB g fun a b => (dIs a b).map .bl) := by
  intro pins s σ H x y v u Q I rx ry ⟨Y, a, b, d, dm, ha, hb, e, k⟩
  have k' : ∀ v H', Res g Y H d v H' → LenOk X.K H' → Q v H' := fun v H' r l => k v H' (hK ▸ l) r
  by_cases hbl : ∃ p q, a = .bl p ∧ b = .bl q
  · obtain ⟨p, q, rfl, rfl⟩ := hbl
    obtain rfl := ha.bl
    obtain rfl := hb.bl
    cases e
    refine (OpR.len op_isBl) pins s σ H _ _ v u Q I rx ry ⟨p, q, rfl, rfl, fun l => ?_⟩
    have : decide (p = q) = (p == q) := by cases p <;> cases q <;> rfl
    rw [this]
    exact k' _ _ (res_same (.bl _)) l
  have hb' : b = .non := by cases a <;> cases b <;> first | rfl | (cases e; done) | exact absurd ⟨_, _, rfl, rfl⟩ hbl
  subst hb'
  obtain rfl := hb.non
  refine (OpR.len op_isN) pins s σ H _ _ v u Q I rx ry ⟨rfl, ?_⟩
  rw [is_none ha]
  cases a <;> cases e <;> exact k' _ _ (res_same (.bl _))
theorem opd_isnot (hK : X.K = g.K) : OpR X (compareOp .IsNot) (rB g fun a b => (dIs a b).map fun r => .bl !r) := by
  intro pins s σ H x y v u Q I rx ry ⟨Y, a, b, d, dm, ha, hb, e, k⟩
  have k' : ∀ v H', Res g Y H d v H' → LenOk X.K H' → Q v H' := fun v H' r l => k v H' (hK ▸ l) r
  by_cases hbl : ∃ p q, a = .bl p ∧ b = .bl q
  · obtain ⟨p, q, rfl, rfl⟩ := hbl
    obtain rfl := ha.bl
    obtain rfl := hb.bl
    cases e
    refine (OpR.len op_notBl) pins s σ H _ _ v u Q I rx ry ⟨p, q, rfl, rfl, fun l => ?_⟩
    have : (!decide (p = q)) = !(p == q) := by cases p <;> cases q <;> rfl
    rw [this]
    exact k' _ _ (res_same (.bl _)) l
  have hb' : b = .non := by cases a <;> cases b <;> first | rfl | (cases e; done) | exact absurd ⟨_, _, rfl, rfl⟩ hbl
  subst hb'
  obtain rfl := hb.non
  refine (OpR.len op_notN) pins s σ H _ _ v u Q I rx ry ⟨rfl, ?_⟩
  rw [is_none ha]
  cases a <;> cases e <;> exact k' _ _ (res_same (.bl _))
end
end PV

end
section
set_option Elab.async false
set_option linter.all false
set_option maxRecDepth 100000
set_option maxHeartbeats 1000000
/-! DF: built-in functions by values, over data. -/
namespace PV
open PySem PySem.Spec PyProof.Rows L2
section
variable {X : Cx} {g : G}
/-- a built-in by values: f of the data; n: the result is a new list -/
def rC (g : G) (n : Bool) (f : List D → Option D) : List V → Hp → VK → Prop := fun vs H Q => ∃ Y ds d, Dom Y H ∧ RepPL g Y H vs ds ∧ f ds = some d ∧
  ∀ v H', LenOk g.K H' → (if n = true then ResN g Y H d v H' else Res g Y H d v H') → Q v H'
theorem intL_some : ∀ {ds : List D} {ns : List Int}, intL ds = some ns → ds = ns.map D.int
  | [], ns, h => by simp [intL] at h; subst h; rfl
  | d :: ds, ns, h => by
    cases d with
    | int i =>
      simp only [intL, Option.map_eq_some_iff] at h
      obtain ⟨ms, h1, rfl⟩ := h
      rw [intL_some h1]; rfl
    | _ => simp [intL] at h
theorem boolL_some : ∀ {ds : List D} {bs : List Bool}, boolL ds = some bs → ds = bs.map D.bl
  | [], ns, h => by simp [boolL] at h; subst h; rfl
  | d :: ds, ns, h => by
    cases d with
    | bl i =>
      simp only [boolL, Option.map_eq_some_iff] at h
      obtain ⟨ms, h1, rfl⟩ := h
      rw [boolL_some h1]; rfl
    | _ => simp [boolL] at h
theorem intL_map : ∀ ns : List Int, intL (ns.map D.int) = some ns
  | [] => rfl
  | n :: ns => by simp [intL, intL_map ns]
theorem boolL_map : ∀ ns : List Bool, boolL (ns.map D.bl) = some ns
  | [] => rfl
  | n :: ns => by simp [boolL, boolL_map ns]
theorem repL_ints {H : Hp} : ∀ {ns : List Int} {vs : List V}, RepL g H vs (ns.map D.int) → vs = ns.map V.int
  | [], _, h => by cases h; rfl
  | n :: ns, _, h => by
    cases h with
    | cons h1 h2 => cases h1; rw [repL_ints h2]; rfl
theorem ints_repL {H : Hp} : ∀ ns : List Int, RepL g H (ns.map V.int) (ns.map D.int)
  | [] => .nil
  | n :: ns => .cons (.int n) (ints_repL ns)
theorem repL_bools {H : Hp} : ∀ {ns : List Bool} {vs : List V}, RepL g H vs (ns.map D.bl) → vs = ns.map V.bl
  | [], _, h => by cases h; rfl
  | n :: ns, _, h => by
    cases h with
    | cons h1 h2 => cases h1; rw [repL_bools h2]; rfl
theorem repPL1 {Y : Addr → Bool} {H : Hp} {vs : List V} {d : D} (h : RepPL g Y H vs [d]) : ∃ v, vs = [v] ∧ RepP g Y H v d := by
  cases h with
  | cons h1 h2 => cases h2; exact ⟨_, rfl, h1⟩
theorem repPL2 {Y : Addr → Bool} {H : Hp} {vs : List V} {d e : D} (h : RepPL g Y H vs [d, e]) : ∃ v w, vs = [v, w] ∧ RepP g Y H v d ∧ RepP g Y H w e := by
  cases h with
  | cons h1 h2 =>
    cases h2 with
    | cons h2 h3 => cases h3; exact ⟨_, _, rfl, h1, h2⟩

/-! ### of tuples -/
theorem ints_alike (ns : List Int) : PySem.W.AlikeAll (ns.map PyData.int) := by
  refine ⟨fun x hx y hy => ?_, fun x hx => ?_⟩
  · obtain ⟨i, _, rfl⟩ := List.mem_map.mp hx
    obtain ⟨j, _, rfl⟩ := List.mem_map.mp hy
    rfl
  · obtain ⟨i, _, rfl⟩ := List.mem_map.mp hx
    intro e; cases e
theorem ints_depth : ∀ ns : List Int, PyData.depthAll (ns.map PyData.int) = 0
  | [] => rfl
  | n :: ns => by
    show max (PyData.depth (.int n)) (PyData.depthAll (ns.map PyData.int)) = 0
    rw [ints_depth ns]; rfl
theorem ints_dpAll {K : PySem.W.Frag} {H : Hp} : ∀ ns : List Int, DpAll K H (ns.map V.int) (ns.map PyData.int)
  | [] => .nil
  | n :: ns => .cons (.int n) (ints_dpAll ns)
theorem max_ints_of {h' : Heap} {v : Value} {i : Int} {bs : List Addr} (r : PySem.Reads h' v (.int i) bs) : ∃ t, v = .int i t := by
  cases r with
  | int => exact ⟨_, rfl⟩
def rMaxT (K : PySem.W.Frag) (f : List Int → Option Int) : List V → Hp → VK → Prop := fun vs H Q => ∃ (a : Addr) (ns : List Int) (m : Int), vs = [V.ref a] ∧ SqT K H a (ns.map V.int) ∧ f ns = some m ∧ Q (.int m) H
theorem cr_maxT (hc : X.calm = true) (hu : X.A.units + 100 < cLine) : CallR X (.builtin "max") (rMaxT X.K maxI) := by
  intro pins s σ H vs us Q I r h
  obtain ⟨a, ns, m, rfl, hs, hm, q⟩ := h
  obtain ⟨its, rv, hl, _⟩ := I.tuple hs
  rw [Vals.ref1 r]
  obtain ⟨as, rs⟩ := Dp.readsAll I _ _ its (ints_dpAll ns) rv
  cases ns with
  | nil => cases hm
  | cons n ns =>
    refine PySem.W.max_tuple_data (I.ok.hd hc) hl (x := .int n) (xs := ns.map .int) (by simpa using rs) (ints_alike (n :: ns)) (by have := ints_depth (n :: ns); simp only [List.map_cons] at this; rw [this]; omega) fun i v h' tk bs hv hr hk => ?_
    rw [PySem.W.maxD_ints] at hr
    obtain ⟨t, rfl⟩ := max_ints_of hr
    cases hm
    exact ⟨.int _, H, I.kept hk, ⟨_, rfl⟩, q⟩
theorem cr_minT (hc : X.calm = true) (hu : X.A.units + 100 < cLine) : CallR X (.builtin "min") (rMaxT X.K minI) := by
  intro pins s σ H vs us Q I r h
  obtain ⟨a, ns, m, rfl, hs, hm, q⟩ := h
  obtain ⟨its, rv, hl, _⟩ := I.tuple hs
  rw [Vals.ref1 r]
  obtain ⟨as, rs⟩ := Dp.readsAll I _ _ its (ints_dpAll ns) rv
  cases ns with
  | nil => cases hm
  | cons n ns =>
    refine PySem.W.min_tuple_data (I.ok.hd hc) hl (x := .int n) (xs := ns.map .int) (by simpa using rs) (ints_alike (n :: ns)) (by have := ints_depth (n :: ns); simp only [List.map_cons] at this; rw [this]; omega) fun i v h' tk bs hv hr hk => ?_
    rw [PySem.W.minD_ints] at hr
    obtain ⟨t, rfl⟩ := max_ints_of hr
    cases hm
    exact ⟨.int _, H, I.kept hk, ⟨_, rfl⟩, q⟩
theorem iter_intTup {prog : Program} {w : World} {A : Around} {E : Value → Shared → Prop} {s : Shared} {l : Addr} {xs : Array (Int × Tok)} {Q : Value → Shared → Prop} (hl : s.heap.IsTuple l (intItems xs))
    (h : ∀ s₂ : Shared, s₂ = { s with heap := s.heap.push { cls := .type "tuple_iterator", data := .fields #[.ref l, .int 0 0] } } →
      (s₂.heap.IsTupleIter s.heap.objs.size l 0 ∧ s₂.heap.IsTuple l (intItems xs)) → (∀ b ∈ [s.heap.objs.size, l], b < s₂.heap.objs.size) → l ≠ s.heap.objs.size → Q (.ref s.heap.objs.size) s₂) :
    wpAny (model prog w) A (pyIter (.ref l)) Q E s := by
  have hlt : l < s.heap.objs.size := by obtain ⟨_, e, _⟩ := hl; exact Heap.lt_size e
  refine wpAny_pyIter_tuple hl (h _ rfl ⟨⟨_, Heap.get?_push_size _ rfl, rfl, rfl⟩, ?_⟩ (fun b hb => ?_) (Nat.ne_of_lt hlt))
  · obtain ⟨o, e, r⟩ := hl
    exact ⟨o, Heap.get?_push_of_some _ e, r⟩
  · show b < (s.heap.push _).objs.size
    rw [Heap.size_push]
    rcases List.mem_cons.mp hb with rfl | hb
    · exact Nat.lt_succ_self _
    · rcases List.mem_cons.mp hb with rfl | hb
      · exact Nat.lt_succ_of_lt hlt
      · cases hb
theorem cr_sumT (hc : X.calm = true) : CallR X (.builtin "sum") (fun vs H Q => ∃ (a : Addr) (ns : List Int), vs = [V.ref a] ∧ SqT X.K H a (ns.map V.int) ∧ Q (.int ns.sum) H) := by
  intro pins s σ H vs us Q I r h
  obtain ⟨a, ns, rfl, hs, q⟩ := h
  obtain ⟨its, rv, hl, _⟩ := I.tuple hs
  rw [Vals.ref1 r]
  have hi := rv.ints
  obtain ⟨xs, e⟩ := hi.allInts.items
  have hn : numsOf (intItems xs).toList = ns := by rw [← e]; exact hi.numsOf
  rw [nums_intItems] at hn
  have hl : s.heap.IsTuple a (intItems xs) := by rw [← e]; exact hl
  refine call_sum_walkG (iter_intTup hl fun s₂ e st hfp hlI => ?_)
  subst e
  refine ⟨_, _, _, _, _, _, numAt xs, rfl, Walks.tuple (A := X.A.in1) (I.ok.hd hc) _ a hlI (intItems xs), st, hfp, (fun _ _ => intItems_at), fun h' tk t' hk => ?_⟩
  have es : preSum (numAt xs) (intItems xs).size = ns.sum := by
    rw [show (intItems xs).size = xs.size by simp [intItems], preSum_eq, List.take_of_length_le (by simp), hn]
  rw [es]
  refine ⟨.int _, H, I.kept (fun b o e => hk b o (fun hm => ?_) (Heap.get?_push_of_some _ e)), ⟨t', rfl⟩, q⟩
  · rcases List.mem_cons.mp hm with e1 | hm
    · exact absurd (e1 ▸ Heap.lt_size e) (Nat.lt_irrefl _)
    · cases hm
theorem call_len (hK : X.K = g.K) : CallR X (.builtin "len") (rC g false (bfn .len)) := by
  intro pins s σ H vs us Q I r ⟨Y, ds, d, dm, hv, e, k⟩
  have k' : ∀ v H', Res g Y H d v H' → LenOk X.K H' → Q v H' := fun v H' r l => k v H' (hK ▸ l) r
  match ds, e with
  | [.str x], e =>
    obtain ⟨v, rfl, h⟩ := repPL1 hv
    obtain rfl := h.str
    simp only [bfn] at e
    split at e
    · cases e
      exact (CallR.len call_len_str) pins s σ H _ us Q I r ⟨x, rfl, by assumption, k' _ _ (res_same (.int _))⟩
    · cases e
  | [.lst xs], e =>
    obtain ⟨v, rfl, h⟩ := repPL1 hv
    obtain ⟨p, ws, rfl, h1, h2⟩ := h.lst
    cases e
    refine (CallR.len call_len_seq) pins s σ H _ us Q I r ⟨p, ws, rfl, .inl (SqL.of h1), ?_⟩
    rw [h2.length]
    exact k' _ _ (res_same (.int _))
  | [.tup xs], e =>
    obtain ⟨v, rfl, h⟩ := repPL1 hv
    obtain ⟨p, ws, rfl, h1, h2⟩ := h.tup
    cases e
    refine (CallR.len call_len_seq) pins s σ H _ us Q I r ⟨p, ws, rfl, .inr (hK ▸ sqT_hid h1), ?_⟩
    rw [h2.length]
    exact k' _ _ (res_same (.int _))
theorem call_sum (hK : X.K = g.K) (hc : X.calm = true) : CallR X (.builtin "sum") (rC g false (bfn .sum)) := by
  intro pins s σ H vs us Q I r ⟨Y, ds, d, dm, hv, e, k⟩
  have k' : ∀ v H', Res g Y H d v H' → LenOk X.K H' → Q v H' := fun v H' r l => k v H' (hK ▸ l) r
  match ds, e with
  | [.tup xs], e =>
    obtain ⟨v, rfl, h⟩ := repPL1 hv
    obtain ⟨p, ws, rfl, h1, h2⟩ := h.tup
    simp only [bfn, Option.map_eq_some_iff] at e
    obtain ⟨ns, e1, rfl⟩ := e
    obtain rfl := intL_some e1
    obtain rfl := repL_ints h2
    exact (CallR.len (cr_sumT hc)) pins s σ H _ us Q I r ⟨p, ns, rfl, hK ▸ sqT_hid h1, k' _ _ (res_same (.int _))⟩
  | [.lst xs], e =>
    obtain ⟨v, rfl, h⟩ := repPL1 hv
    obtain ⟨p, ws, rfl, h1, h2⟩ := h.lst
    simp only [bfn, Option.map_eq_some_iff] at e
    obtain ⟨ns, e1, rfl⟩ := e
    obtain rfl := intL_some e1
    obtain rfl := repL_ints h2
    exact (CallR.len (cr_sum hc)) pins s σ H _ us Q I r ⟨p, ns, rfl, SqL.of h1, k' _ _ (res_same (.int _))⟩
theorem foldl_max : ∀ (xs : List Int) (x : Int), x ≤ xs.foldl max x ∧ (∀ y ∈ xs, y ≤ xs.foldl max x) ∧ (xs.foldl max x = x ∨ xs.foldl max x ∈ xs)
  | [], x => ⟨Int.le_refl _, fun _ h => (nomatch h), .inl rfl⟩
  | y :: ys, x => by
    obtain ⟨h1, h2, h3⟩ := foldl_max ys (max x y)
    have h4 : x ≤ max x y := by omega
    have h5 : y ≤ max x y := by omega
    refine ⟨Int.le_trans h4 h1, fun z hz => ?_, ?_⟩
    · rcases List.mem_cons.mp hz with rfl | hz
      · exact Int.le_trans h5 h1
      · exact h2 z hz
    · rcases h3 with h3 | h3
      · show List.foldl max (max x y) ys = x ∨ List.foldl max (max x y) ys ∈ y :: ys
        rw [h3]
        rcases Int.le_total x y with q | q
        · right; rw [show max x y = y by omega]; exact List.mem_cons_self
        · left; omega
      · exact .inr (List.mem_cons_of_mem _ h3)
theorem foldl_min : ∀ (xs : List Int) (x : Int), xs.foldl min x ≤ x ∧ (∀ y ∈ xs, xs.foldl min x ≤ y) ∧ (xs.foldl min x = x ∨ xs.foldl min x ∈ xs)
  | [], x => ⟨Int.le_refl _, fun _ h => (nomatch h), .inl rfl⟩
  | y :: ys, x => by
    obtain ⟨h1, h2, h3⟩ := foldl_min ys (min x y)
    have h4 : min x y ≤ x := by omega
    have h5 : min x y ≤ y := by omega
    refine ⟨Int.le_trans h1 h4, fun z hz => ?_, ?_⟩
    · rcases List.mem_cons.mp hz with rfl | hz
      · exact Int.le_trans h1 h5
      · exact h2 z hz
    · rcases h3 with h3 | h3
      · show List.foldl min (min x y) ys = x ∨ List.foldl min (min x y) ys ∈ y :: ys
        rw [h3]
        rcases Int.le_total x y with q | q
        · left; omega
        · right; rw [show min x y = y by omega]; exact List.mem_cons_self
      · exact .inr (List.mem_cons_of_mem _ h3)
theorem maxI_uniq {ns : List Int} {m k : Int} (e : maxI ns = some m) (h1 : k ∈ ns) (h2 : ∀ y, y ∈ ns → y ≤ k) : k = m := by
  cases ns with
  | nil => cases e
  | cons x xs =>
    cases e
    obtain ⟨a, b, c⟩ := foldl_max xs x
    have : k ≤ xs.foldl max x := by
      rcases List.mem_cons.mp h1 with rfl | h
      · exact a
      · exact b k h
    have : xs.foldl max x ≤ k := by
      rcases c with c | c
      · rw [c]; exact h2 x List.mem_cons_self
      · exact h2 _ (List.mem_cons_of_mem _ c)
    omega
theorem minI_uniq {ns : List Int} {m k : Int} (e : minI ns = some m) (h1 : k ∈ ns) (h2 : ∀ y, y ∈ ns → k ≤ y) : k = m := by
  cases ns with
  | nil => cases e
  | cons x xs =>
    cases e
    obtain ⟨a, b, c⟩ := foldl_min xs x
    have : xs.foldl min x ≤ k := by
      rcases List.mem_cons.mp h1 with rfl | h
      · exact a
      · exact b k h
    have : k ≤ xs.foldl min x := by
      rcases c with c | c
      · rw [c]; exact h2 x List.mem_cons_self
      · exact h2 _ (List.mem_cons_of_mem _ c)
    omega
theorem call_all (hK : X.K = g.K) (hc : X.calm = true) : CallR X (.builtin "all") (rC g false (bfn .all)) := by
  intro pins s σ H vs us Q I r ⟨Y, ds, d, dm, hv, e, k⟩
  have k' : ∀ v H', Res g Y H d v H' → LenOk X.K H' → Q v H' := fun v H' r l => k v H' (hK ▸ l) r
  match ds, e with
  | [.lst xs], e =>
    obtain ⟨v, rfl, h⟩ := repPL1 hv
    obtain ⟨p, ws, rfl, h1, h2⟩ := h.lst
    simp only [bfn, Option.map_eq_some_iff] at e
    obtain ⟨ns, e1, rfl⟩ := e
    obtain rfl := boolL_some e1
    obtain rfl := repL_bools h2
    exact (CallR.len (cr_all hc)) pins s σ H _ us Q I r ⟨p, ns, rfl, SqL.of h1, k' _ _ (res_same (.bl _))⟩
theorem ints_plainAll : ∀ ns : List Int, PyData.plainAll (ns.map PyData.int) = true
  | [] => rfl
  | n :: ns => by
    show (PyData.plain (.int n) && PyData.plainAll (ns.map PyData.int)) = true
    rw [ints_plainAll ns]; rfl
theorem cr_anyI (hc : X.calm = true) : CallR X (.builtin "any") (fun vs H Q => ∃ (a : Addr) (ns : List Int), vs = [V.ref a] ∧ SqL X.K H a (ns.map V.int) ∧ Q (.bl (ns.any fun n => n != 0)) H) := by
  intro pins s σ H vs us Q I r h
  obtain ⟨a, ns, rfl, hs, q⟩ := h
  obtain ⟨its, rv, hl, _⟩ := I.list hs
  rw [Vals.ref1 r]
  obtain ⟨as, rs⟩ := Dp.readsAll I _ _ its (ints_dpAll ns) rv
  refine PySem.W.any_list_data (I.ok.hd hc) hl.isList (vs := its.toArray) (by simpa using rs) (ints_plainAll ns) (fun x hx => by
    obtain ⟨i, _, rfl⟩ := List.mem_map.mp hx
    trivial) fun h' tk hk => ?_
  refine ⟨.bl _, H, I.kept hk, ?_, q⟩
  show Value.bool _ = Value.bool _
  rw [List.any_map]
  congr 1
theorem call_any (hK : X.K = g.K) (hc : X.calm = true) : CallR X (.builtin "any") (rC g false (bfn .any)) := by
  intro pins s σ H vs us Q I r ⟨Y, ds, d, dm, hv, e, k⟩
  have k' : ∀ v H', Res g Y H d v H' → LenOk X.K H' → Q v H' := fun v H' r l => k v H' (hK ▸ l) r
  match ds, e with
  | [.lst xs], e =>
    obtain ⟨v, rfl, h⟩ := repPL1 hv
    obtain ⟨p, ws, rfl, h1, h2⟩ := h.lst
    have e : ((boolL xs).map fun bs => D.bl (bs.any id)).or ((intL xs).map fun ns => D.bl (ns.any fun n => n != 0)) = some d := e
    cases q : boolL xs with
    | some ns =>
      rw [q] at e
      cases e
      obtain rfl := boolL_some q
      obtain rfl := repL_bools h2
      exact (CallR.len (cr_any hc)) pins s σ H _ us Q I r ⟨p, ns, rfl, SqL.of h1, k' _ _ (res_same (.bl _))⟩
    | none =>
      rw [q] at e
      have e : (intL xs).map (fun ns => D.bl (ns.any fun n => n != 0)) = some d := e
      cases q2 : intL xs with
      | none => rw [q2] at e; cases e
      | some ns =>
        rw [q2] at e
        cases e
        obtain rfl := intL_some q2
        obtain rfl := repL_ints h2
        exact (CallR.len (cr_anyI hc)) pins s σ H _ us Q I r ⟨p, ns, rfl, SqL.of h1, k' _ _ (res_same (.bl _))⟩
theorem call_tuple (hK : X.K = g.K) : CallR X (.type "tuple") (rC g false (bfn .tuple)) := by
  intro pins s σ H vs us Q I r ⟨Y, ds, d, dm, hv, e, k⟩
  have k' : ∀ v H', Res g Y H d v H' → LenOk X.K H' → Q v H' := fun v H' r l => k v H' (hK ▸ l) r
  match ds, e with
  | [.lst xs], e =>
    obtain ⟨v, rfl, h⟩ := repPL1 hv
    obtain ⟨p, ws, rfl, h1, h2⟩ := h.lst
    cases e
    exact (CallR.len st_tuple_of) pins s σ H _ us Q I r ⟨p, ws, rfl, .inl ⟨SqL.of h1, fun l o hl ho => k' _ _ (res_tup dm hl ho h2)⟩⟩
  | [.tup xs], e =>
    obtain ⟨v, rfl, h⟩ := repPL1 hv
    obtain ⟨p, ws, rfl, h1, h2⟩ := h.tup
    cases e
    exact (CallR.len st_tuple_of) pins s σ H _ us Q I r ⟨p, ws, rfl, .inr ⟨hK ▸ sqT_hid h1, k' _ _ (res_same (.tup h1 h2))⟩⟩
theorem call_list (hK : X.K = g.K) : CallR X (.type "list") (rC g true (bfn .list)) := by
  intro pins s σ H vs us Q I r ⟨Y, ds, d, dm, hv, e, k⟩
  have k' : ∀ v H', ResN g Y H d v H' → LenOk X.K H' → Q v H' := fun v H' r l => k v H' (hK ▸ l) (by rw [if_pos rfl]; exact r)
  match ds, e with
  | [.lst xs], e =>
    obtain ⟨v, rfl, h⟩ := repPL1 hv
    obtain ⟨p, ws, rfl, h1, h2⟩ := h.lst
    cases e
    exact (CallR.len call_list_of) pins s σ H _ us Q I r ⟨p, ws, rfl, .inl (SqL.of h1), fun l hl => k' _ _ ⟨l, ws, _, rfl, rfl, hl, rfl, h2⟩⟩
  | [.tup xs], e =>
    obtain ⟨v, rfl, h⟩ := repPL1 hv
    obtain ⟨p, ws, rfl, h1, h2⟩ := h.tup
    cases e
    exact (CallR.len call_list_of) pins s σ H _ us Q I r ⟨p, ws, rfl, .inr (hK ▸ sqT_hid h1), fun l hl => k' _ _ ⟨l, ws, _, rfl, rfl, hl, rfl, h2⟩⟩
theorem call_abs' (hK : X.K = g.K) : CallR X (.builtin "abs") (rC g false (bfn .abs)) := by
  intro pins s σ H vs us Q I r ⟨Y, ds, d, dm, hv, e, k⟩
  have k' : ∀ v H', Res g Y H d v H' → LenOk X.K H' → Q v H' := fun v H' r l => k v H' (hK ▸ l) r
  match ds, e with
  | [.int i], e =>
    obtain ⟨v, rfl, h⟩ := repPL1 hv
    obtain rfl := h.int
    cases e
    exact (CallR.len call_abs) pins s σ H _ us Q I r ⟨i, rfl, k' _ _ (res_same (.int _))⟩
theorem call_int' (hK : X.K = g.K) : CallR X (.type "int") (rC g false (bfn .int)) := by
  intro pins s σ H vs us Q I r ⟨Y, ds, d, dm, hv, e, k⟩
  have k' : ∀ v H', Res g Y H d v H' → LenOk X.K H' → Q v H' := fun v H' r l => k v H' (hK ▸ l) r
  match ds, e with
  | [.int i], e =>
    obtain ⟨v, rfl, h⟩ := repPL1 hv
    obtain rfl := h.int
    cases e
    exact (CallR.len call_int1) pins s σ H _ us Q I r (.inl ⟨i, rfl, k' _ _ (res_same (.int _))⟩)
  | [.bl i], e =>
    obtain ⟨v, rfl, h⟩ := repPL1 hv
    obtain rfl := h.bl
    cases e
    exact (CallR.len call_int1) pins s σ H _ us Q I r (.inr ⟨i, rfl, k' _ _ (res_same (.int _))⟩)
/-! ### index, count -/
def rIdx (K : PySem.W.Frag) (tup : Bool) : V → List V → Hp → VK → Prop := fun x xs H Q => ∃ (p : Addr) (ws : List V) (y : V) (ds : List PyData) (d : PyData) (j : Nat), x = .ref p ∧ xs = [y] ∧ (if tup = true then SqT K H p ws else SqL K H p ws) ∧ DpAll K H ws ds ∧ Dp K H y d ∧
  SeqAt.shaped (.list ds) = true ∧ SeqAt.shaped d = true ∧ (ds.findIdx? fun z => PyData.eqv z d) = some j ∧ Q (.int (j : Nat)) H
def rCnt (K : PySem.W.Frag) (tup : Bool) : V → List V → Hp → VK → Prop := fun x xs H Q => ∃ (p : Addr) (ws : List V) (y : V) (ds : List PyData) (d : PyData), x = .ref p ∧ xs = [y] ∧ (if tup = true then SqT K H p ws else SqL K H p ws) ∧ DpAll K H ws ds ∧ Dp K H y d ∧
  SeqAt.shaped (.list ds) = true ∧ SeqAt.shaped d = true ∧ Q (.int ((ds.countP fun z => PyData.eqv z d) : Nat)) H
theorem plain_of_shaped {d : PyData} (h : SeqAt.shaped d = true) : d.plain = true := PyData.plain_of_canLay0 d (SeqAt.canLay_of_shaped h)
theorem cr_cntT (hu : X.A.units + 65 < cLine) : MtR X "tuple.count" (rCnt X.K true) := by
  intro pins s σ H x xs v us Q I rx rxs h
  obtain ⟨p, ws, y, ds, d, rfl, rfl, hs, ha, hy, sl, sd, q⟩ := h
  cases rx
  obtain ⟨u, rfl, ru⟩ := rxs.one
  rw [if_pos rfl] at hs
  obtain ⟨its, rv, pl, _⟩ := I.tuple hs
  obtain ⟨as, h4⟩ := Dp.readsAll I ds _ its ha rv
  obtain ⟨bs, r1⟩ := Dp.reads I d y u hy ru
  have hxs : PyData.canLayAll0 ds = true := SeqAt.canLay_of_shaped sl
  have hroom : X.A.units + 1 + min (PyData.depthAll ds) d.depth < cLine := room_in_shaped sd hu
  exact SeqAt.count_tuple_data pl (vs := its.toArray) (show ReadsAll s.heap its.toArray.toList ds as from h4) r1 (PyData.plainAll_of_canLay0 _ hxs) (plain_of_shaped sd) hroom ⟨.int _, H, I.tok _, ⟨_, rfl⟩, q⟩
theorem cr_cntL (hu : X.A.units + 65 < cLine) : MtR X "list.count" (rCnt X.K false) := by
  intro pins s σ H x xs v us Q I rx rxs h
  obtain ⟨p, ws, y, ds, d, rfl, rfl, hs, ha, hy, sl, sd, q⟩ := h
  cases rx
  obtain ⟨u, rfl, ru⟩ := rxs.one
  rw [if_neg (by decide)] at hs
  obtain ⟨its, rv, pl, _⟩ := I.list hs
  obtain ⟨as, h4⟩ := Dp.readsAll I ds _ its ha rv
  obtain ⟨bs, r1⟩ := Dp.reads I d y u hy ru
  have hxs : PyData.canLayAll0 ds = true := SeqAt.canLay_of_shaped sl
  have hroom : X.A.units + 1 + min (PyData.depthAll ds) d.depth < cLine := room_in_shaped sd hu
  exact SeqAt.count_list_data pl.isList (vs := its.toArray) (show ReadsAll s.heap its.toArray.toList ds as from h4) r1 (PyData.plainAll_of_canLay0 _ hxs) (plain_of_shaped sd) hroom ⟨.int _, H, I.tok _, ⟨_, rfl⟩, q⟩
theorem cr_idxT (hu : X.A.units + 65 < cLine) : MtR X "tuple.index" (rIdx X.K true) := by
  intro pins s σ H x xs v us Q I rx rxs h
  obtain ⟨p, ws, y, ds, d, j, rfl, rfl, hs, ha, hy, sl, sd, hj, q⟩ := h
  cases rx
  obtain ⟨u, rfl, ru⟩ := rxs.one
  rw [if_pos rfl] at hs
  obtain ⟨its, rv, pl, _⟩ := I.tuple hs
  obtain ⟨as, h4⟩ := Dp.readsAll I ds _ its ha rv
  obtain ⟨bs, r1⟩ := Dp.reads I d y u hy ru
  have hxs : PyData.canLayAll0 ds = true := SeqAt.canLay_of_shaped sl
  have hroom : X.A.units + 1 + min (PyData.depthAll ds) d.depth < cLine := room_in_shaped sd hu
  have h5 : ReadsAll s.heap its.toArray.toList ds as := h4
  obtain ⟨hjs, e1, e2⟩ := SeqAt.hit_at h5 (PyData.plainAll_of_canLay0 _ hxs) hj
  obtain ⟨⟨cls, dd, data, sls⟩, ho, hc, n, hdt⟩ := pl
  simp only at hc hdt
  subst hc hdt
  exact call_meets PySem.F.slot_tuple_index ⟨_, ho, rfl⟩ PySem.F.entry_tuple_index (PySem.F.args_tuple_index_2 _ _) (TI.tuple_indexAt p its.toArray n dd sls u (fun z => PyData.eqv (SeqAt.readOf s.heap z) d) j hjs e1 e2)
    ⟨ho, SeqAt.items_plain (vs := its.toArray) h5 r1 (PyData.plainAll_of_canLay0 _ hxs) (plain_of_shaped sd) hroom, ⟨.int (j : Nat), H, I.tok _, ⟨_, rfl⟩, q⟩⟩
theorem cr_idxL (hu : X.A.units + 65 < cLine) : MtR X "list.index" (rIdx X.K false) := by
  intro pins s σ H x xs v us Q I rx rxs h
  obtain ⟨p, ws, y, ds, d, j, rfl, rfl, hs, ha, hy, sl, sd, hj, q⟩ := h
  cases rx
  obtain ⟨u, rfl, ru⟩ := rxs.one
  rw [if_neg (by decide)] at hs
  obtain ⟨its, rv, pl, hlen⟩ := I.list hs
  obtain ⟨as, h4⟩ := Dp.readsAll I ds _ its ha rv
  obtain ⟨bs, r1⟩ := Dp.reads I d y u hy ru
  have hxs : PyData.canLayAll0 ds = true := SeqAt.canLay_of_shaped sl
  have hroom : X.A.units + 1 + min (PyData.depthAll ds) d.depth < cLine := room_in_shaped sd hu
  have h5 : ReadsAll s.heap its.toArray.toList ds as := h4
  obtain ⟨hjs, e1, e2⟩ := SeqAt.hit_at h5 (PyData.plainAll_of_canLay0 _ hxs) hj
  obtain ⟨⟨cls, dd, data, sls⟩, n, ho, hc, hdn, hdt⟩ := pl
  simp only at hc hdt
  subst hc hdt
  have hvl := rv.length
  have hsl := sizeLine_eq
  exact call_meets PySem.F.slot_list_index ⟨_, ho, rfl⟩ PySem.F.entry_list_index (PySem.F.args_list_index_2 _ _) (SeqAt.list_indexAt p its.toArray n dd sls u (fun z => PyData.eqv (SeqAt.readOf s.heap z) d) j hjs (by simp at hjs; omega) e1 e2)
    ⟨ho, SeqAt.items_plain (vs := its.toArray) h5 r1 (PyData.plainAll_of_canLay0 _ hxs) (plain_of_shaped sd) hroom, ⟨.int (j : Nat), H, I.tok _, ⟨_, rfl⟩, q⟩⟩
/-- the names of a method -/
def mfName : Mf → PySem.Str
  | .index => "index"
  | .count => "count"
  | .upper => "upper"
  | .join => "join"
def mfOk : Mf → Bool
  | .index => true
  | .count => true
  | _ => false
def mfId (tup : Bool) : Mf → String
  | .index => if tup then "tuple.index" else "list.index"
  | _ => if tup then "tuple.count" else "list.count"
def rMf (K : PySem.W.Frag) (tup : Bool) : Mf → V → List V → Hp → VK → Prop
  | .index => rIdx K tup
  | _ => rCnt K tup
theorem mf_run {m : Mf} (h : mfOk m = true) (hu : X.A.units + 65 < cLine) (tup : Bool) : MtR X (mfId tup m) (rMf X.K tup m) := by
  cases m <;> first | (cases h; done) | skip
  · cases tup
    · exact cr_idxL hu
    · exact cr_idxT hu
  · cases tup
    · exact cr_cntL hu
    · exact cr_cntT hu
def tMf (K : PySem.W.Frag) (m : Mf) (to : TE) (t : TA) : TE := fun σ H Q => to σ H fun x H1 => ∃ (tup : Bool) (p : Addr) (ws : List V), x = .ref p ∧ (if tup = true then TupS K H1 p ws else SqL K H1 p ws) ∧ t σ H1 fun xs H2 => rMf K tup m x xs H2 Q
theorem mf_slot {m : Mf} (h : mfOk m = true) (tup : Bool) : PlainAttrs (if tup then "tuple" else "list") ∧ PySem.Slot (if tup then "tuple" else "list") (mfName m) (mfId tup m) ∧ typeOf (.builtin (mfId tup m)) = pure (.type "method_descriptor") := by
  cases m <;> first | (cases h; done) | skip
  · cases tup
    · exact ⟨PySem.F.plainAttrs_list, PySem.F.slot_list_index, PySem.F.type_list_index⟩
    · exact ⟨PySem.F.plainAttrs_tuple, PySem.F.slot_tuple_index, PySem.F.type_tuple_index⟩
  · cases tup
    · exact ⟨PySem.F.plainAttrs_list, PySem.F.slot_list_count, PySem.F.type_list_count⟩
    · exact ⟨PySem.F.plainAttrs_tuple, PySem.F.slot_tuple_count, PySem.F.type_tuple_count⟩
theorem pe_mf {m : Mf} {o e : Expr} {to : TE} {t : TA} {apos cpos : Pos} (hm : mfOk m = true) (hu : X.A.units + 65 < cLine) (ho : PE X o to) (ha : PA X [e] t)
    (hbase : attributeBase o (mfName m) X.env (eval o X.env) = eval o X.env)
    (hfew : ((backTo cpos (starEach [e] X.env)).all (fun x => !x.1) && (backToKw cpos (keywordEach [] X.env)).all (fun x => x.1.isSome)
      && decide (([e] : List Expr).length + ([] : List Keyword).length + (if ([] : List Keyword).isEmpty then 0 else 1) < 30)) = true)
    (hline : (apos.endLine == cpos.line) = true) (hs : starEach [e] X.env = (false, eval e X.env) :: starEach [] X.env) :
    PE X (.Call (.Attribute o (mfName m) apos) [e] [] cpos) (tMf X.K m to t) := by
  refine ⟨fun pins s σ H Q I h => ?_⟩
  refine wpAny_Call_method_late hbase hfew hline rfl (thn (ho.run pins s σ H _ I h) fun v s1 ⟨x, H1, I1, r1, tup, p, ws, e1, hq, q1⟩ => ?_)
  subst e1
  cases r1
  have hA := ha.run cpos pins s1 σ H1 _ I1 q1
  obtain ⟨a1, a2, a3⟩ := mf_slot hm tup
  have ty : s1.TypeIs (.ref p) (if tup then "tuple" else "list") ∧ ∀ a, Value.ref p = .ref a → ∃ ob, s1.heap.get? a = some ob ∧ ob.dict = none := by
    cases tup with
    | true =>
      rw [if_pos rfl] at hq
      rcases hq.2 with ⟨o, u, h1, h2, h3⟩ | ⟨o, h1, h2, h3⟩
      · obtain ⟨e1, _⟩ := I1.hok p _ h1
        refine ⟨⟨o, e1, h2⟩, fun a e => ?_⟩
        cases e
        exact ⟨o, e1, h3⟩
      · refine ⟨⟨o, I1.kIn p o h1, h2⟩, fun a e => ?_⟩
        cases e
        exact ⟨o, I1.kIn _ o h1, h3⟩
    | false =>
      rw [if_neg (by decide)] at hq
      obtain ⟨its, _, pl, _⟩ := I1.list hq
      refine ⟨pl.isList.typeIs, fun a e => ?_⟩
      cases e
      obtain ⟨o, n, e, c, hd, _⟩ := pl
      exact ⟨o, e, hd⟩
  refine ⟨_, _, a1, a2, a3, ty.1, ty.2, ?_⟩
  rw [hs] at hA ⊢
  refine Calls.callWith_builtin rfl (Calls.evalArgs_plain ?_)
  exact thn hA fun us s2 ⟨vs, H2, I2, r2, q2⟩ => mf_run hm hu tup pins s2 σ H2 (V.ref p) vs (Value.ref p) us Q I2 rfl r2 q2
end
end PV

end
section
set_option Elab.async false
set_option linter.all false
set_option maxRecDepth 100000
set_option maxHeartbeats 1000000
/-! DG: sorted. -/
namespace PV
open PySem PySem.Spec PyProof.Rows L2 SrtO
section
variable {α β : Type} {lt : α → α → Bool}
theorem insG_perm (x : α) : ∀ ys : List α, (insG lt x ys).Perm (x :: ys)
  | [] => List.Perm.refl _
  | y :: ys => by
    unfold insG
    split
    · exact ((insG_perm x ys).cons y).trans (List.Perm.swap x y ys)
    · exact List.Perm.refl _
theorem sortG_perm : ∀ xs : List α, (sortG lt xs).Perm xs
  | [] => List.Perm.refl _
  | x :: xs => (insG_perm x _).trans ((sortG_perm xs).cons x)
theorem srtd_iff {l : List α} : Srtd lt l ↔ l.Pairwise fun x y => lt y x = false := Iff.rfl
theorem insG_srtd (O : Swo lt) (x : α) : ∀ {ys : List α}, Srtd lt ys → Srtd lt (insG lt x ys)
  | [], _ => List.pairwise_singleton _ _
  | y :: ys, h => by
    unfold insG
    obtain ⟨h1, h2⟩ := List.pairwise_cons.mp h
    split
    · rename_i hyx
      refine List.pairwise_cons.mpr ⟨fun z hz => ?_, insG_srtd O x h2⟩
      rcases List.mem_cons.mp ((insG_perm x ys).mem_iff.mp hz) with rfl | hz
      · exact O.asym _ _ hyx
      · exact h1 z hz
    · rename_i hyx
      have hyx : lt y x = false := by simpa using hyx
      refine List.pairwise_cons.mpr ⟨fun z hz => ?_, h⟩
      rcases List.mem_cons.mp hz with rfl | hz
      · exact hyx
      · exact O.tr x y z hyx (h1 z hz)
theorem sortG_srtd (O : Swo lt) : ∀ xs : List α, Srtd lt (sortG lt xs)
  | [] => List.Pairwise.nil
  | x :: xs => insG_srtd O x (sortG_srtd O xs)
theorem insG_cls (O : Swo lt) (x z : α) : ∀ ys : List α, (insG lt x ys).filter (eqv lt z) = (x :: ys).filter (eqv lt z)
  | [] => rfl
  | y :: ys => by
    unfold insG
    split
    · rename_i hyx
      have ih := insG_cls O x z ys
      rw [List.filter_cons, ih, List.filter_cons, List.filter_cons, List.filter_cons]
      by_cases h1 : eqv lt z x = true
      · by_cases h2 : eqv lt z y = true
        · exfalso
          obtain ⟨a1, a2⟩ := eqv_iff.mp h1
          obtain ⟨b1, b2⟩ := eqv_iff.mp h2
          have := O.tr x z y a1 b2
          rw [this] at hyx; cases hyx
        · simp [h1, h2]
      · simp [h1]
    · rfl
theorem sortG_cls (O : Swo lt) (z : α) : ∀ xs : List α, (sortG lt xs).filter (eqv lt z) = xs.filter (eqv lt z)
  | [] => rfl
  | x :: xs => by
    unfold sortG
    rw [insG_cls O, List.filter_cons, List.filter_cons, sortG_cls O z xs]
theorem sortG_stb (O : Swo lt) (xs : List α) : Stb lt (sortG lt xs) xs := ⟨sortG_perm xs, fun z => sortG_cls O z xs⟩
theorem sortG_uniq (O : Swo lt) {xs ys : List α} (h1 : Srtd lt ys) (h2 : Stb lt ys xs) : ys = sortG lt xs :=
  stb_uniq O h1 (sortG_srtd O xs) (h2.trans ⟨(sortG_perm xs).symm, fun z => (sortG_cls O z xs).symm⟩)
theorem insG_map (f : α → β) (lb : β → β → Bool) (x : α) : ∀ ys : List α, (∀ y ∈ ys, lb (f y) (f x) = lt y x) → (insG lt x ys).map f = insG lb (f x) (ys.map f)
  | [], _ => rfl
  | y :: ys, h => by
    unfold insG
    rw [List.map_cons]
    simp only [h y List.mem_cons_self]
    split
    · rw [List.map_cons, insG_map f lb x ys fun z hz => h z (List.mem_cons_of_mem _ hz)]
    · rfl
theorem sortG_map (f : α → β) (lb : β → β → Bool) : ∀ xs : List α, (∀ x ∈ xs, ∀ y ∈ xs, lb (f x) (f y) = lt x y) → (sortG lt xs).map f = sortG lb (xs.map f)
  | [], _ => rfl
  | x :: xs, h => by
    show List.map f (insG lt x (sortG lt xs)) = insG lb (f x) (sortG lb (xs.map f))
    rw [← sortG_map f lb xs fun a ha b hb => h a (List.mem_cons_of_mem _ ha) b (List.mem_cons_of_mem _ hb)]
    exact insG_map f lb x _ fun y hy => h y (List.mem_cons_of_mem _ ((sortG_perm xs).mem_iff.mp hy)) x List.mem_cons_self
end
end PV

end
section
set_option Elab.async false
set_option linter.all false
set_option maxRecDepth 100000
set_option maxHeartbeats 1000000
/-! DO: the order of data. -/
namespace PV
open PySem PySem.Spec PyProof.Rows L2
theorem nat_lex_irrefl : ∀ l : List Nat, ¬ l < l := fun l h => List.lt_irrefl l h
mutual
theorem ltb_tri : ∀ a b : D, D.same a b = true → (D.eqv a b = true ∧ a = b ∧ D.ltb a b = false ∧ D.ltb b a = false) ∨ (D.eqv a b = false ∧ D.eqv b a = false ∧ ((D.ltb a b = true ∧ D.ltb b a = false) ∨ (D.ltb a b = false ∧ D.ltb b a = true)))
  | .int i, .int j, _ => by
    simp only [D.eqv, D.ltb, beq_iff_eq, beq_eq_false_iff_ne, decide_eq_true_eq, decide_eq_false_iff_not, D.int.injEq]
    omega
  | .str x, .str y, _ => by
    simp only [D.eqv, D.ltb, beq_iff_eq, beq_eq_false_iff_ne, decide_eq_true_eq, decide_eq_false_iff_not, D.str.injEq]
    by_cases e : x = y
    · subst e
      exact .inl ⟨rfl, rfl, List.lt_irrefl _, List.lt_irrefl _⟩
    · refine .inr ⟨e, fun q => e q.symm, ?_⟩
      have ne : x.cps.toList ≠ y.cps.toList := fun q => e (by
        cases x; cases y
        simp only at q
        congr 1
        exact Array.ext' q)
      rcases Decidable.em (x.cps.toList < y.cps.toList) with h | h
      · exact .inl ⟨h, List.lt_asymm h⟩
      · refine .inr ⟨h, ?_⟩
        rcases List.le_iff_lt_or_eq.mp (List.not_lt.mp h) with q | q
        · exact q
        · exact absurd q.symm ne
  | .tup xs, .tup ys, h => by
    have := ltbL_tri xs ys h
    simp only [D.eqv, D.ltb, D.tup.injEq]
    exact this
theorem ltbL_tri : ∀ a b : List D, D.sameL a b = true → (D.eqvL a b = true ∧ a = b ∧ D.ltbL a b = false ∧ D.ltbL b a = false) ∨ (D.eqvL a b = false ∧ D.eqvL b a = false ∧ ((D.ltbL a b = true ∧ D.ltbL b a = false) ∨ (D.ltbL a b = false ∧ D.ltbL b a = true)))
  | [], [], _ => .inl ⟨rfl, rfl, rfl, rfl⟩
  | [], _ :: _, _ => .inr ⟨rfl, rfl, .inl ⟨rfl, rfl⟩⟩
  | _ :: _, [], _ => .inr ⟨rfl, rfl, .inr ⟨rfl, rfl⟩⟩
  | x :: xs, y :: ys, h => by
    simp only [D.sameL, Bool.and_eq_true] at h
    simp only [D.eqvL, D.ltbL]
    rcases ltb_tri x y h.1 with ⟨e1, e2, e3, e4⟩ | ⟨e1, e2, e3⟩
    · subst e2
      rcases ltbL_tri xs ys h.2 with ⟨f1, f2, f3, f4⟩ | ⟨f1, f2, f3⟩
      · subst f2
        left; simp [e1, f1, f3]
      · right; simp only [e1, f1, f2, Bool.and_false, if_true, true_and]; exact f3
    · right
      simp only [e1, e2, Bool.false_and, Bool.false_eq_true, if_false, true_and]
      exact e3
end
mutual
theorem ltb_trans : ∀ a b c : D, D.same a b = true → D.same b c = true → D.same a c = true → D.ltb a b = true → D.ltb b c = true → D.ltb a c = true
  | .int i, .int j, .int k, _, _, _, h1, h2 => by
    simp only [D.ltb, decide_eq_true_eq] at *
    omega
  | .str x, .str y, .str z, _, _, _, h1, h2 => by
    simp only [D.ltb, decide_eq_true_eq] at *
    exact List.lt_trans h1 h2
  | .tup xs, .tup ys, .tup zs, h1, h2, h3, h4, h5 => by
    simp only [D.ltb] at *
    exact ltbL_trans xs ys zs h1 h2 h3 h4 h5
theorem ltbL_trans : ∀ a b c : List D, D.sameL a b = true → D.sameL b c = true → D.sameL a c = true → D.ltbL a b = true → D.ltbL b c = true → D.ltbL a c = true
  | [], [], _, _, _, _, h, _ => by cases h
  | [], _ :: _, [], _, _, _, _, h => by cases h
  | [], _ :: _, _ :: _, _, _, _, _, _ => rfl
  | _ :: _, [], _, _, _, _, h, _ => by cases h
  | _ :: _, _ :: _, [], _, _, _, _, h => by cases h
  | x :: xs, y :: ys, z :: zs, h1, h2, h3, h4, h5 => by
    simp only [D.sameL, Bool.and_eq_true] at h1 h2 h3
    simp only [D.ltbL] at h4 h5 ⊢
    rcases ltb_tri x y h1.1 with ⟨e1, e2, e3, e4⟩ | ⟨e1, e2, e3⟩
    · subst e2
      rw [e1] at h4
      split at h5
      · rename_i q
        rw [if_pos q]
        exact ltbL_trans xs ys zs h1.2 h2.2 h3.2 (by simpa using h4) h5
      · rename_i q
        rw [if_neg q]; exact h5
    · rw [e1] at h4
      have h4 : D.ltb x y = true := by simpa using h4
      rcases ltb_tri y z h2.1 with ⟨f1, f2, f3, f4⟩ | ⟨f1, f2, f3⟩
      · subst f2
        rw [e1]; simpa using h4
      · rw [f1] at h5
        have h5 : D.ltb y z = true := by simpa using h5
        have h6 := ltb_trans x y z h1.1 h2.1 h3.1 h4 h5
        rcases ltb_tri x z h3.1 with ⟨k1, k2, k3, k4⟩ | ⟨k1, k2, k3⟩
        · rw [k3] at h6; cases h6
        · rw [k1]; simpa using h6
end
mutual
theorem same_symm : ∀ a b : D, D.same a b = true → D.same b a = true
  | .int _, .int _, _ => rfl
  | .str _, .str _, h => by simp only [D.same, Bool.and_eq_true] at *; exact ⟨h.2, h.1⟩
  | .tup xs, .tup ys, h => by simp only [D.same] at *; exact sameL_symm xs ys h
theorem sameL_symm : ∀ a b : List D, D.sameL a b = true → D.sameL b a = true
  | [], [], _ => rfl
  | [], _ :: _, _ => rfl
  | _ :: _, [], _ => rfl
  | x :: xs, y :: ys, h => by
    simp only [D.sameL, Bool.and_eq_true] at *
    exact ⟨same_symm x y h.1, sameL_symm xs ys h.2⟩
end
end PV

end
section
set_option Elab.async false
set_option linter.all false
set_option maxRecDepth 100000
set_option maxHeartbeats 1000000
/-! DS: sorted, of any data of one kind. -/
namespace PV
open PySem PySem.Spec PyProof.Rows L2 SrtO PySem.SeqAt Ob
mutual
/-- a value that reads as ints, texts, tuples of such -/
inductive Tv (h : Heap) : Value → D → Prop
  | int (i : Int) (t : Tok) : Tv h (.int i t) (.int i)
  | str (x : Str) (t : Tok) : Tv h (.str x t) (.str x)
  | tup {a : Addr} {o : Obj} {its : Array Value} {n : Nat} {ds : List D} : h.get? a = some o → o.cls = .type "tuple" → o.data = .seq its n → TvL h its.toList ds → Tv h (.ref a) (.tup ds)
inductive TvL (h : Heap) : List Value → List D → Prop
  | nil : TvL h [] []
  | cons {u : Value} {us : List Value} {d : D} {ds : List D} : Tv h u d → TvL h us ds → TvL h (u :: us) (d :: ds)
end
section
variable {h h' : Heap}
mutual
theorem Tv.keep (k : ∀ a o, h.get? a = some o → o.cls = .type "tuple" → h'.get? a = some o) : ∀ {d : D} {u : Value}, Tv h u d → Tv h' u d
  | .int _, _, x => by cases x; exact .int _ _
  | .str _, _, x => by cases x; exact .str _ _
  | .tup _, _, x => by
    cases x with
    | tup h1 h2 h3 h4 => exact .tup (k _ _ h1 h2) h2 h3 (TvL.keep k h4)
theorem TvL.keep (k : ∀ a o, h.get? a = some o → o.cls = .type "tuple" → h'.get? a = some o) : ∀ {ds : List D} {us : List Value}, TvL h us ds → TvL h' us ds
  | [], _, x => by cases x; exact .nil
  | _ :: _, _, x => by
    cases x with
    | cons h1 h2 => exact .cons (Tv.keep k h1) (TvL.keep k h2)
end
mutual
theorem Tv.fn : ∀ {d e : D} {u : Value}, Tv h u d → Tv h u e → d = e
  | .int _, _, _, x, y => by cases x; cases y; rfl
  | .str _, _, _, x, y => by cases x; cases y; rfl
  | .tup _, _, _, x, y => by
    cases x with
    | tup h1 h2 h3 h4 =>
      cases y with
      | tup k1 k2 k3 k4 =>
        rw [h1] at k1; cases k1
        rw [h3] at k3; cases k3
        rw [TvL.fn h4 k4]
theorem TvL.fn : ∀ {ds es : List D} {us : List Value}, TvL h us ds → TvL h us es → ds = es
  | [], _, _, x, y => by cases x; cases y; rfl
  | _ :: _, _, _, x, y => by
    cases x with
    | cons h1 h2 =>
      cases y with
      | cons k1 k2 => rw [Tv.fn h1 k1, TvL.fn h2 k2]
end
mutual
theorem Tv.reads : ∀ {d : D} {u : Value}, Tv h u d → ∃ as, Reads h u d.py as
  | .int _, _, x => by cases x; exact ⟨_, .int _ _⟩
  | .str _, _, x => by cases x; exact ⟨_, .str _ _⟩
  | .tup _, _, x => by
    cases x with
    | tup h1 h2 h3 h4 =>
      obtain ⟨as, r⟩ := TvL.reads h4
      exact ⟨_, .tuple h1 h2 h3 r⟩
theorem TvL.reads : ∀ {ds : List D} {us : List Value}, TvL h us ds → ∃ as, ReadsAll h us (D.pyL ds) as
  | [], _, x => by cases x; exact ⟨_, .nil⟩
  | _ :: _, _, x => by
    cases x with
    | cons h1 h2 =>
      obtain ⟨as, r⟩ := Tv.reads h1
      obtain ⟨bs, r2⟩ := TvL.reads h2
      exact ⟨_, .cons r r2⟩
end
theorem TvL.length : ∀ {ds : List D} {us : List Value}, TvL h us ds → us.length = ds.length
  | [], _, x => by cases x; rfl
  | _ :: _, _, x => by
    cases x with
    | cons h1 h2 => simp [TvL.length h2]
theorem TvL.get : ∀ {ds : List D} {us : List Value}, TvL h us ds → ∀ (j : Nat) (hj : j < us.length), ∃ d, ds[j]? = some d ∧ Tv h us[j] d
  | [], _, x, j, hj => by cases x; exact absurd hj (Nat.not_lt_zero _)
  | _ :: _, _, x, j, hj => by
    cases x with
    | cons h1 h2 =>
      cases j with
      | zero => exact ⟨_, rfl, h1⟩
      | succ j => obtain ⟨d, e, t⟩ := TvL.get h2 j (by simpa using hj); exact ⟨d, by simpa using e, by simpa using t⟩
theorem TvL.mem : ∀ {ds : List D} {us : List Value}, TvL h us ds → ∀ u ∈ us, ∃ d ∈ ds, Tv h u d
  | [], _, x, u, hu => by cases x; exact absurd hu (by simp)
  | d :: ds, _, x, u, hu => by
    cases x with
    | cons h1 h2 =>
      rcases List.mem_cons.mp hu with rfl | hu
      · exact ⟨d, List.mem_cons_self, h1⟩
      · obtain ⟨e, he, t⟩ := TvL.mem h2 u hu
        exact ⟨e, List.mem_cons_of_mem _ he, t⟩
end
theorem eqAt_tv {A : Around} {s : Shared} {u1 u2 : Value} {d1 d2 : D} (t1 : Tv s.heap u1 d1) (t2 : Tv s.heap u2 d2) (p1 : d1.pl = true) (p2 : d2.pl = true) (hu : A.units + d1.dep < cLine) : SeqAt.EqAt A s u1 u2 (D.eqv d1 d2) := by
  obtain ⟨as, r1⟩ := t1.reads
  obtain ⟨bs, r2⟩ := t2.reads
  rw [← eqv_py d1 d2 p1 p2]
  refine SeqAt.eqAt_reads _ _ A s u1 u2 as bs r1 r2 (lay_py _ p1) (lay_py _ p2) ?_
  rw [dep_py, dep_py]
  have : min d1.dep d2.dep ≤ d1.dep := Nat.min_le_left _ _
  omega
theorem plL_get : ∀ {ds : List D}, D.plL ds = true → ∀ {j : Nat} {d : D}, ds[j]? = some d → d.pl = true := fun h j d e => plL_mem h d (List.mem_of_getElem? e)
theorem depL_get : ∀ {ds : List D} {j : Nat} {d : D}, ds[j]? = some d → d.dep ≤ D.depL ds
  | [], _, _, e => by simp at e
  | x :: xs, 0, d, e => by
    simp at e; subst e
    show x.dep ≤ max x.dep (D.depL xs)
    omega
  | x :: xs, j + 1, d, e => by
    have := depL_get (ds := xs) (j := j) (d := d) (by simpa using e)
    show d.dep ≤ max x.dep (D.depL xs)
    omega
def pe (f : D → D → Bool) (xs ys : List D) (j : Nat) : Bool := match xs[j]?, ys[j]? with
  | some a, some b => f a b
  | _, _ => false
theorem lexAt_lt : ∀ (xs ys : List D) (e r : Nat → Bool) (i : Nat), (∀ j, j < min xs.length ys.length → e (i + j) = pe D.eqv xs ys j ∧ r (i + j) = pe D.ltb xs ys j) → lexAt e r (decide (xs.length < ys.length)) i (min xs.length ys.length) = D.ltbL xs ys
  | [], [], e, r, i, h => by simp [lexAt_zero, D.ltbL]
  | [], y :: ys, e, r, i, h => by simp [lexAt_zero, D.ltbL]
  | x :: xs, [], e, r, i, h => by simp [lexAt_zero, D.ltbL]
  | x :: xs, y :: ys, e, r, i, h => by
    have h0 := h 0 (by simp)
    have hm : min (x :: xs).length (y :: ys).length = min xs.length ys.length + 1 := by simp
    rw [hm, lexAt_succ]
    simp only [Nat.add_zero] at h0
    rw [h0.1, h0.2]
    show (if D.eqv x y = true then _ else D.ltb x y) = if D.eqv x y then D.ltbL xs ys else D.ltb x y
    have ih := lexAt_lt xs ys e r (i + 1) fun j hj => by
      have := h (j + 1) (by simp; omega)
      rw [show i + (j + 1) = i + 1 + j by omega] at this
      exact this
    have e1 : decide ((x :: xs).length < (y :: ys).length) = decide (xs.length < ys.length) := by simp
    rw [e1, ih]
theorem sameL_get : ∀ {xs ys : List D} {j : Nat} {a b : D}, D.sameL xs ys = true → xs[j]? = some a → ys[j]? = some b → D.same a b = true
  | [], _, _, _, _, _, e, _ => by simp at e
  | _ :: _, [], _, _, _, _, _, e => by simp at e
  | x :: xs, y :: ys, 0, a, b, h, e1, e2 => by
    simp only [D.sameL, Bool.and_eq_true] at h
    simp at e1 e2; subst e1 e2; exact h.1
  | x :: xs, y :: ys, j + 1, a, b, h, e1, e2 => by
    simp only [D.sameL, Bool.and_eq_true] at h
    exact sameL_get h.2 (by simpa using e1) (by simpa using e2)
/-- u1 < u2 -/
theorem lt_tv : ∀ (n : Nat) {A : Around} {s : Shared} {u1 u2 : Value} {d1 d2 : D}, d1.dep ≤ n → Tv s.heap u1 d1 → Tv s.heap u2 d2 → d1.pl = true → d2.pl = true → D.same d1 d2 = true → A.units + n + 2 < cLine → Ob.RcOp .Lt A s u1 u2 (D.ltb d1 d2) := by
  intro n
  induction n with
  | zero =>
    intro A s u1 u2 d1 d2 hn t1 t2 p1 p2 sm hu
    cases t1 with
    | int i t =>
      cases t2 with
      | int j t' => exact Ob.RcOp.lt_int i j t t'
      | _ => cases sm
    | str x t =>
      cases t2 with
      | str y t' => exact fun prog w E Q hq => PyProof.Rows.lt_str hq
      | _ => cases sm
    | tup _ _ _ _ => exact absurd hn (Nat.not_succ_le_zero _)
  | succ n ih =>
    intro A s u1 u2 d1 d2 hn t1 t2 p1 p2 sm hu
    cases t1 with
    | int i t =>
      cases t2 with
      | int j t' => exact Ob.RcOp.lt_int i j t t'
      | _ => cases sm
    | str x t =>
      cases t2 with
      | str y t' => exact fun prog w E Q hq => PyProof.Rows.lt_str hq
      | _ => cases sm
    | @tup a o its k ds h1 h2 h3 h4 =>
      cases t2 with
      | @tup b o2 its2 k2 es g1 g2 g3 g4 =>
        have hd : D.depL ds ≤ n := by
          have : D.depL ds + 1 ≤ n + 1 := hn
          omega
        have l1 : its.size = ds.length := by simpa using h4.length
        have l2 : its2.size = es.length := by simpa using g4.length
        have key := Ob.RcOp.tuples_lt (A := A) (s := s) (l := a) (b := b) (items := its) (items2 := its2) (e := pe D.eqv ds es) (r := pe D.ltb ds es) ⟨o, h1, h2, k, h3⟩ ⟨o2, g1, g2, k2, g3⟩ (by omega)
          (fun j q1 q2 => by
            obtain ⟨d, e1, td⟩ := h4.get j (by simpa using q1)
            obtain ⟨d', e2, td'⟩ := g4.get j (by simpa using q2)
            simp only [pe, e1, e2]
            have := depL_get e1
            exact eqAt_tv (by simpa using td) (by simpa using td') (plL_get p1 e1) (plL_get p2 e2) (by show A.units + 1 + d.dep < _; omega))
          (fun j q1 q2 _ => by
            obtain ⟨d, e1, td⟩ := h4.get j (by simpa using q1)
            obtain ⟨d', e2, td'⟩ := g4.get j (by simpa using q2)
            simp only [pe, e1, e2]
            have := depL_get e1
            exact ih (by omega) (by simpa using td) (by simpa using td') (plL_get p1 e1) (plL_get p2 e2) (sameL_get sm e1 e2) (by show A.units + 1 + n + 2 < _; omega))
        rw [l1, l2, lexAt_lt ds es _ _ 0 fun j _ => by simp] at key
        exact key
      | _ => cases sm
/-! ### the keys of a sort -/
section
variable {prog : Program} {w : World} {A : Around} {s : Shared}
def isTup : D → Bool | .tup _ => true | _ => false
theorem oneLt_tv {c : Bool} {u1 u2 : Value} {d1 d2 : D} {Q : Bool → Shared → Prop} (t1 : Tv s.heap u1 d1) (t2 : Tv s.heap u2 d2) (p1 : d1.pl = true) (p2 : d2.pl = true) (sm : D.same d1 d2 = true) (hd : d1.dep ≤ 16) (hu : A.units + 18 < cLine)
    (h : Q (D.ltb d1 d2) s) : wpAny (model prog w) A (oneLt' c u1 u2) Q (fun _ _ => False) s := by
  cases c with
  | false => exact PySem.W.kat_one _ _ (lt_tv 16 hd t1 t2 p1 p2 sm (by omega) prog w _ (PySem.W.BoolBack Q) h)
  | true =>
    cases t1 with
    | int i t =>
      cases t2 with
      | int j t' => exact oneLt_int h
      | _ => cases sm
    | str x t =>
      cases t2 with
      | str y t' => exact oneLt_str h
      | _ => cases sm
    | @tup a o its k ds h1 h2 h3 h4 =>
      cases t2 with
      | @tup b o2 its2 k2 es g1 g2 g3 g4 =>
        have hd' : D.depL ds ≤ 15 := by
          have : D.depL ds + 1 ≤ 16 := hd
          omega
        have l1 : its.size = ds.length := by simpa using h4.length
        have l2 : its2.size = es.length := by simpa using g4.length
        obtain ⟨cls, dd, data, sl⟩ := o
        obtain ⟨cls2, dd2, data2, sl2⟩ := o2
        simp only at h2 h3 g2 g3
        subst h2 h3 g2 g3
        rw [oneLt'_eq]
        simp only [if_true]
        refine wpAny_bind (wpAny_cRoomFor (by omega) ?_)
        refine wpAny_bind (wpAny_callSpecialIfBound?_slot (T := "tuple") (id := "tuple.__lt__") ⟨_, h1, rfl⟩ PySem.F.slot_tuple_lt (call_meets PySem.F.slot_tuple_lt ⟨_, h1, rfl⟩ PySem.F.entry_tuple_lt (PySem.F.args_tuple_lt_2 _ _) (Ob.tuple_ltAt a b its its2 k k2 dd dd2 sl sl2 (pe D.eqv ds es) (pe D.ltb ds es))
          ⟨h1, g1, (fun j q1 q2 => by
            obtain ⟨d, e1, td⟩ := h4.get j (by simpa using q1)
            obtain ⟨d', e2, td'⟩ := g4.get j (by simpa using q2)
            simp only [pe, e1, e2]
            have := depL_get e1
            exact eqAt_tv (by simpa using td) (by simpa using td') (plL_get p1 e1) (plL_get p2 e2) (by show A.units + 1 + d.dep < _; omega)),
          (fun j q1 q2 _ => by
            obtain ⟨d, e1, td⟩ := h4.get j (by simpa using q1)
            obtain ⟨d', e2, td'⟩ := g4.get j (by simpa using q2)
            simp only [pe, e1, e2]
            have := depL_get e1
            exact lt_tv 15 (by omega) (by simpa using td) (by simpa using td') (plL_get p1 e1) (plL_get p2 e2) (sameL_get sm e1 e2) (by show A.units + 1 + 15 + 2 < _; omega)), ?_⟩))
        rw [l1, l2, lexAt_lt ds es _ _ 0 fun j _ => by simp]
        exact wpAny_truthy_bool h
      | _ => cases sm
theorem katLex_tv {c fin : Bool} {Q : Bool → Shared → Prop} (hu : A.units + 18 < cLine) : ∀ (xs ys : List D) (us ws : List Value) (i : Nat), TvL s.heap us xs → TvL s.heap ws ys → D.plL xs = true → D.plL ys = true → D.sameL xs ys = true → D.depL xs ≤ 16 →
    (c = true → i = 0 → ∀ x, xs[0]? = some x → isTup x = false) → fin = decide (xs.length < ys.length) → Q (D.ltbL xs ys) s → PySem.W.KatLex prog w A c fin Q (us.zip ws) i s
  | [], ys, us, ws, i, t1, t2, _, _, _, _, _, hf, h => by
    cases t1
    refine PySem.W.kat_nil ?_
    cases ys <;> (subst hf; simpa [D.ltbL] using h)
  | x :: xs, [], us, ws, i, t1, t2, _, _, _, _, _, hf, h => by
    cases t2
    rw [List.zip_nil_right]
    refine PySem.W.kat_nil ?_
    subst hf; simpa [D.ltbL] using h
  | x :: xs, y :: ys, _, _, i, t1, t2, p1, p2, sm, hd, hc, hf, h => by
    cases t1 with
    | cons a1 a2 =>
      cases t2 with
      | cons b1 b2 =>
        simp only [D.plL, D.sameL, Bool.and_eq_true] at p1 p2 sm
        have hd1 : x.dep ≤ 16 ∧ D.depL xs ≤ 16 := by
          have : max x.dep (D.depL xs) ≤ 16 := hd
          omega
        refine PySem.W.kat_cons (eqAt_tv a1 b1 p1.1 p2.1 (by omega) prog w _ _ ?_)
        refine PySem.W.kat_go (fun e1 => ?_) (fun e1 => ?_)
        · refine PySem.W.kat_yes (katLex_tv hu xs ys _ _ (i + 1) a2 b2 p1.2 p2.2 sm.2 hd1.2 (fun _ e => by omega) (by rw [hf]; simp) ?_)
          simp only [D.ltbL, e1, if_true] at h
          exact h
        · refine PySem.W.kat_no (oneLt_tv a1 b1 p1.1 p2.1 sm.1 hd1.1 hu ?_)
          · simp only [D.ltbL, e1, Bool.false_eq_true, if_false] at h
            exact h
end
end PV

end
section
set_option Elab.async false
set_option linter.all false
set_option maxRecDepth 100000
set_option maxHeartbeats 1000000
/-! DT: sorted, as a rule. -/
namespace PV
open PySem PySem.Spec PyProof.Rows L2 SrtO PySem.SeqAt Ob
theorem allSame_mem {ds : List D} (h : allSame ds = true) : ∀ x ∈ ds, True ∧ x.pl = true ∧ x.dep ≤ 16 ∧ ∀ y ∈ ds, x.same y = true := by
  intro x hx
  unfold allSame at h
  have h1 := List.all_eq_true.mp h x hx
  simp only [Bool.and_eq_true, decide_eq_true_eq, D.cmpb] at h1
  exact ⟨trivial, h1.1.1.1, h1.1.2, fun y hy => List.all_eq_true.mp h1.2 y hy⟩
open Classical in
noncomputable def lts (ds : List D) (a b : D) : Bool := if a ∈ ds then (if b ∈ ds then D.ltb a b else false) else decide (b ∈ ds)
theorem lts_in {ds : List D} {a b : D} (ha : a ∈ ds) (hb : b ∈ ds) : lts ds a b = D.ltb a b := by unfold lts; rw [if_pos ha, if_pos hb]
theorem lts_swo {ds : List D} (h : allSame ds = true) : Swo (lts ds) := by
  refine ⟨fun x y h1 => ?_, fun x y z h1 h2 => ?_⟩
  · unfold lts at h1 ⊢
    by_cases hx : x ∈ ds
    · by_cases hy : y ∈ ds
      · rw [if_pos hx, if_pos hy] at h1
        rw [if_pos hy, if_pos hx]
        rcases ltb_tri x y ((allSame_mem h x hx).2.2.2 y hy) with ⟨_, _, q, _⟩ | ⟨_, _, ⟨_, q⟩ | ⟨q, _⟩⟩
        · rw [q] at h1; cases h1
        · exact q
        · rw [q] at h1; cases h1
      · rw [if_pos hx, if_neg hy] at h1; cases h1
    · by_cases hy : y ∈ ds
      · rw [if_pos hy, if_neg hx]
      · rw [if_neg hx] at h1
        simp [hy] at h1
  · by_cases hz : z ∈ ds
    · by_cases hx : x ∈ ds
      · by_cases hy : y ∈ ds
        · rw [lts_in hy hx] at h1
          rw [lts_in hz hy] at h2
          rw [lts_in hz hx]
          have s1 := (allSame_mem h x hx).2.2.2 y hy
          have s2 := (allSame_mem h y hy).2.2.2 z hz
          have s3 := (allSame_mem h x hx).2.2.2 z hz
          rcases ltb_tri x y s1 with ⟨_, e, _, _⟩ | ⟨_, _, ⟨q, _⟩ | ⟨_, q⟩⟩
          · subst e; exact h2
          · rcases ltb_tri y z s2 with ⟨_, e, _, _⟩ | ⟨_, _, ⟨q', _⟩ | ⟨_, q'⟩⟩
            · subst e; exact h1
            · have := ltb_trans x y z s1 s2 s3 q q'
              rcases ltb_tri x z s3 with ⟨_, _, k, k'⟩ | ⟨_, _, ⟨_, k⟩ | ⟨k, _⟩⟩
              · exact k'
              · exact k
              · rw [this] at k; cases k
            · rw [q'] at h2; cases h2
          · rw [q] at h1; cases h1
        · unfold lts at h1; rw [if_neg hy] at h1; simp [hx] at h1
      · unfold lts; rw [if_pos hz, if_neg hx]
    · by_cases hx : x ∈ ds
      · by_cases hy : y ∈ ds
        · unfold lts at h2; rw [if_neg hz] at h2; simp [hy] at h2
        · unfold lts at h1; rw [if_neg hy] at h1; simp [hx] at h1
      · unfold lts; rw [if_neg hz]; simp [hx]
open Classical in
noncomputable def dOf (h : Heap) (u : Value) : D := if e : ∃ d, Tv h u d then e.choose else .non
theorem dOf_eq {h : Heap} {u : Value} {d : D} (t : Tv h u d) : dOf h u = d := by
  unfold dOf
  rw [dif_pos ⟨d, t⟩]
  exact Tv.fn (Exists.choose_spec (⟨d, t⟩ : ∃ d, Tv h u d)) t
theorem dOf_map {h : Heap} : ∀ {us : List Value} {ds : List D}, TvL h us ds → us.map (dOf h) = ds
  | _, [], t => by cases t; rfl
  | _, _ :: _, t => by
    cases t with
    | cons t1 t2 => rw [List.map_cons, dOf_eq t1, dOf_map t2]
theorem swo_map {α β : Type} {lt : β → β → Bool} (O : Swo lt) (f : α → β) : Swo fun x y => lt (f x) (f y) := ⟨fun x y => O.asym _ _, fun x y z => O.tr _ _ _⟩
section
variable {prog : Program} {w : World} {A : Around} {s : Shared}
theorem firsts_tv {h : Heap} {T : D → Bool} : ∀ {us : List Value} {ds : List D}, TvL h us ds → (∀ d ∈ ds, ∃ x xs, d = .tup (x :: xs) ∧ T x = true) → ∃ fs : List Value, PySem.W.KatTups h us fs ∧ fs.length = us.length ∧ ∀ f ∈ fs, ∃ x, Tv h f x ∧ T x = true
  | _, [], t, _ => by cases t; exact ⟨[], PySem.W.KatTups.nil, rfl, fun _ hm => by simp at hm⟩
  | _, d :: ds, t, hd => by
    cases t with
    | cons t1 t2 =>
      obtain ⟨fs, k, l, m⟩ := firsts_tv t2 fun e he => hd e (List.mem_cons_of_mem _ he)
      obtain ⟨x, xs, rfl, hx⟩ := hd d List.mem_cons_self
      cases t1 with
      | @tup a o its n _ h1 h2 h3 h4 =>
        cases e : its.toList with
        | nil => rw [e] at h4; cases h4
        | cons f r =>
          rw [e] at h4
          cases h4 with
          | cons f1 f2 =>
            refine ⟨f :: fs, PySem.W.KatTups.cons h1 h2 h3 ?_ k, by simp [l], fun z hz => ?_⟩
            · rw [← Array.getElem?_toList, e]; rfl
            · rcases List.mem_cons.mp hz with rfl | hz
              · exact ⟨x, f1, hx⟩
              · exact m z hz
theorem looks_tv {M : Model} {u : Value} {d : D} (t : Tv s.heap u d) : PySem.W.Looks M s.heap (typeOf u) (match d with | .int _ => .type "int" | .str _ => .type "str" | _ => .type "tuple") := by
  cases t with
  | int i t => exact PySem.W.Looks.now
  | str x t => exact PySem.W.Looks.now
  | @tup a o its n _ h1 h2 h3 h4 =>
    have : PySem.W.Looks M s.heap (typeOf (.ref a)) o.cls := (PySem.W.Looks.ld h1).andThen .now
    rw [h2] at this
    exact this
theorem firsts_mix : ∀ {us : List Value} {ds : List D} {M : Model} {E : Value → Shared → Prop} {Q : List (Option Value) → Shared → Prop}, TvL s.heap us ds → (∀ d ∈ ds, isTup d = true) → (∀ fs : List (Option Value), fs.map Option.isSome = ds.map notNil → Q fs s) → wpAny M A (us.mapM firstOfTuple') Q E s
  | us, [], M, E, Q, t, _, h => by
    cases t
    rw [List.mapM_nil]
    exact wpAny_pure (h [] rfl)
  | us, d :: ds, M, E, Q, t, ht, h => by
    cases t with
    | @cons u us _ _ t1 t2 =>
      have h0 := ht d List.mem_cons_self
      cases t1 with
      | int _ _ => cases h0
      | str _ _ => cases h0
      | @tup a o its n xs h1 h2 h3 h4 =>
        rw [List.mapM_cons]
        refine wpAny_bind ?_
        rw [PySem.W.kas_first_eq]
        refine wpAny_bind (PySem.W.Looks.here (show PySem.W.Looks M s.heap (typeOf (.ref a)) o.cls from (PySem.W.Looks.ld h1).andThen .now) ?_)
        rw [h2, if_neg (by first | decide | simp)]
        refine wpAny_bind (listItems_at h1 h3 (wpAny_pure ?_))
        refine wpAny_bind (firsts_mix (Q := fun bs s' => wpAny M A (pure (its[0]? :: bs)) Q E s') t2 (fun e he => ht e (List.mem_cons_of_mem _ he)) fun fs hf => wpAny_pure (h _ ?_))
        rw [List.map_cons, List.map_cons, hf]
        congr 1
        have l := h4.length
        rw [Array.length_toList] at l
        cases xs with
        | nil =>
          have : its[0]? = none := by
            rw [Array.getElem?_eq_none_iff, l]; exact Nat.le_refl _
          rw [this]; rfl
        | cons x xs =>
          have hl : 0 < its.size := by rw [l]; exact Nat.succ_pos _
          rw [Array.getElem?_eq_getElem hl]; rfl
theorem kind_mix {us : List Value} {ds : List D} (h2 : 2 ≤ us.length) (t : TvL s.heap us ds) (ht : ∀ d ∈ ds, isTup d = true) (hn : ¬ ∀ d ∈ ds, notNil d = true) :
    ∃ κ, (∀ (Q : SortKind → Shared → Prop) (E : Value → Shared → Prop), Q κ s → wpAny (model prog w) A (keyKind' us.toArray) Q E s) ∧ ∃ c, ∀ x y, keyLt' κ x y = oneLt' c x y := by
  match ds, t, ht, hn, t.length with
  | [], t, ht, hn, l => exact absurd h2 (by rw [l]; simp)
  | d :: es, t, ht, hn, l =>
    have noall : ∀ fs : List (Option Value), fs.map Option.isSome = (d :: es).map notNil → (fs.toArray.all fun x => x.isSome) = false := by
      intro fs hf
      rw [Bool.eq_false_iff]
      intro ha
      apply hn
      intro e he
      rw [List.all_toArray] at ha
      have h1 : (fs.map Option.isSome).all id = true := by
        rw [List.all_map]; exact ha
      rw [hf, List.all_map] at h1
      exact List.all_eq_true.mp h1 e he
    have first : ∀ fs : List (Option Value), fs.map Option.isSome = (d :: es).map notNil → (fs.toArray[0]?.bind id).isSome = notNil d := by
      intro fs hf
      cases fs with
      | nil => cases hf
      | cons f fs =>
        rw [List.map_cons, List.map_cons, List.cons.injEq] at hf
        rw [← hf.1]
        rfl
    by_cases h0 : notNil d = true
    · refine ⟨general', fun Q E hq => ?_, false, fun x y => rfl⟩
      rw [kat_kind_eq, List.mapM_toArray, map_eq_pure_bind]
      refine wpAny_bind (wpAny_bind (firsts_mix t ht fun fs hf => wpAny_pure ?_))
      rw [if_neg (by rw [noall fs hf]; exact Bool.false_ne_true), if_pos (by rw [first fs hf]; exact h0)]
      exact wpAny_pure hq
    · refine ⟨oneType', fun Q E hq => ?_, true, fun x y => rfl⟩
      rw [kat_kind_eq, List.mapM_toArray, map_eq_pure_bind]
      refine wpAny_bind (wpAny_bind (firsts_mix t ht fun fs hf => wpAny_pure ?_))
      rw [if_neg (by rw [noall fs hf]; exact Bool.false_ne_true), if_neg (by rw [first fs hf]; exact h0)]
      rw [oneTypeOnly'_eq, List.mapM_toArray, map_eq_pure_bind]
      obtain ⟨u₁, us', rfl⟩ : ∃ u₁ us', us = u₁ :: us' := by
        match us, h2 with
        | u₁ :: us', _ => exact ⟨u₁, us', rfl⟩
      refine wpAny_bind (wpAny_bind (wpAny_bind (PySem.W.kas_mapM (r := Value.type "tuple") _ (fun v hv Q' hq => ?_) (wpAny_pure ?_))))
      · obtain ⟨e, me, te⟩ := t.mem v hv
        have h1 := ht e me
        have hl := looks_tv (M := model prog w) te
        cases e <;> first | exact hl.here hq | cases h1
      · have hall : ((List.map (fun _ => Value.type "tuple") (u₁ :: us')).toArray.all fun x => x == Value.type "tuple") = true := by
          simp only [List.all_toArray, List.all_map, List.all_eq_true]
          intro _ _
          exact (by decide +kernel : (Value.type "tuple" == Value.type "tuple") = true)
        have h0 : (List.map (fun _ => Value.type "tuple") (u₁ :: us')).toArray[0]? = some (Value.type "tuple") := by simp
        rw [h0]
        simp only [hall, if_true]
        exact wpAny_pure (wpAny_pure hq)
theorem sort_kind {us : List Value} {ds : List D} (h2 : 2 ≤ us.length) (t : TvL s.heap us ds) (hs : allSame ds = true) (hu : A.units + 18 < cLine) :
    ∃ κ, (∀ (Q : SortKind → Shared → Prop) (E : Value → Shared → Prop), Q κ s → wpAny (model prog w) A (keyKind' us.toArray) Q E s) ∧ Cmp prog w A s κ (fun p => p.1 ∈ us) (lt2 fun x y => lts ds (dOf s.heap x) (dOf s.heap y)) := by
  have hm := allSame_mem hs
  have l := t.length
  match ds, t, hs, hm, l with
  | [], t, _, _, l => exact absurd h2 (by rw [l]; simp)
  | d :: es, t, hs, hm, l =>
    have one : ∀ T : Value, (T != Value.type "tuple") = true → (T == T) = true → (∀ u ∈ us, PySem.W.Looks (model prog w) s.heap (typeOf u) T) → isTup d = false → ∃ κ, (∀ (Q : SortKind → Shared → Prop) (E : Value → Shared → Prop), Q κ s → wpAny (model prog w) A (keyKind' us.toArray) Q E s) ∧ Cmp prog w A s κ (fun p => p.1 ∈ us) (lt2 fun x y => lts (d :: es) (dOf s.heap x) (dOf s.heap y)) := by
      intro T hT1 hT2 hT ht
      refine ⟨oneType', fun Q E hq => PySem.W.kas_kind h2 hT hT1 hT2 hq, fun p q hp hq => ?_⟩
      obtain ⟨d1, m1, t1⟩ := t.mem _ hp
      obtain ⟨d2, m2, t2⟩ := t.mem _ hq
      show wpAny (model prog w) A (keyLt' oneType' p.1 q.1) (fun r s' => s' = s ∧ r = lts (d :: es) (dOf s.heap p.1) (dOf s.heap q.1)) (fun _ _ => False) s
      rw [keyLt'_oneType, dOf_eq t1, dOf_eq t2, lts_in m1 m2]
      refine oneLt_tv t1 t2 (hm _ m1).2.1 (hm _ m2).2.1 ((hm _ m1).2.2.2 _ m2) (hm _ m1).2.2.1 hu ⟨rfl, rfl⟩
    cases d with
    | int i =>
      refine one (.type "int") (by decide +kernel) (by decide +kernel) (fun u hu => ?_) rfl
      obtain ⟨e, me, te⟩ := t.mem u hu
      have := (hm _ List.mem_cons_self).2.2.2 e me
      cases e <;> first | exact looks_tv te | cases this
    | str i =>
      refine one (.type "str") (by decide +kernel) (by decide +kernel) (fun u hu => ?_) rfl
      obtain ⟨e, me, te⟩ := t.mem u hu
      have := (hm _ List.mem_cons_self).2.2.2 e me
      cases e <;> first | exact looks_tv te | cases this
    | tup zs =>
      by_cases hnn : ∀ e ∈ (D.tup zs :: es), notNil e = true
      case neg =>
        have allT : ∀ e ∈ (D.tup zs :: es), isTup e = true := by
          intro e me
          have q := (hm _ List.mem_cons_self).2.2.2 e me
          cases e <;> first | rfl | cases q
        obtain ⟨κ, q1, q2⟩ := kind_mix (prog := prog) (w := w) (A := A) h2 t allT hnn
        refine ⟨κ, q1, fun p q hp hq => ?_⟩
        obtain ⟨d1, m1, t1⟩ := t.mem _ hp
        obtain ⟨d2, m2, t2⟩ := t.mem _ hq
        show wpAny (model prog w) A (keyLt' κ p.1 q.1) (fun r s' => s' = s ∧ r = lts (D.tup zs :: es) (dOf s.heap p.1) (dOf s.heap q.1)) (fun _ _ => False) s
        rw [dOf_eq t1, dOf_eq t2, lts_in m1 m2]
        obtain ⟨c, hc⟩ := q2
        rw [hc]
        exact oneLt_tv t1 t2 (hm _ m1).2.1 (hm _ m2).2.1 ((hm _ m1).2.2.2 _ m2) (hm _ m1).2.2.1 hu ⟨rfl, rfl⟩
      case pos =>
      match zs, hm, hnn with
      | [], hm, hnn => exact absurd (hnn _ List.mem_cons_self) (by simp [notNil])
      | z :: zs, hm, hnn =>
        -- all are tuples whose first is of z's kind
        have all : ∀ e ∈ (D.tup (z :: zs) :: es), ∃ x xs, e = .tup (x :: xs) ∧ z.same x = true := by
          intro e me
          have q := (hm _ List.mem_cons_self).2.2.2 e me
          cases e with
          | tup xs =>
            match xs with
            | [] => exact absurd (hnn _ me) (by simp [notNil])
            | x :: xs =>
              simp only [D.same, D.sameL, Bool.and_eq_true] at q
              exact ⟨x, xs, rfl, q.1⟩
          | _ => cases q
        obtain ⟨fs, k1, k2, k3⟩ := firsts_tv (T := fun x => z.same x) t all
        have kind : ∀ (T : Value) (c : Bool), (T == T) = true → (T != Value.type "tuple") = c → (∀ x u, Tv s.heap u x → z.same x = true → PySem.W.Looks (model prog w) s.heap (typeOf u) T) → (c = true → isTup z = false) →
            ∃ κ, (∀ (Q : SortKind → Shared → Prop) (E : Value → Shared → Prop), Q κ s → wpAny (model prog w) A (keyKind' us.toArray) Q E s) ∧ Cmp prog w A s κ (fun p => p.1 ∈ us) (lt2 fun x y => lts (D.tup (z :: zs) :: es) (dOf s.heap x) (dOf s.heap y)) := by
          intro T c hT1 hT2 hT hc
          refine ⟨tuples' c, fun Q E hq => ?_, fun p q hp hq => ?_⟩
          · refine PySem.W.kat_kind (T := T) k1 (by omega) (fun f hf => ?_) hT1 (by rw [hT2]; exact hq)
            obtain ⟨x, tx, sx⟩ := k3 f hf
            exact hT x f tx sx
          · obtain ⟨d1, m1, t1⟩ := t.mem _ hp
            obtain ⟨d2, m2, t2⟩ := t.mem _ hq
            show wpAny (model prog w) A (keyLt' (tuples' c) p.1 q.1) (fun r s' => s' = s ∧ r = lts (D.tup (z :: zs) :: es) (dOf s.heap p.1) (dOf s.heap q.1)) (fun _ _ => False) s
            rw [dOf_eq t1, dOf_eq t2, lts_in m1 m2]
            have sm := (hm _ m1).2.2.2 _ m2
            have pl1 := (hm _ m1).2.1
            have pl2 := (hm _ m2).2.1
            have dp := (hm _ m1).2.2.1
            obtain ⟨x, xs, rfl, sx⟩ := all _ m1
            obtain ⟨y, ys, rfl, sy⟩ := all _ m2
            generalize p.1 = u1 at t1 ⊢
            generalize q.1 = u2 at t2 ⊢
            cases t1 with
            | @tup a o its n _ h1 h2' h3 h4 =>
              cases t2 with
              | @tup a2 o2 its2 n2 _ g1 g2 g3 g4 =>
                refine PySem.W.kat_lt h1 h3 g1 g3 (katLex_tv hu (x :: xs) (y :: ys) _ _ 0 h4 g4 pl1 pl2 sm (by have : D.depL (x :: xs) + 1 ≤ 16 := dp; omega) (fun e _ x' ex => ?_) ?_ ⟨rfl, rfl⟩)
                · simp at ex; subst ex
                  have := hc e
                  cases z <;> cases x <;> first | rfl | (cases sx; done) | cases this
                · rw [show its.size = (x :: xs).length by simpa using h4.length, show its2.size = (y :: ys).length by simpa using g4.length]
        cases z with
        | int i => exact kind (.type "int") true (by decide +kernel) (by decide +kernel) (fun x u tx sx => by cases x <;> first | exact looks_tv tx | cases sx) (fun _ => rfl)
        | str i => exact kind (.type "str") true (by decide +kernel) (by decide +kernel) (fun x u tx sx => by cases x <;> first | exact looks_tv tx | cases sx) (fun _ => rfl)
        | tup i => exact kind (.type "tuple") false (by decide +kernel) (by decide +kernel) (fun x u tx sx => by cases x <;> first | exact looks_tv tx | cases sx) (fun e => by cases e)
        | _ =>
          have := (hm _ List.mem_cons_self).2.2.2 _ List.mem_cons_self
          simp [D.same, D.sameL] at this
    | _ =>
      have := (hm _ List.mem_cons_self).2.2.2 _ List.mem_cons_self
      simp [D.same] at this
end
/-! ### the rule -/
def vOf (u : Value) : V := (absV u).getD .non
theorem vOf_eq {v : V} {u : Value} (r : RelV v u) : vOf u = v := by unfold vOf; rw [r.abs]; rfl
theorem vOf_map : ∀ {vs : List V} {us : List Value}, Vals vs us → us.map vOf = vs
  | _, _, .nil => rfl
  | _, _, .cons r t => by rw [List.map_cons, vOf_eq r, vOf_map t]
section
variable {X : Cx} {pins : List (Addr × Obj)} {σ : L2.St} {H : Hp} {s : Shared} {g : G}
mutual
theorem Rep.tv (I : Inv X pins σ H s) (hK : X.K = g.K) : ∀ {d : D} {v : V} {u : Value}, Rep g H v d → RelV v u → d.same d = true → Tv s.heap u d
  | .int i, _, _, h, r, _ => by cases h; obtain ⟨t, rfl⟩ := r; exact .int i t
  | .str x, _, _, h, r, _ => by cases h; obtain ⟨t, rfl⟩ := r; exact .str x t
  | .tup ds, _, _, h, r, sm => by
    cases h with
    | tup h1 h2 =>
      cases r
      obtain ⟨its, rv, ⟨o, ho, hc, n, hd⟩, _⟩ := I.tuple (hK ▸ h1.1)
      exact .tup ho hc hd (by simpa using RepL.tv I hK h2 rv sm)
  | .non, _, _, _, _, sm => by cases sm
  | .bl _, _, _, _, _, sm => by cases sm
  | .lst _, _, _, _, _, sm => by cases sm
  | .box, _, _, _, _, sm => by cases sm
theorem RepL.tv (I : Inv X pins σ H s) (hK : X.K = g.K) : ∀ {ds : List D} {vs : List V} {us : List Value}, RepL g H vs ds → Vals vs us → D.sameL ds ds = true → TvL s.heap us ds
  | [], _, _, h, r, _ => by cases h; cases r; exact .nil
  | d :: ds, _, _, h, r, sm => by
    simp only [D.sameL, Bool.and_eq_true] at sm
    cases h with
    | cons h1 h2 =>
      cases r with
      | cons r1 r2 => exact .cons (Rep.tv I hK h1 r1 sm.1) (RepL.tv I hK h2 r2 sm.2)
end
theorem repL_all {H : Hp} {vs : List V} : ∀ {us : List Value} {f : Value → D}, (∀ u ∈ us, Rep g H (vOf u) (f u)) → RepL g H (us.map vOf) (us.map f)
  | [], _, _ => .nil
  | u :: us, f, h => .cons (h u List.mem_cons_self) (repL_all (vs := vs) fun w hw => h w (List.mem_cons_of_mem _ hw))
theorem vals_all {vs : List V} {us : List Value} (r : Vals vs us) : ∀ {out : List Value}, (∀ u ∈ out, u ∈ us) → Vals (out.map vOf) out
  | [], _ => .nil
  | u :: out, h => by
    refine .cons ?_ (vals_all r fun w hw => h w (List.mem_cons_of_mem _ hw))
    obtain ⟨i, hi⟩ := List.getElem?_of_mem (h u List.mem_cons_self)
    have : i < vs.length := by
      rw [r.length]; exact (List.getElem?_eq_some_iff.mp hi).1
    obtain ⟨u', e1, e2⟩ := r.get (i := i) (x := vs[i]) (by simp [this])
    rw [hi] at e1; cases e1
    rw [vOf_eq e2]; exact e2
theorem rep_mem {H : Hp} {vs : List V} {us : List Value} {ds : List D} (r : Vals vs us) (h : RepL g H vs ds) (t : TvL s.heap us ds) : ∀ u ∈ us, Rep g H (vOf u) (dOf s.heap u) := by
  intro u hu
  obtain ⟨i, hi⟩ := List.getElem?_of_mem hu
  have il : i < us.length := (List.getElem?_eq_some_iff.mp hi).1
  obtain ⟨d, e, td⟩ := t.get i il
  have eu : us[i] = u := (List.getElem?_eq_some_iff.mp hi).2
  rw [eu] at td
  rw [dOf_eq td]
  obtain ⟨v, e1, e2⟩ := h.get e
  obtain ⟨u', e3, e4⟩ := r.get e1
  rw [hi] at e3; cases e3
  rw [vOf_eq e4]; exact e2
theorem sameL_refl : ∀ {ds : List D}, (∀ d ∈ ds, d.same d = true) → D.sameL ds ds = true
  | [], _ => rfl
  | d :: ds, h => by
    simp only [D.sameL, Bool.and_eq_true]
    exact ⟨h d List.mem_cons_self, sameL_refl fun e he => h e (List.mem_cons_of_mem _ he)⟩
end
section
variable {prog : Program} {w : World} {A : Around} {E : Value → Shared → Prop} {s : Shared}
theorem collect_tupleT {l : Addr} {vs : List Value} {Q : List Value → Shared → Prop} (hl : s.heap.IsTuple l vs.toArray)
    (h : Q vs { s with heap := (s.heap.push (seqObj "list" #[] 0)).update s.heap.objs.size (Obj.mapSeq (· ++ vs.toArray)) }) (hsz : vs.length ≤ sizeLine) :
    wpAny (model prog w) A (collect (.ref l)) Q E s := by
  obtain ⟨o, ho, hc, n, hd⟩ := id hl
  unfold collect
  refine wpAny_bind (wpAny_runValue (codeAny_builtin entry_proto_collect' ?_))
  show wpAny _ _ (do again (.builtin "list.__iadd__" ⟨[← newList [], .ref l], []⟩)) _ _ s
  refine wpAny_bind (wpAny_newList (wpAny_pure ⟨Code.quiet_builtin _ (by decide +kernel), codeAny_builtin entry_list_iadd' ?_⟩) (Nat.zero_le _))
  show wpAny _ _ (Builtin.List.listExtendWith (.ref s.heap.objs.size) (.ref l) (.ref s.heap.objs.size)) _ _ { s with heap := s.heap.push (seqObj "list" #[] 0) }
  unfold Builtin.List.listExtendWith
  have ho' : (s.heap.push (seqObj "list" #[] 0)).get? l = some o := Heap.get?_push_of_some _ ho
  refine wpAny_bind (wpAny_typeOf (T := "tuple") ⟨o, ho', hc⟩ ?_)
  have ht : (Value.type "tuple" == Value.type "tuple") = true := by rfl
  rw [if_pos (by rw [ht, Bool.or_true])]
  refine wpAny_bind (listItems_at ho' hd ?_)
  refine wpAny_bind (listItems_at (xs := #[]) (n := 0) (Heap.get?_push_size _ rfl) rfl ?_)
  rw [if_neg (by simp)]
  refine wpAny_bind (listUpdate_at (xs := #[]) (n := 0) (Heap.get?_push_size _ rfl) rfl ?_ (Nat.zero_le _) (by show (#[] ++ vs.toArray).size ≤ sizeLine + 1; simp only [Array.size_append, List.size_toArray, List.length_nil]; omega))
  refine wpAny_pure ?_
  show wpAny (model prog w) A (do
      let o ← load s.heap.objs.size
      match o.data with
      | .seq xs _ => pure xs.toList
      | _ => unsupported "internal:collect") Q E { s with heap := (s.heap.push (seqObj "list" #[] 0)).update s.heap.objs.size (Obj.mapSeq (· ++ vs.toArray)) }
  refine wpAny_bind (wpAny_load (get?_update_seq (Heap.get?_push_size _ rfl) _) ?_)
  show wpAny _ _ (pure ((#[] : Array Value) ++ vs.toArray).toList) Q E _
  rw [show ((#[] : Array Value) ++ vs.toArray).toList = vs by simp]
  exact wpAny_pure h
theorem sorted_ordT {l : Addr} {vs : List Value} {ltv : Value → Value → Bool} {Q : Value → Shared → Prop} (O : Swo ltv) (hl : s.heap.IsList l vs.toArray ∨ s.heap.IsTuple l vs.toArray) (hz : vs.length ≤ sizeLine)
    (hS : 2 ≤ vs.length → ∀ (h₁ : Heap) (a : Addr), h₁.get? a = some (seqObj "list" vs.toArray 0) → (∀ b o, s.heap.get? b = some o → b ≠ a ∧ h₁.get? b = some o) → SortableO prog w A.in1.in1 { s with heap := h₁ } a vs ltv)
    (h : ∀ out : List Value, Srtd ltv out → Stb ltv out vs → Q (.ref (s.heap.objs.size + 1)) { s with heap := sortedAll s.heap vs out.toArray }) :
    wpAny (model prog w) A (call (.builtin "sorted") [.ref l]) Q E s := by
  rcases hl with hl | hl
  · exact sorted_ord O hl hz hS h
  refine Calls.call_function_entry kind_sorted plain_sorted entry_sorted (args_sorted1 _) ?_
  unfold Builtin.«sorted»
  refine wpAny_bind (m := checkCount "sorted" 1 1 _) (wpAny_pure ?_)
  refine wpAny_bind (collect_tupleT hl ?_ hz)
  refine wpAny_bind (wpAny_newList ?_ hz)
  have hsz : ((s.heap.push (seqObj "list" #[] 0)).update s.heap.objs.size (Obj.mapSeq (· ++ vs.toArray))).objs.size = s.heap.objs.size + 1 := by
    rw [Heap.size_update, size_push']
  have hoL : (((s.heap.push (seqObj "list" #[] 0)).update s.heap.objs.size (Obj.mapSeq (· ++ vs.toArray))).push (seqObj "list" vs.toArray 0)).get? (s.heap.objs.size + 1) = some (seqObj "list" vs.toArray 0) := by
    rw [← hsz]; exact Heap.get?_push_size _ rfl
  have keep : ∀ b o, s.heap.get? b = some o → b ≠ s.heap.objs.size + 1 ∧ (((s.heap.push (seqObj "list" #[] 0)).update s.heap.objs.size (Obj.mapSeq (· ++ vs.toArray))).push (seqObj "list" vs.toArray 0)).get? b = some o := fun b o q => by
    have hlt : b < s.heap.objs.size := Heap.lt_size q
    refine ⟨Nat.ne_of_lt (Nat.lt_succ_of_lt hlt), Heap.get?_push_of_some _ ?_⟩
    rw [Heap.get?_update_ne _ _ _ _ (Nat.ne_of_lt hlt)]
    exact Heap.get?_push_of_some _ q
  show wpAny _ _ _ _ _ { s with heap := ((s.heap.push (seqObj "list" #[] 0)).update s.heap.objs.size (Obj.mapSeq (· ++ vs.toArray))).push (seqObj "list" vs.toArray 0) }
  rw [hsz]
  refine wpAny_bind (wpAny_holding (wpAny_call_entry slot_list_sort ⟨_, hoL, rfl⟩ entry_list_sort (list_sort_ord O hoL hz (fun h2 => hS h2 _ _ hoL keep) fun out hs hb => ⟨_, rfl, ?_⟩) (args_list_sort _)))
  exact wpAny_pure ⟨_, rfl, h out hs hb⟩
end
section
variable {X : Cx} {pins : List (Addr × Obj)} {σ : L2.St} {H : Hp} {s : Shared} {g : G}
theorem sorted_core (hK : X.K = g.K) (hu : X.A.units + 100 < cLine) {Y : Addr → Bool} {p : Addr} {ws : List V} {xs : List D} {its : List Value} {Q : VK} (I : Inv X pins σ H s) (rv : Vals ws its) (hl : s.heap.IsList p its.toArray ∨ s.heap.IsTuple p its.toArray) (hz : ws.length ≤ sizeLine) (h2 : RepL g (hid Y H) ws xs) (hs : allSame xs = true)
    (k' : ∀ v H', ResN g Y H (.lst (sortG D.ltb xs)) v H' → LenOk X.K H' → Q v H') : wpAny (model X.prog X.w) X.A (call (.builtin "sorted") [.ref p]) (EP X pins σ Q) X.xe s := by
  have hm := allSame_mem hs
  have t : TvL s.heap its xs := RepL.tv I hK (RepL.mono hid_le h2) rv (sameL_refl fun d hd => (hm d hd).2.2.2 d hd)
  refine sorted_ordT (swo_map (lts_swo hs) (dOf s.heap)) hl (by rw [← rv.length]; exact hz) (fun hh h₁ a ha kk => ?_) fun out hs1 hb => ?_
  · intro h' kp
    have kt : ∀ b o, s.heap.get? b = some o → o.cls = .type "tuple" → h'.get? b = some o := fun b o hb _ => kp b o (kk b o hb).1 (kk b o hb).2
    have t' : TvL h' its xs := TvL.keep kt t
    obtain ⟨κ, q1, q2⟩ := sort_kind (prog := X.prog) (w := X.w) (A := X.A.in1.in1) (s := { s with heap := h' }) hh t' hs (by show X.A.units + 1 + 1 + 18 < _; omega)
    refine ⟨κ, q1, fun p q hp hq => ?_⟩
    have := q2 p q hp hq
    obtain ⟨d1, m1, t1⟩ := t.mem _ hp
    obtain ⟨d2, m2, t2⟩ := t.mem _ hq
    have f1 : dOf h' p.1 = dOf s.heap p.1 := by rw [dOf_eq t1, dOf_eq (Tv.keep kt t1)]
    have f2 : dOf h' q.1 = dOf s.heap q.1 := by rw [dOf_eq t2, dOf_eq (Tv.keep kt t2)]
    simp only [lt2] at this ⊢
    rw [f1, f2] at this
    exact this
  · have hmem : ∀ u ∈ out, u ∈ its := fun u hu => hb.perm.mem_iff.mp hu
    have hd : out.map (dOf s.heap) = sortG D.ltb xs := by
      have O := lts_swo hs
      have b1 : Stb (lts xs) (out.map (dOf s.heap)) xs := by
        have := SrtO.Stb.map O (dOf s.heap) hb
        rwa [dOf_map t] at this
      have b2 : Srtd (lts xs) (out.map (dOf s.heap)) := SrtO.srtd_map hs1
      rw [sortG_uniq O b2 b1]
      have := sortG_map (lt := lts xs) (fun d => d) D.ltb xs fun a ha b hb => (lts_in ha hb).symm
      simpa using this
    have rl : RepL g (hid Y H) (out.map vOf) (sortG D.ltb xs) := by
      rw [← hd]
      exact repL_all (vs := []) fun u hu => rep_mem rv h2 t u (hmem u hu)
    refine ⟨.ref _, upd H (s.heap.objs.size + 1) (.lst (out.map vOf)), I.laid (t' := s.toks) (fun b o hb => sortedAll_old hb) (Nat.le_succ _) ?_, rfl, ?_⟩
    · obtain ⟨n, hn⟩ := sortedAll_at s.heap its out.toArray
      exact ⟨by rw [List.length_map, hb.len, ← rv.length]; exact hz, out, n, vals_all rv hmem, hn⟩
    · have hf : H (s.heap.objs.size + 1) = none := I.hok.fresh (Nat.le_succ _)
      refine k' _ _ ⟨_, _, _, rfl, rfl, hf, rfl, rl⟩ ?_
      refine Inv.lenOk (X := X) (pins := pins) (σ := σ) (s := { s with heap := sortedAll s.heap its out.toArray }) (I.laid (t' := s.toks) (fun b o hb => sortedAll_old hb) (Nat.le_succ _) ?_)
      obtain ⟨n, hn⟩ := sortedAll_at s.heap its out.toArray
      exact ⟨by rw [List.length_map, hb.len, ← rv.length]; exact hz, out, n, vals_all rv hmem, hn⟩
theorem call_sorted (hK : X.K = g.K) (hu : X.A.units + 100 < cLine) : CallR X (.builtin "sorted") (rC g true (bfn .sorted)) := by
  intro pins s σ H vs us Q I r ⟨Y, ds, d, dm, hv, e, k⟩
  have k' : ∀ v H', ResN g Y H d v H' → LenOk X.K H' → Q v H' := fun v H' r l => k v H' (hK ▸ l) (by rw [if_pos rfl]; exact r)
  match ds, e with
  | [.lst xs], e =>
    obtain ⟨v, rfl, h⟩ := repPL1 hv
    obtain ⟨p, ws, rfl, h1, h2⟩ := h.lst
    simp only [bfn, Option.map_eq_some_iff, dSorted] at e
    obtain ⟨zs, e1, rfl⟩ := e
    split at e1
    · rename_i hs
      cases e1
      obtain ⟨its, rv, hl, hz⟩ := I.list (SqL.of (K := X.K) h1)
      obtain ⟨u, rfl, ru⟩ := vals1 r
      obtain rfl : u = Value.ref p := ru
      exact sorted_core hK hu I rv (.inl hl.isList) hz h2 hs k'
    · cases e1
  | [.tup xs], e =>
    obtain ⟨v, rfl, h⟩ := repPL1 hv
    obtain ⟨p, ws, rfl, h1, h2⟩ := h.tup
    simp only [bfn, Option.map_eq_some_iff, dSorted] at e
    obtain ⟨zs, e1, rfl⟩ := e
    split at e1
    · rename_i hs
      cases e1
      obtain ⟨its, rv, hl, hz⟩ := I.tuple (hK ▸ sqT_hid h1)
      obtain ⟨u, rfl, ru⟩ := vals1 r
      obtain rfl : u = Value.ref p := ru
      exact sorted_core hK hu I rv (.inr hl) hz h2 hs k'
    · cases e1
end
end PV

end
section
set_option Elab.async false
set_option linter.all false
set_option maxRecDepth 100000
set_option maxHeartbeats 1000000
/-! DT2: the least and the greatest of data. -/
namespace PV
open PySem PySem.Spec PyProof.Rows L2 SrtO PySem.SeqAt Ob PySem.W
mutual
theorem same_alike : ∀ a b : D, D.same a b = true → alike a.py b.py = true
  | .int _, .int _, _ => by simp [D.py, alike]
  | .str _, .str _, _ => by simp [D.py, alike]
  | .tup xs, .tup ys, h => by
    have := sameL_alike xs ys h
    simpa [D.py, alike] using this
theorem sameL_alike : ∀ a b : List D, D.sameL a b = true → alikeAll (D.pyL a) (D.pyL b) = true
  | [], _, _ => by simp [D.pyL, alikeAll]
  | _ :: _, [], _ => by simp [D.pyL, alikeAll]
  | x :: xs, y :: ys, h => by
    simp only [D.sameL, Bool.and_eq_true] at h
    have h1 := same_alike x y h.1
    have h2 := sameL_alike xs ys h.2
    simp [D.pyL, alikeAll, h1, h2]
end
mutual
theorem dataLt_py : ∀ a b : D, D.same a b = true → a.pl = true → b.pl = true → dataLt a.py b.py = D.ltb a b
  | .int i, .int j, _, _, _ => dataLt_int i j
  | .str x, .str y, _, _, _ => dataLt_str x y
  | .tup xs, .tup ys, h, h1, h2 => by
    show dataLt (.tuple (D.pyL xs)) (.tuple (D.pyL ys)) = D.ltbL xs ys
    rw [dataLt_tuple]
    exact rowLt_py xs ys h h1 h2
theorem rowLt_py : ∀ a b : List D, D.sameL a b = true → D.plL a = true → D.plL b = true → rowLt (D.pyL a) (D.pyL b) = D.ltbL a b
  | [], [], _, _, _ => lex_irrefl _
  | [], y :: ys, _, _, _ => by
    show rowLt [] (y.py :: D.pyL ys) = true
    unfold rowLt
    rw [toks_all_cons]
    simp only [keyToksAll]
    rw [lex_diff (O := itemOrd) (by simp)]
    rfl
  | x :: xs, [], _, _, _ => by
    show rowLt (x.py :: D.pyL xs) [] = false
    unfold rowLt
    rw [toks_all_cons]
    simp only [keyToksAll]
    rw [lex_diff (O := itemOrd) (by simp)]
    rfl
  | x :: xs, y :: ys, h, h1, h2 => by
    simp only [D.sameL, Bool.and_eq_true] at h
    simp only [D.plL, Bool.and_eq_true] at h1 h2
    show PyProof.Rows.lexLt itemOrd (keyToksAll (x.py :: D.pyL xs)) (keyToksAll (y.py :: D.pyL ys)) = if D.eqv x y then D.ltbL xs ys else D.ltb x y
    rw [dataLt_cons (same_alike x y h.1), eqv_py x y h1.1 h2.1, dataLt_py x y h.1 h1.1 h2.1]
    have e : PyProof.Rows.lexLt itemOrd (keyToksAll (D.pyL xs)) (keyToksAll (D.pyL ys)) = D.ltbL xs ys := rowLt_py xs ys h.2 h1.2 h2.2
    rw [e]
end
theorem py_inj {a b : D} (h : D.same a b = true) (h1 : a.pl = true) (h2 : b.pl = true) (e : a.py = b.py) : a = b := by
  have e1 := dataLt_py a b h h1 h2
  have e2 := dataLt_py b a (same_symm _ _ h) h2 h1
  rw [e] at e1 e2
  rcases ltb_tri a b h with ⟨_, r, _⟩ | ⟨_, _, ⟨q1, q2⟩ | ⟨q1, q2⟩⟩
  · exact r
  · rw [q1] at e1; rw [q2] at e2; rw [e1] at e2; cases e2
  · rw [q1] at e1; rw [q2] at e2; rw [e1] at e2; cases e2
theorem minD_py (xs : List D) (hs : ∀ a ∈ xs, a.pl = true ∧ ∀ b ∈ xs, D.same a b = true) : ∀ (l : List D) (x : D), x ∈ xs → (∀ y ∈ l, y ∈ xs) → minD x.py (D.pyL l) = (minF x l).py ∧ minF x l ∈ xs
  | [], x, hx, _ => ⟨rfl, hx⟩
  | y :: l, x, hx, hl => by
    have hy := hl y List.mem_cons_self
    have e := dataLt_py y x ((hs y hy).2 x hx) (hs y hy).1 (hs x hx).1
    have ih := fun z hz => minD_py xs hs l z hz fun w hw => hl w (List.mem_cons_of_mem _ hw)
    show List.foldl _ (if dataLt y.py x.py = true then y.py else x.py) (D.pyL l) = (minF (if D.ltb y x then y else x) l).py ∧ _
    rw [e]
    show _ ∧ minF (if D.ltb y x then y else x) l ∈ xs
    cases q : D.ltb y x with
    | true => exact ih y hy
    | false => exact ih x hx
theorem maxD_py (xs : List D) (hs : ∀ a ∈ xs, a.pl = true ∧ ∀ b ∈ xs, D.same a b = true) : ∀ (l : List D) (x : D), x ∈ xs → (∀ y ∈ l, y ∈ xs) → maxD x.py (D.pyL l) = (maxF x l).py ∧ maxF x l ∈ xs
  | [], x, hx, _ => ⟨rfl, hx⟩
  | y :: l, x, hx, hl => by
    have hy := hl y List.mem_cons_self
    have e := dataLt_py x y ((hs x hx).2 y hy) (hs x hx).1 (hs y hy).1
    have ih := fun z hz => maxD_py xs hs l z hz fun w hw => hl w (List.mem_cons_of_mem _ hw)
    show List.foldl _ (if dataLt x.py y.py = true then y.py else x.py) (D.pyL l) = (maxF (if D.ltb x y then y else x) l).py ∧ _
    rw [e]
    show _ ∧ maxF (if D.ltb x y then y else x) l ∈ xs
    cases q : D.ltb x y with
    | true => exact ih y hy
    | false => exact ih x hx
section
variable {X : Cx} {pins : List (Addr × Obj)} {σ : L2.St} {H : Hp} {s : Shared} {g : G}
/-- what the least of a list asks -/
theorem min_ready {x : D} {xs : List D} {its : List Value} (t : TvL s.heap its (x :: xs)) (hs : allSame (x :: xs) = true) : ∃ as, ReadsAll s.heap its (x.py :: D.pyL xs) as ∧ AlikeAll (x.py :: D.pyL xs) ∧ PyData.depthAll (x.py :: D.pyL xs) ≤ 16 ∧ (∀ a ∈ x :: xs, a.pl = true ∧ ∀ b ∈ x :: xs, D.same a b = true) := by
  have hm := allSame_mem hs
  have hpl : ∀ a ∈ x :: xs, a.pl = true := fun a ha => (hm a ha).2.1
  have mem_py : ∀ (l : List D) (p : PyData), p ∈ D.pyL l → ∃ a ∈ l, p = a.py := by
    intro l
    induction l with
    | nil => intro p hp; cases hp
    | cons a l ih =>
      intro p hp
      rcases List.mem_cons.mp hp with rfl | hp
      · exact ⟨a, List.mem_cons_self, rfl⟩
      · obtain ⟨b, hb, rfl⟩ := ih p hp
        exact ⟨b, List.mem_cons_of_mem _ hb, rfl⟩
  obtain ⟨as, r⟩ := TvL.reads t
  refine ⟨as, r, ⟨fun p hp q hq => ?_, fun p hp => ?_⟩, ?_, fun a ha => ⟨hpl a ha, fun b hb => (hm a ha).2.2.2 b hb⟩⟩
  · obtain ⟨a, ha, rfl⟩ := mem_py (x :: xs) p hp
    obtain ⟨b, hb, rfl⟩ := mem_py (x :: xs) q hq
    exact same_alike _ _ ((hm a ha).2.2.2 b hb)
  · obtain ⟨a, ha, rfl⟩ := mem_py (x :: xs) p hp
    have := (hm a ha).2.2.2 a ha
    cases a <;> first | (intro z; cases z; done) | cases this
  · have : D.depL (x :: xs) ≤ 16 := by
      have key : ∀ l : List D, (∀ a ∈ l, a.dep ≤ 16) → D.depL l ≤ 16 := by
        intro l
        induction l with
        | nil => intro _; exact Nat.zero_le _
        | cons a l ih =>
          intro h
          exact Nat.max_le.mpr ⟨h a List.mem_cons_self, ih fun b hb => h b (List.mem_cons_of_mem _ hb)⟩
      exact key _ fun a ha => (hm a ha).2.2.1
    rw [show PyData.depthAll (x.py :: D.pyL xs) = D.depL (x :: xs) from dep_pyL (x :: xs)]
    exact this
/-- the item found is the least one -/
theorem min_item {Y : Addr → Bool} {x m : D} {xs : List D} {its ws : List _} {h' : Heap} {v : Value} {i : Nat} {bs : List Addr} (rv : Vals ws its) (h2 : RepL g (hid Y H) ws (x :: xs)) (t : TvL s.heap its (x :: xs)) (kp : ∀ b o, s.heap.get? b = some o → h'.get? b = some o)
    (hs : ∀ a ∈ x :: xs, a.pl = true ∧ ∀ b ∈ x :: xs, D.same a b = true) (hv : its[i]? = some v) (hr : Reads h' v m.py bs) (hm : m ∈ x :: xs) : ∃ w, RelV w v ∧ Rep g (hid Y H) w m := by
  have il : i < its.length := (List.getElem?_eq_some_iff.mp hv).1
  obtain ⟨d, e1, t1⟩ := t.get i il
  have ev : its[i] = v := (List.getElem?_eq_some_iff.mp hv).2
  rw [ev] at t1
  have hd : d ∈ x :: xs := List.mem_of_getElem? e1
  obtain ⟨w, w1, w2⟩ := h2.get e1
  obtain ⟨u, u1, u2⟩ := rv.get w1
  rw [hv] at u1; cases u1
  obtain ⟨as, r1⟩ := Tv.reads (Tv.keep (fun b o e _ => kp b o e) t1)
  have hsame := (hs d hd).2 m hm
  have e := alike_unique (h := h') d.py m.py v as bs (same_alike _ _ hsame) r1 hr
  have := py_inj hsame (hs d hd).1 (hs m hm).1 e
  subst this
  exact ⟨w, u2, w2⟩
theorem min_data (hK : X.K = g.K) (hc : X.calm = true) (hu : X.A.units + 100 < cLine) {Y : Addr → Bool} {p : Addr} {ws : List V} {x : D} {xs : List D} {Q : VK} (I : Inv X pins σ H s) (h1 : SqL X.K H p ws) (h2 : RepL g (hid Y H) ws (x :: xs)) (hs : allSame (x :: xs) = true)
    (k : ∀ v, Rep g (hid Y H) v (minF x xs) → Q v H) : wpAny (model X.prog X.w) X.A (call (.builtin "min") [.ref p]) (EP X pins σ Q) X.xe s := by
  obtain ⟨its, rv, hl, hz⟩ := I.list h1
  have hm := allSame_mem hs
  have t : TvL s.heap its (x :: xs) := RepL.tv I hK (RepL.mono hid_le h2) rv (sameL_refl fun d hd => (hm d hd).2.2.2 d hd)
  obtain ⟨as, r, al, dp, hall⟩ := min_ready t hs
  refine min_list_data (I.ok.hd hc) hl.isList (by simpa using r) al (by omega) fun i v h' tk bs hv hr kp => ?_
  obtain ⟨e1, e2⟩ := minD_py (x :: xs) hall xs x List.mem_cons_self fun y hy => List.mem_cons_of_mem _ hy
  rw [e1] at hr
  obtain ⟨w, u2, w2⟩ := min_item rv h2 t kp hall (by simpa using hv) hr e2
  exact ⟨w, H, I.kept (t' := tk) kp, u2, k w w2⟩
theorem max_data (hK : X.K = g.K) (hc : X.calm = true) (hu : X.A.units + 100 < cLine) {Y : Addr → Bool} {p : Addr} {ws : List V} {x : D} {xs : List D} {Q : VK} (I : Inv X pins σ H s) (h1 : SqL X.K H p ws) (h2 : RepL g (hid Y H) ws (x :: xs)) (hs : allSame (x :: xs) = true)
    (k : ∀ v, Rep g (hid Y H) v (maxF x xs) → Q v H) : wpAny (model X.prog X.w) X.A (call (.builtin "max") [.ref p]) (EP X pins σ Q) X.xe s := by
  obtain ⟨its, rv, hl, hz⟩ := I.list h1
  have hm := allSame_mem hs
  have t : TvL s.heap its (x :: xs) := RepL.tv I hK (RepL.mono hid_le h2) rv (sameL_refl fun d hd => (hm d hd).2.2.2 d hd)
  obtain ⟨as, r, al, dp, hall⟩ := min_ready t hs
  refine max_list_data (I.ok.hd hc) hl.isList (by simpa using r) al (by omega) fun i v h' tk bs hv hr kp => ?_
  obtain ⟨e1, e2⟩ := maxD_py (x :: xs) hall xs x List.mem_cons_self fun y hy => List.mem_cons_of_mem _ hy
  rw [e1] at hr
  obtain ⟨w, u2, w2⟩ := min_item rv h2 t kp hall (by simpa using hv) hr e2
  exact ⟨w, H, I.kept (t' := tk) kp, u2, k w w2⟩
end
section
variable {X : Cx} {g : G}
theorem call_max (hK : X.K = g.K) (hc : X.calm = true) (hu : X.A.units + 100 < cLine) : CallR X (.builtin "max") (rC g false (bfn .max)) := by
  intro pins s σ H vs us Q I r ⟨Y, ds, d, dm, hv, e, k⟩
  have k' : ∀ v H', Res g Y H d v H' → LenOk X.K H' → Q v H' := fun v H' r l => k v H' (hK ▸ l) r
  match ds, e with
  | [.tup xs], e =>
    obtain ⟨v, rfl, h⟩ := repPL1 hv
    obtain ⟨p, ws, rfl, h1, h2⟩ := h.tup
    simp only [bfn, Option.bind_eq_some_iff, Option.map_eq_some_iff] at e
    obtain ⟨ns, e1, m, e2, rfl⟩ := e
    obtain rfl := intL_some e1
    obtain rfl := repL_ints h2
    exact (CallR.len (cr_maxT hc hu)) pins s σ H _ us Q I r ⟨p, ns, m, rfl, hK ▸ sqT_hid h1, e2, k' _ _ (res_same (.int _))⟩
  | [.lst xs], e =>
    obtain ⟨v, rfl, h⟩ := repPL1 hv
    obtain ⟨p, ws, rfl, h1, h2⟩ := h.lst
    simp only [bfn] at e
    cases q : (intL xs).bind fun ns => (maxI ns).map D.int with
    | none =>
      rw [q, Option.none_or] at e
      cases xs with
      | nil => cases e
      | cons x xs =>
        simp only [dMax] at e
        split at e
        · rename_i hs
          cases e
          obtain rfl : us = [Value.ref p] := Vals.ref1 r
          exact (max_data hK hc hu I (SqL.of h1) h2 hs fun v hv => by
            exact k' v H (res_same hv) (Inv.lenOk I))
        · cases e
    | some m0 =>
    rw [q, Option.some_or] at e
    cases e
    simp only [Option.bind_eq_some_iff, Option.map_eq_some_iff] at q
    obtain ⟨ns, e1, m, e2, rfl⟩ := q
    obtain rfl := intL_some e1
    obtain rfl := repL_ints h2
    refine (CallR.len (cr_max hc)) pins s σ H _ us Q I r ⟨p, ns, rfl, SqL.of h1, ?_, fun k hk hm => ?_⟩
    · cases ns with
      | nil => cases e2
      | cons => exact Nat.succ_pos _
    · rw [maxI_uniq e2 hk hm]
      exact k' _ _ (res_same (.int _))
  | [.int i, .int j], e =>
    obtain ⟨v, w, rfl, h1, h2⟩ := repPL2 hv
    obtain rfl := h1.int
    obtain rfl := h2.int
    cases e
    exact (CallR.len (call_max2 hc)) pins s σ H _ us Q I r ⟨i, j, rfl, k' _ _ (res_same (.int _))⟩
theorem call_min (hK : X.K = g.K) (hc : X.calm = true) (hu : X.A.units + 100 < cLine) : CallR X (.builtin "min") (rC g false (bfn .min)) := by
  intro pins s σ H vs us Q I r ⟨Y, ds, d, dm, hv, e, k⟩
  have k' : ∀ v H', Res g Y H d v H' → LenOk X.K H' → Q v H' := fun v H' r l => k v H' (hK ▸ l) r
  match ds, e with
  | [.tup xs], e =>
    obtain ⟨v, rfl, h⟩ := repPL1 hv
    obtain ⟨p, ws, rfl, h1, h2⟩ := h.tup
    simp only [bfn, Option.bind_eq_some_iff, Option.map_eq_some_iff] at e
    obtain ⟨ns, e1, m, e2, rfl⟩ := e
    obtain rfl := intL_some e1
    obtain rfl := repL_ints h2
    exact (CallR.len (cr_minT hc hu)) pins s σ H _ us Q I r ⟨p, ns, m, rfl, hK ▸ sqT_hid h1, e2, k' _ _ (res_same (.int _))⟩
  | [.lst xs], e =>
    obtain ⟨v, rfl, h⟩ := repPL1 hv
    obtain ⟨p, ws, rfl, h1, h2⟩ := h.lst
    simp only [bfn] at e
    cases q : (intL xs).bind fun ns => (minI ns).map D.int with
    | none =>
      rw [q, Option.none_or] at e
      cases xs with
      | nil => cases e
      | cons x xs =>
        simp only [dMin] at e
        split at e
        · rename_i hs
          cases e
          obtain rfl : us = [Value.ref p] := Vals.ref1 r
          exact (min_data hK hc hu I (SqL.of h1) h2 hs fun v hv => by
            exact k' v H (res_same hv) (Inv.lenOk I))
        · cases e
    | some m0 =>
    rw [q, Option.some_or] at e
    cases e
    simp only [Option.bind_eq_some_iff, Option.map_eq_some_iff] at q
    obtain ⟨ns, e1, m, e2, rfl⟩ := q
    obtain rfl := intL_some e1
    obtain rfl := repL_ints h2
    refine (CallR.len (cr_min hc)) pins s σ H _ us Q I r ⟨p, ns, rfl, SqL.of h1, ?_, fun k hk hm => ?_⟩
    · cases ns with
      | nil => cases e2
      | cons => exact Nat.succ_pos _
    · rw [minI_uniq e2 hk hm]
      exact k' _ _ (res_same (.int _))
  | [.int i, .int j], e =>
    obtain ⟨v, w, rfl, h1, h2⟩ := repPL2 hv
    obtain rfl := h1.int
    obtain rfl := h2.int
    cases e
    exact (CallR.len (call_min2 hc)) pins s σ H _ us Q I r ⟨i, j, rfl, k' _ _ (res_same (.int _))⟩
end
end PV

end
section
set_option Elab.async false
set_option linter.all false
set_option maxRecDepth 100000
set_option maxHeartbeats 1000000
/-! DX: how an environment lies in a frame and the heap; expressions, one rule a construct. -/
namespace PV
open PySem PySem.Spec PyProof.Rows L2

def BoxOk (g : G) (H : Hp) (b : Bx) : Prop := H g.ba = some (.lst (.ref g.bc :: b.st.map V.int)) ∧ H g.bc = some (.lst (b.cells.map V.int)) ∧ g.ba ≠ g.bc
structure Rel (g : G) (Z ow : Addr → Bool) (σ : L2.St) (H : Hp) (ρ : Env) : Prop where
  len : σ.length = ρ.sl.length
  val : ∀ i d, ρ.get i = .val d → ∃ v, σ[i]? = some (some v) ∧ Rep g (hid (Or2 Z ow) H) v d
  own : ∀ i ds, ρ.get i = .own ds → ∃ a xs, σ[i]? = some (some (.ref a)) ∧ H a = some (.lst xs) ∧ ow a = true ∧ RepL g (hid (Or2 Z ow) H) xs ds
  sep : ∀ i j ds es a, ρ.get i = .own ds → ρ.get j = .own es → σ[i]? = some (some (.ref a)) → σ[j]? = some (some (.ref a)) → i = j
  dom : Dom (Or2 Z ow) H
  dis : ∀ a, ow a = true → Z a = false
  box : BoxOk g H ρ.bx
  zb : Z g.ba = true ∧ Z g.bc = true
/-- what was tracked and is not ours to write stands -/
def Fr (g : G) (ow : Addr → Bool) (H H' : Hp) : Prop := ∀ c o, H c = some o → ow c = false → c ≠ g.ba → c ≠ g.bc → H' c = some o
def HRep (g : G) (Z ow : Addr → Bool) (σ : L2.St) (H : Hp) (v : V) : Hd → Prop
  | .v d => Rep g (hid (Or2 Z ow) H) v d
  | .p i => σ[i]? = some (some v)
section
variable {g : G} {Z ow : Addr → Bool} {σ : L2.St} {H H1 H2 H' : Hp} {ρ ρ' : Env} {v : V} {h : Hd} {d : D}
theorem Fr.refl : Fr g ow H H := fun _ _ e _ _ _ => e
theorem Fr.trans (a : Fr g ow H H1) (b : Fr g ow H1 H2) : Fr g ow H H2 := fun c o e h1 h2 h3 => b c o (a c o e h1 h2 h3) h1 h2 h3
theorem Fr.of_same (a : Same H H1) : Fr g ow H H1 := fun c o e _ _ _ => a c o e
theorem Fr.hid (f : Fr g ow H H1) (zb : Z g.ba = true ∧ Z g.bc = true) : Same (PV.hid (Or2 Z ow) H) (PV.hid (Or2 Z ow) H1) := fun c o e => by
  obtain ⟨z, e⟩ := hid_some e
  have z' : Z c = false ∧ ow c = false := by simpa [Or2] using z
  refine hid_of z (f c o e z'.2 ?_ ?_)
  · rintro rfl; rw [zb.1] at z'; cases z'.1
  · rintro rfl; rw [zb.2] at z'; cases z'.1
theorem Rel.ext (r : Rel g Z ow σ H ρ) (s : Same H H1) : Rel g Z ow σ H1 ρ :=
  ⟨r.len, fun i d e => let ⟨v, e1, e2⟩ := r.val i d e; ⟨v, e1, e2.mono (hid_mono s)⟩, fun i ds e => let ⟨a, xs, e1, e2, e3, e4⟩ := r.own i ds e; ⟨a, xs, e1, s _ _ e2, e3, RepL.mono (hid_mono s) e4⟩,
    r.sep, r.dom.same s, r.dis, ⟨s _ _ r.box.1, s _ _ r.box.2.1, r.box.2.2⟩, r.zb⟩
theorem HRep.fr (h : HRep g Z ow σ H v hd) (f : Fr g ow H H1) (zb : Z g.ba = true ∧ Z g.bc = true) : HRep g Z ow σ H1 v hd := by
  cases hd with
  | v d => exact Rep.mono (f.hid zb) h
  | p i => exact h
/-- a handle, read at the end -/
theorem HRep.at (r : Rel g Z ow σ H ρ) (h : HRep g Z ow σ H v hd) (e : hd.at ρ = some d) : RepP g (Or2 Z ow) H v d := by
  cases hd with
  | v d' => cases e; exact .inl h
  | p i =>
    simp only [Hd.at] at e
    split at e
    · rename_i ds q
      cases e
      obtain ⟨a, xs, e1, e2, e3, e4⟩ := r.own i ds q
      have h' : σ[i]? = some (some v) := h
      rw [e1] at h'; cases h'
      exact .inr ⟨a, xs, ds, rfl, rfl, e2, e4⟩
    · cases e
theorem HRep.val (h : HRep g Z ow σ H v hd) (e : hd.val = some d) : Rep g (PV.hid (Or2 Z ow) H) v d := by
  cases hd with
  | v d' => cases e; exact h
  | p i => cases e
end
/-- behind an expression -/
structure Pst (g : G) (Z ow : Addr → Bool) (σ : L2.St) (H H' : Hp) (ρ' : Env) (v : V) (h : Hd) : Prop where
  fr : Fr g ow H H'
  rel : Rel g Z ow σ H' ρ'
  rep : HRep g Z ow σ H' v h
/-- behind an expression that makes a list: it is new -/
structure PstN (g : G) (Z ow : Addr → Bool) (σ : L2.St) (H H' : Hp) (ρ' : Env) (v : V) (h : Hd) : Prop where
  ex : ∃ H1 p xs ds, h = .v (.lst ds) ∧ v = .ref p ∧ H1 p = none ∧ H' = upd H1 p (.lst xs) ∧ Rel g Z ow σ H1 ρ' ∧ RepL g (hid (Or2 Z ow) H1) xs ds ∧ Fr g ow H H1
theorem PstN.pst {g : G} {Z ow : Addr → Bool} {σ : L2.St} {H H' : Hp} {ρ' : Env} {v : V} {h : Hd} (p : PstN g Z ow σ H H' ρ' v h) : Pst g Z ow σ H H' ρ' v h := by
  obtain ⟨H1, p, xs, ds, rfl, rfl, hp, rfl, r, q, f⟩ := p.ex
  have s := same_upd (o := .lst xs) hp
  exact ⟨f.trans (.of_same s), r.ext s, .lst (hid_of (r.dom.not hp) upd_same) (RepL.mono (hid_mono s) q)⟩
abbrev Ev := Env → Option (Hd × Env)
/-- an expression gives what f says; n: it makes a new list -/
def tE (g : G) (n : Bool) (f : Ev) : TE := fun σ H Q => ∃ Z ow ρ h ρ', Rel g Z ow σ H ρ ∧ f ρ = some (h, ρ') ∧
  ∀ v H', LenOk g.K H' → (if n = true then PstN g Z ow σ H H' ρ' v h else Pst g Z ow σ H H' ρ' v h) → Q v H'
def tTs (g : G) (f : Env → Option (Bool × Env)) : TT := fun σ H Q => ∃ Z ow ρ b ρ', Rel g Z ow σ H ρ ∧ f ρ = some (b, ρ') ∧
  ∀ H', LenOk g.K H' → Fr g ow H H' → Rel g Z ow σ H' ρ' → Q b H'
inductive HRepL (g : G) (Z ow : Addr → Bool) (σ : L2.St) (H : Hp) : List V → List Hd → Prop
  | nil : HRepL g Z ow σ H [] []
  | cons {v : V} {vs : List V} {h : Hd} {hs : List Hd} : HRep g Z ow σ H v h → HRepL g Z ow σ H vs hs → HRepL g Z ow σ H (v :: vs) (h :: hs)
def tAs (g : G) (f : Env → Option (List Hd × Env)) : TA := fun σ H Q => ∃ Z ow ρ hs ρ', Rel g Z ow σ H ρ ∧ f ρ = some (hs, ρ') ∧
  ∀ vs H', LenOk g.K H' → Fr g ow H H' → Rel g Z ow σ H' ρ' → HRepL g Z ow σ H' vs hs → Q vs H'
section
variable {g : G} {Z ow : Addr → Bool} {σ : L2.St} {H H1 : Hp} {ρ : Env}
theorem HRepL.at (r : Rel g Z ow σ H ρ) : ∀ {hs : List Hd} {vs : List V} {ds : List D}, HRepL g Z ow σ H vs hs → atL hs ρ = some ds → RepPL g (Or2 Z ow) H vs ds
  | [], _, _, h, e => by cases h; cases e; exact .nil
  | x :: xs, _, _, h, e => by
    cases h with
    | cons h1 h2 =>
      simp only [atL, Option.bind_eq_bind, Option.bind_eq_some_iff] at e
      obtain ⟨d, e1, ds, e2, e3⟩ := e
      cases e3
      exact .cons (h1.at r e1) (HRepL.at r h2 e2)
theorem HRepL.val : ∀ {hs : List Hd} {vs : List V} {ds : List D}, HRepL g Z ow σ H vs hs → valL hs = some ds → RepL g (hid (Or2 Z ow) H) vs ds
  | [], _, _, h, e => by cases h; cases e; exact .nil
  | x :: xs, _, _, h, e => by
    cases h with
    | cons h1 h2 =>
      simp only [valL, Option.bind_eq_bind, Option.bind_eq_some_iff] at e
      obtain ⟨d, e1, ds, e2, e3⟩ := e
      cases e3
      exact .cons (h1.val e1) (HRepL.val h2 e2)
end

section
variable {X : Cx} {g : G} {a b c e : Expr} {fa fb fc : Ev} {na nb nc : Bool} {pos : Pos}
/-- without the newness -/
theorem de_old (h : PE X a (tE g na fa)) : PE X a (tE g false fa) := PE.of h fun σ H Q _ ⟨Z, ow, ρ, h, ρ', r, e, k⟩ =>
  ⟨Z, ow, ρ, h, ρ', r, e, fun v H' l p l' => k v H' l (by
    rw [if_neg (by decide)]
    cases na with
    | true => rw [if_pos rfl] at p; exact p.pst
    | false => rw [if_neg (by decide)] at p; exact p)⟩
theorem de_var {i : Nat} {x : PySem.Str} (hN : X.N[i]? = some x) (hv : Vis X.env.scope x) (hd : (x == ("__debug__" : PySem.Str)) = false) (hcd : (x == ("__classdict__" : PySem.Str)) = false) (hK : X.K = g.K) (cl : Call) :
    PE X (.Name x pos) (tE g false (ev cl (.var i))) := PE.of (pe_var hN hv hd hcd) fun σ H Q l ⟨Z, ow, ρ, h, ρ', r, e, k⟩ => by
  simp only [ev] at e
  split at e
  · rename_i d q
    cases e
    obtain ⟨v, e1, e2⟩ := r.val i d q
    exact ⟨v, e1, fun l => k v H (hK ▸ l) (by rw [if_neg (by decide)]; exact ⟨.refl, r, e2⟩)⟩
  · cases e
theorem de_pk {i : Nat} {x : PySem.Str} (hN : X.N[i]? = some x) (hv : Vis X.env.scope x) (hd : (x == ("__debug__" : PySem.Str)) = false) (hcd : (x == ("__classdict__" : PySem.Str)) = false) (hK : X.K = g.K) (cl : Call) :
    PE X (.Name x pos) (tE g false (ev cl (.pk i))) := PE.of (pe_var hN hv hd hcd) fun σ H Q l ⟨Z, ow, ρ, h, ρ', r, e, k⟩ => by
  simp only [ev] at e
  split at e
  · rename_i d q
    cases e
    obtain ⟨a, xs, e1, e2, e3, e4⟩ := r.own i d q
    exact ⟨.ref a, e1, fun l => k _ H (hK ▸ l) (by rw [if_neg (by decide)]; exact ⟨.refl, r, e1⟩)⟩
  · cases e
theorem de_const {t : V} {d : D} (hK : X.K = g.K) (he : PE X e (tC t)) (hr : ∀ H, Rep g H t d) : PE X e (tE g false fun ρ => some (.v d, ρ)) := PE.of he fun σ H Q l ⟨Z, ow, ρ, h, ρ', r, e, k⟩ => by
  cases e
  exact fun l => k t H (hK ▸ l) (by rw [if_neg (by decide)]; exact ⟨.refl, r, hr _⟩)
theorem bindS {α β : Type} {o : Option α} {f : α → Option β} {b : β} : (o >>= f) = some b ↔ ∃ a, o = some a ∧ f a = some b := by
  cases o <;> simp
/-- two operands and an operation by values -/
theorem de_bin {f : D → D → Option D} (hK : X.K = g.K) (he : PE X e (tOp (rB g f) (tE g false fa) (tE g false fb))) :
    PE X e (tE g false fun ρ => do
      let (x, ρ) ← fa ρ
      let (y, ρ) ← fb ρ
      let x ← x.at ρ
      let y ← y.at ρ
      let d ← f x y
      some (.v d, ρ)) := PE.of he fun σ H Q l ⟨Z, ow, ρ, h, ρ', r, e, k⟩ => by
  simp only [bindS] at e
  obtain ⟨⟨hx, ρ1⟩, e1, ⟨hy, ρ2⟩, e2, x, e3, y, e4, d, e5, e6⟩ := e
  cases e6
  refine ⟨Z, ow, ρ, hx, ρ1, r, e1, fun v1 H1 l1 p1 => ?_⟩
  rw [if_neg (by decide)] at p1
  refine ⟨Z, ow, ρ1, hy, ρ2, p1.rel, e2, fun v2 H2 l2 p2 => ?_⟩
  rw [if_neg (by decide)] at p2
  refine ⟨Or2 Z ow, x, y, d, p2.rel.dom, (p1.rep.fr p2.fr r.zb).at p2.rel e3, p2.rep.at p2.rel e4, e5, fun v H' l' s _ => k v H' l' ?_⟩
  rw [if_neg (by decide)]
  exact ⟨(p1.fr.trans p2.fr).trans (.of_same s.1), p2.rel.ext s.1, s.2⟩
theorem de_op {op : Operator} {f : D → D → Option D} (hK : X.K = g.K) (ho : OpR X (binaryOp op) (rB g f)) (ha : PE X a (tE g na fa)) (hb : PE X b (tE g nb fb)) :
    PE X (.BinOp a op b pos) (tE g false fun ρ => do
      let (x, ρ) ← fa ρ
      let (y, ρ) ← fb ρ
      let x ← x.at ρ
      let y ← y.at ρ
      let d ← f x y
      some (.v d, ρ)) := de_bin hK (pe_op ho (de_old ha) (de_old hb))
theorem de_cmp {op : CmpOp} {f : D → D → Option D} (hK : X.K = g.K) (ho : OpR X (compareOp op) (rB g f)) (ha : PE X a (tE g na fa)) (hb : PE X b (tE g nb fb)) (hm : behindInMarks op b = false) :
    PE X (.Compare a [op] [b] pos) (tE g false fun ρ => do
      let (x, ρ) ← fa ρ
      let (y, ρ) ← fb ρ
      let x ← x.at ρ
      let y ← y.at ρ
      let d ← f x y
      some (.v d, ρ)) := de_bin hK (pe_cmpR ho (de_old ha) (de_old hb) hm)
end
end PV

end
section
set_option Elab.async false
set_option linter.all false
set_option maxRecDepth 100000
set_option maxHeartbeats 1000000
/-! DY: expressions, further. -/
namespace PV
open PySem PySem.Spec PyProof.Rows L2
theorem truV_of {g : G} {Y : Addr → Bool} {H : Hp} {v : V} {d : D} {k : Bool} (h : RepP g Y H v d) (e : tru d = some k) : TruV g.K v H k := by
  cases d with
  | non => obtain rfl := h.non; cases e; rfl
  | bl b => obtain rfl := h.bl; cases e; rfl
  | int b => obtain rfl := h.int; cases e; rfl
  | str x =>
    obtain rfl := h.str
    simp only [tru] at e
    split at e
    · rename_i hl; cases e; exact ⟨hl, rfl⟩
    · cases e
  | tup ds =>
    obtain ⟨p, xs, rfl, h1, h2⟩ := h.tup
    cases e
    refine .inr (.inl ⟨xs, sqT_hid h1, ?_⟩)
    have := h2.length
    cases xs <;> cases ds <;> first | rfl | cases this
  | lst ds =>
    obtain ⟨p, xs, rfl, h1, h2⟩ := h.lst
    cases e
    refine .inl ⟨xs, SqL.of h1, ?_⟩
    have := h2.length
    cases xs <;> cases ds <;> first | rfl | cases this
  | box => cases e
section
variable {X : Cx} {g : G} {a b c e : Expr} {fa fb fc : Ev} {na nb nc : Bool} {pos : Pos}
theorem tstR_some {r : Option (Hd × Env)} {b : Bool} {ρ' : Env} : tstR r = some (b, ρ') ↔ ∃ h x, r = some (h, ρ') ∧ h.at ρ' = some x ∧ tru x = some b := by
  cases r with
  | none => simp [tstR]
  | some p =>
    obtain ⟨h, ρ⟩ := p
    simp only [tstR, bindS]
    constructor
    · rintro ⟨x, e1, k, e2, e3⟩
      cases e3
      exact ⟨h, x, rfl, e1, e2⟩
    · rintro ⟨h', x, e0, e1, e2⟩
      cases e0
      exact ⟨x, e1, b, e2, rfl⟩
theorem dt_truth (hK : X.K = g.K) (ha : PE X a (tE g na fa)) (he : ∀ whole, isTrue a X.env whole = (do let v ← whole; standAt a.pos; holding [v] (truthy v))) : PT X a (tTs g fun ρ => tstR (fa ρ)) :=
  PT.of (pt_truth (de_old ha) he) fun σ H Q l ⟨Z, ow, ρ, b, ρ', r, e, k⟩ => by
    obtain ⟨h, x, e1, e2, e3⟩ := tstR_some.mp e
    refine ⟨Z, ow, ρ, h, ρ', r, e1, fun v H' l' p => ⟨b, ?_, fun l2 => ?_⟩⟩
    · rw [if_neg (by decide)] at p
      rw [hK]; exact truV_of (p.rep.at p.rel e2) e3
    · rw [if_neg (by decide)] at p
      exact k H' l' p.fr p.rel
/-- a comparison as a test -/
theorem dt_bin {f : D → D → Option D} (hK : X.K = g.K) (hf : ∀ a b d, f a b = some d → ∃ k, d = .bl k) (he : PT X e (tTest (tOp (rB g f) (tE g false fa) (tE g false fb)))) :
    PT X e (tTs g fun ρ => tstR (do
      let (x, ρ) ← fa ρ
      let (y, ρ) ← fb ρ
      let x ← x.at ρ
      let y ← y.at ρ
      let d ← f x y
      some (.v d, ρ))) := PT.of he fun σ H Q l ⟨Z, ow, ρ, k, ρ', r, e, kk⟩ => by
  obtain ⟨h, x, e, ex, et⟩ := tstR_some.mp e
  simp only [bindS] at e
  obtain ⟨⟨hx, ρ1⟩, e1, ⟨hy, ρ2⟩, e2, x1, e3, y, e4, d, e5, e6⟩ := e
  cases e6
  cases ex
  refine ⟨Z, ow, ρ, hx, ρ1, r, e1, fun v1 H1 l1 p1 => ?_⟩
  rw [if_neg (by decide)] at p1
  refine ⟨Z, ow, ρ1, hy, _, p1.rel, e2, fun v2 H2 l2 p2 => ?_⟩
  rw [if_neg (by decide)] at p2
  refine ⟨Or2 Z ow, x1, y, x, p2.rel.dom, (p1.rep.fr p2.fr r.zb).at p2.rel e3, p2.rep.at p2.rel e4, e5, fun v H' l' s => ?_⟩
  obtain ⟨k', rfl⟩ := hf _ _ _ e5
  cases et
  obtain ⟨s1, s2⟩ := s
  cases s2
  exact ⟨_, rfl, fun _ => kk H' l' ((p1.fr.trans p2.fr).trans (.of_same s1)) (p2.rel.ext s1)⟩
theorem dt_cmp {op : CmpOp} {f : D → D → Option D} (hK : X.K = g.K) (hf : ∀ a b d, f a b = some d → ∃ k, d = .bl k) (ho : OpR X (compareOp op) (rB g f)) (ha : PE X a (tE g na fa)) (hb : PE X b (tE g nb fb)) (hm : behindInMarks op b = false) :
    PT X (.Compare a [op] [b] pos) (tTs g fun ρ => tstR (do
      let (x, ρ) ← fa ρ
      let (y, ρ) ← fb ρ
      let x ← x.at ρ
      let y ← y.at ρ
      let d ← f x y
      some (.v d, ρ))) := dt_bin hK hf (pt_cmpR ho (de_old ha) (de_old hb) hm)
/-- a < b < c -/
def chF (f1 f2 : D → D → Option D) (fa fb fc : Ev) : Ev := fun ρ => do
    let (x, ρ) ← fa ρ
    let (y, ρ) ← fb ρ
    let x ← x.val
    let y ← y.val
    match ← f1 x y with
    | .bl true => do
      let (z, ρ) ← fc ρ
      let z ← z.at ρ
      let d ← f2 y z
      some (.v d, ρ)
    | .bl false => some (.v (.bl false), ρ)
    | _ => none
theorem ch_read {f1 f2 : D → D → Option D} (hK : X.K = g.K) (hf1 : ∀ a b d, f1 a b = some d → ∃ k, d = .bl k) {σ : L2.St} {H : Hp} {Q : VK} {Z ow : Addr → Bool} {ρ ρ' : Env} {h : Hd} (r : Rel g Z ow σ H ρ) (e : chF f1 f2 fa fb fc ρ = some (h, ρ'))
    (k : ∀ v H', LenOk g.K H' → Pst g Z ow σ H H' ρ' v h → Q v H') : tChain (rB g f1) (rB g f2) (tE g false fa) (tE g false fb) (tE g false fc) σ H Q := by
  simp only [chF, bindS] at e
  obtain ⟨⟨hx, ρ1⟩, e1, ⟨hy, ρ2⟩, e2, x, e3, y, e4, d, e5, e6⟩ := e
  refine ⟨Z, ow, ρ, hx, ρ1, r, e1, fun v1 H1 l1 p1 => ?_⟩
  rw [if_neg (by decide)] at p1
  refine ⟨Z, ow, ρ1, hy, ρ2, p1.rel, e2, fun v2 H2 l2 p2 => ?_⟩
  rw [if_neg (by decide)] at p2
  have hxr := (p1.rep.fr p2.fr r.zb).val e3
  have hyr := p2.rep.val e4
  refine ⟨Or2 Z ow, x, y, d, p2.rel.dom, .inl hxr, .inl hyr, e5, fun v H3 l3 s => ?_⟩
  obtain ⟨k', rfl⟩ := hf1 _ _ _ e5
  obtain ⟨s1, s2⟩ := s
  cases s2
  have fr3 : Fr g ow H H3 := (p1.fr.trans p2.fr).trans (.of_same s1)
  have rel3 := p2.rel.ext s1
  refine ⟨_, rfl, ?_⟩
  cases k' with
  | false =>
    cases e6
    exact iteF (k _ _ l3 ⟨fr3, rel3, .bl _⟩)
  | true =>
    simp only [bindS] at e6
    obtain ⟨⟨hz, ρ3⟩, e7, z, e8, d, e9, e10⟩ := e6
    cases e10
    refine iteT ⟨Z, ow, ρ2, hz, _, rel3, e7, fun v4 H4 l4 p4 => ?_⟩
    rw [if_neg (by decide)] at p4
    refine ⟨Or2 Z ow, y, z, d, p4.rel.dom, .inl (Rep.mono ((Fr.of_same s1).trans p4.fr |>.hid r.zb) hyr), p4.rep.at p4.rel e8, e9, fun v5 H5 l5 s5 => ?_⟩
    exact k _ _ l5 ⟨(fr3.trans p4.fr).trans (.of_same s5.1), p4.rel.ext s5.1, s5.2⟩
theorem de_chain {o1 o2 : CmpOp} {f1 f2 : D → D → Option D} (hK : X.K = g.K) (hf1 : ∀ a b d, f1 a b = some d → ∃ k, d = .bl k) (h1 : OpR X (compareOp o1) (rB g f1)) (h2 : OpR X (compareOp o2) (rB g f2))
    (ha : PE X a (tE g na fa)) (hb : PE X b (tE g nb fb)) (hc : PE X c (tE g nc fc)) (hm : lastMarks [o1, o2] [b, c] = false) : PE X (.Compare a [o1, o2] [b, c] pos) (tE g false (chF f1 f2 fa fb fc)) :=
  PE.of (pe_chain h1 h2 (de_old ha) (de_old hb) (de_old hc) hm) fun σ H Q l ⟨Z, ow, ρ, h, ρ', r, e, k⟩ => ch_read hK hf1 r e fun v H' l p _ => k v H' l (by rw [if_neg (by decide)]; exact p)
theorem dt_chain {o1 o2 : CmpOp} {f1 f2 : D → D → Option D} (hK : X.K = g.K) (hf1 : ∀ a b d, f1 a b = some d → ∃ k, d = .bl k) (hf2 : ∀ a b d, f2 a b = some d → ∃ k, d = .bl k) (h1 : OpR X (compareOp o1) (rB g f1)) (h2 : OpR X (compareOp o2) (rB g f2))
    (ha : PE X a (tE g na fa)) (hb : PE X b (tE g nb fb)) (hc : PE X c (tE g nc fc)) (hm : lastMarks [o1, o2] [b, c] = false) : PT X (.Compare a [o1, o2] [b, c] pos) (tTs g fun ρ => tstR (chF f1 f2 fa fb fc ρ)) :=
  PT.of (pt_chain h1 h2 (de_old ha) (de_old hb) (de_old hc) hm) fun σ H Q l ⟨Z, ow, ρ, b, ρ', r, e, k⟩ => by
    obtain ⟨h, x, e, ex, et⟩ := tstR_some.mp e
    have hb : ∃ k, h = .v (.bl k) := by
      simp only [chF, bindS] at e
      obtain ⟨⟨hx, ρ1⟩, e1, ⟨hy, ρ2⟩, e2, x, e3, y, e4, d, e5, e6⟩ := e
      obtain ⟨k', rfl⟩ := hf1 _ _ _ e5
      cases k' with
      | false => cases e6; exact ⟨_, rfl⟩
      | true =>
        simp only [bindS] at e6
        obtain ⟨⟨hz, ρ3⟩, e7, z, e8, d, e9, e10⟩ := e6
        cases e10
        obtain ⟨k', rfl⟩ := hf2 _ _ _ e9
        exact ⟨_, rfl⟩
    obtain ⟨kb, rfl⟩ := hb
    cases ex
    cases et
    have := ch_read (Q := fun v H' => ∃ k', v = .bl k' ∧ (LenOk X.K H' → Q k' H')) hK hf1 r e fun v H' l p => by
      have q := p.rep
      cases q
      exact ⟨_, rfl, fun _ => k H' l p.fr p.rel⟩
    exact this
theorem dt_not (hK : X.K = g.K) (ha : PT X a (tTs g fun ρ => tstR (fa ρ))) : PT X (.UnaryOp .Not a pos) (tTs g fun ρ => tstR (do
    let (b, ρ) ← tstR (fa ρ)
    some (.v (.bl !b), ρ))) := PT.of (pt_not ha) fun σ H Q l ⟨Z, ow, ρ, b, ρ', r, e, k⟩ => by
  obtain ⟨h, x, e, ex, et⟩ := tstR_some.mp e
  simp only [bindS] at e
  obtain ⟨⟨b', ρ1⟩, e1, e2⟩ := e
  cases e2; cases ex; cases et
  exact ⟨Z, ow, ρ, b', _, r, e1, fun H' l' f r' _ => k H' l' f r'⟩
theorem de_not (hK : X.K = g.K) (ha : PE X a (tE g na fa)) : PE X (.UnaryOp .Not a pos) (tE g false fun ρ => do
    let (b, ρ) ← tstR (fa ρ)
    some (.v (.bl !b), ρ)) := PE.of (pe_notT (de_old ha)) fun σ H Q l ⟨Z, ow, ρ, h, ρ', r, e, k⟩ => by
  simp only [bindS] at e
  obtain ⟨⟨b', ρ1⟩, e1, e2⟩ := e
  cases e2
  obtain ⟨hx, x, e3, ex, et⟩ := tstR_some.mp e1
  refine ⟨Z, ow, ρ, hx, _, r, e3, fun v H' l' p => ?_⟩
  rw [if_neg (by decide)] at p
  exact ⟨b', by rw [hK]; exact truV_of (p.rep.at p.rel ex) et, fun _ => k _ _ l' (by rw [if_neg (by decide)]; exact ⟨p.fr, p.rel, .bl _⟩)⟩
/-! and, or, if -/
def andF (fa fb : Ev) : Ev := fun ρ => do
    let (h, ρ) ← fa ρ
    let x ← h.at ρ
    match ← tru x with
    | true => fb ρ
    | false => some (h, ρ)
def orF (fa fb : Ev) : Ev := fun ρ => do
    let (h, ρ) ← fa ρ
    let x ← h.at ρ
    match ← tru x with
    | true => some (h, ρ)
    | false => fb ρ
variable {rest : List Expr}
theorem de_and (hK : X.K = g.K) (ha : PE X a (tE g na fa)) (hb : PE X (.BoolOp .And (b :: rest) pos) (tE g nb fb)) : PE X (.BoolOp .And (a :: b :: rest) pos) (tE g false (andF fa fb)) :=
  PE.of (pe_andT (de_old ha) (de_old hb)) fun σ H Q l ⟨Z, ow, ρ, h, ρ', r, e, k⟩ => by
    simp only [andF, bindS] at e
    obtain ⟨⟨hx, ρ1⟩, e1, x, e2, t, e3, e4⟩ := e
    refine ⟨Z, ow, ρ, hx, ρ1, r, e1, fun v H1 l1 p => ?_⟩
    rw [if_neg (by decide)] at p
    refine ⟨t, by rw [hK]; exact truV_of (p.rep.at p.rel e2) e3, ?_⟩
    cases t with
    | true =>
      refine iteT ⟨Z, ow, ρ1, h, ρ', p.rel, e4, fun v2 H2 l2 p2 _ => ?_⟩
      rw [if_neg (by decide)] at p2
      exact k _ _ l2 (by rw [if_neg (by decide)]; exact ⟨p.fr.trans p2.fr, p2.rel, p2.rep⟩)
    | false =>
      cases e4
      exact iteF fun _ => k _ _ l1 (by rw [if_neg (by decide)]; exact p)
theorem de_or (hK : X.K = g.K) (ha : PE X a (tE g na fa)) (hb : PE X (.BoolOp .Or (b :: rest) pos) (tE g nb fb)) : PE X (.BoolOp .Or (a :: b :: rest) pos) (tE g false (orF fa fb)) :=
  PE.of (pe_orT (de_old ha) (de_old hb)) fun σ H Q l ⟨Z, ow, ρ, h, ρ', r, e, k⟩ => by
    simp only [orF, bindS] at e
    obtain ⟨⟨hx, ρ1⟩, e1, x, e2, t, e3, e4⟩ := e
    refine ⟨Z, ow, ρ, hx, ρ1, r, e1, fun v H1 l1 p => ?_⟩
    rw [if_neg (by decide)] at p
    refine ⟨t, by rw [hK]; exact truV_of (p.rep.at p.rel e2) e3, ?_⟩
    cases t with
    | false =>
      refine iteF ⟨Z, ow, ρ1, h, ρ', p.rel, e4, fun v2 H2 l2 p2 _ => ?_⟩
      rw [if_neg (by decide)] at p2
      exact k _ _ l2 (by rw [if_neg (by decide)]; exact ⟨p.fr.trans p2.fr, p2.rel, p2.rep⟩)
    | true =>
      cases e4
      exact iteT fun _ => k _ _ l1 (by rw [if_neg (by decide)]; exact p)
theorem PW.of {t t0 : TT} (h : PW X e t0) (imp : ∀ σ H Q, LenOk X.K H → t σ H Q → t0 σ H (fun v H' => LenOk X.K H' → Q v H')) : PW X e t := ⟨fun wh pins s σ H Q I hw =>
  thn (h.run wh pins s σ H _ I (imp σ H Q (Inv.lenOk I) hw)) fun u s' ⟨H', I', q⟩ => ⟨H', I', q (Inv.lenOk I')⟩⟩
theorem dw_and (hK : X.K = g.K) (ha : PT X a (tTs g fun ρ => tstR (fa ρ))) (hb : PW X (.BoolOp .And (b :: rest) pos) (tTs g fun ρ => tstR (fb ρ))) : PW X (.BoolOp .And (a :: b :: rest) pos) (tTs g fun ρ => tstR (andF fa fb ρ)) :=
  PW.of (pw_and ha hb) fun σ H Q l ⟨Z, ow, ρ, c, ρ', r, e, k⟩ => by
    obtain ⟨h, x', e, ex, et⟩ := tstR_some.mp e
    simp only [andF, bindS] at e
    obtain ⟨⟨hx, ρ1⟩, e1, x, e2, t, e3, e4⟩ := e
    refine ⟨Z, ow, ρ, t, ρ1, r, tstR_some.mpr ⟨hx, x, e1, e2, e3⟩, fun H1 l1 f1 r1 => ?_⟩
    cases t with
    | true => exact iteT ⟨Z, ow, ρ1, c, ρ', r1, tstR_some.mpr ⟨h, x', e4, ex, et⟩, fun H2 l2 f2 r2 _ => k H2 l2 (f1.trans f2) r2⟩
    | false =>
      cases e4
      rw [e2] at ex; cases ex
      rw [e3] at et; cases et
      exact iteF fun _ => k H1 l1 f1 r1
theorem dw_or (hK : X.K = g.K) (ha : PT X a (tTs g fun ρ => tstR (fa ρ))) (hb : PW X (.BoolOp .Or (b :: rest) pos) (tTs g fun ρ => tstR (fb ρ))) : PW X (.BoolOp .Or (a :: b :: rest) pos) (tTs g fun ρ => tstR (orF fa fb ρ)) :=
  PW.of (pw_or ha hb) fun σ H Q l ⟨Z, ow, ρ, c, ρ', r, e, k⟩ => by
    obtain ⟨h, x', e, ex, et⟩ := tstR_some.mp e
    simp only [orF, bindS] at e
    obtain ⟨⟨hx, ρ1⟩, e1, x, e2, t, e3, e4⟩ := e
    refine ⟨Z, ow, ρ, t, ρ1, r, tstR_some.mpr ⟨hx, x, e1, e2, e3⟩, fun H1 l1 f1 r1 => ?_⟩
    cases t with
    | false => exact iteF ⟨Z, ow, ρ1, c, ρ', r1, tstR_some.mpr ⟨h, x', e4, ex, et⟩, fun H2 l2 f2 r2 _ => k H2 l2 (f1.trans f2) r2⟩
    | true =>
      cases e4
      rw [e2] at ex; cases ex
      rw [e3] at et; cases et
      exact iteT fun _ => k H1 l1 f1 r1
def iteFn (fc fa fb : Ev) : Ev := fun ρ => do
    let (t, ρ) ← tstR (fc ρ)
    match t with
    | true => fa ρ
    | false => fb ρ
theorem de_ite {nab : Bool} (hK : X.K = g.K) (hc : PT X c (tTs g fun ρ => tstR (fc ρ))) (ha : PE X a (tE g nab fa)) (hb : PE X b (tE g nab fb)) : PE X (.IfExp c a b pos) (tE g nab (iteFn fc fa fb)) :=
  PE.of (pe_ifExp hc ha hb) fun σ H Q l ⟨Z, ow, ρ, h, ρ', r, e, k⟩ => by
    simp only [iteFn, bindS] at e
    obtain ⟨⟨t, ρ1⟩, e1, e2⟩ := e
    refine ⟨Z, ow, ρ, t, ρ1, r, e1, fun H1 l1 f1 r1 => ?_⟩
    have fin : ∀ v H', LenOk g.K H' → (if nab = true then PstN g Z ow σ H1 H' ρ' v h else Pst g Z ow σ H1 H' ρ' v h) → LenOk X.K H' → Q v H' := fun v H' l' p _ => k v H' l' (by
      cases nab with
      | true =>
        rw [if_pos rfl] at p ⊢
        obtain ⟨H2, p, xs, ds, q1, q2, q3, q4, q5, q6, q7⟩ := p.ex
        exact ⟨⟨H2, p, xs, ds, q1, q2, q3, q4, q5, q6, f1.trans q7⟩⟩
      | false =>
        rw [if_neg (by decide)] at p ⊢
        exact ⟨f1.trans p.fr, p.rel, p.rep⟩)
    cases t with
    | true => exact iteT ⟨Z, ow, ρ1, h, ρ', r1, e2, fin⟩
    | false => exact iteF ⟨Z, ow, ρ1, h, ρ', r1, e2, fin⟩
theorem dt_ite (hK : X.K = g.K) (hc : PT X c (tTs g fun ρ => tstR (fc ρ))) (ha : PT X a (tTs g fun ρ => tstR (fa ρ))) (hb : PT X b (tTs g fun ρ => tstR (fb ρ))) : PT X (.IfExp c a b pos) (tTs g fun ρ => tstR (iteFn fc fa fb ρ)) := by
  refine PT.of (t0 := fun σ H Q => tTs g (fun ρ => tstR (fc ρ)) σ H fun k H1 => if k = true then tTs g (fun ρ => tstR (fa ρ)) σ H1 Q else tTs g (fun ρ => tstR (fb ρ)) σ H1 Q) ?_ ?_
  · refine ⟨fun pins s σ H Q I h => ?_⟩
    show wpAny _ _ (do if ← isTrue c X.env (eval c X.env) then isTrue a X.env (eval a X.env) else isTrue b X.env (eval b X.env)) _ _ s
    refine wpAny_bind (thn (hc.run pins s σ H _ I h) fun k s1 ⟨H1, I1, q⟩ => ?_)
    cases k with
    | true => exact ha.run pins s1 σ H1 Q I1 q
    | false => exact hb.run pins s1 σ H1 Q I1 q
  · intro σ H Q l ⟨Z, ow, ρ, k, ρ', r, e, kk⟩
    obtain ⟨h, x', e, ex, et⟩ := tstR_some.mp e
    simp only [iteFn, bindS] at e
    obtain ⟨⟨t, ρ1⟩, e1, e2⟩ := e
    refine ⟨Z, ow, ρ, t, ρ1, r, e1, fun H1 l1 f1 r1 => ?_⟩
    cases t with
    | true => exact iteT ⟨Z, ow, ρ1, k, ρ', r1, tstR_some.mpr ⟨h, x', e2, ex, et⟩, fun H2 l2 f2 r2 _ => kk H2 l2 (f1.trans f2) r2⟩
    | false => exact iteF ⟨Z, ow, ρ1, k, ρ', r1, tstR_some.mpr ⟨h, x', e2, ex, et⟩, fun H2 l2 f2 r2 _ => kk H2 l2 (f1.trans f2) r2⟩
end
end PV

end
section
set_option Elab.async false
set_option linter.all false
set_option maxRecDepth 100000
set_option maxHeartbeats 1000000
/-! DZ: calls, displays, subscripts. -/
namespace PV
open PySem PySem.Spec PyProof.Rows L2
def plain : Expr → Bool
  | .Starred .. => false
  | .Set .. => false
  | _ => true
theorem star_plain {e : Expr} {es : List Expr} {env : PySem.Env} (h : plain e = true) : starEach (e :: es) env = (false, eval e env) :: starEach es env := by
  cases e <;> first | rfl | cases h
theorem star_any : ∀ {es : List Expr} {env : PySem.Env} {pos : Pos}, es.all plain = true → (backTo pos (starEach es env)).any (·.1) = false
  | [], _, _, _ => rfl
  | e :: es, env, pos, h => by
    simp only [List.all_cons, Bool.and_eq_true] at h
    rw [star_plain h.1]
    show (false || (backTo pos (starEach es env)).any (·.1)) = false
    rw [star_any h.2]; rfl
theorem mark_plain {e : Expr} {op : CmpOp} (h : plain e = true) : behindInMarks op e = false := by
  cases e <;> first | rfl | cases h
theorem marks_plain {b c : Expr} {o1 o2 : CmpOp} (h : plain c = true) : lastMarks [o1, o2] [b, c] = false := by
  show behindInMarks o2 c = false
  exact mark_plain h
section
variable {X : Cx} {g : G} {a b c e : Expr} {es : List Expr} {fa fb fc : Ev} {na nb nc : Bool} {pos : Pos} {fs : Env → Option (List Hd × Env)}
theorem PA.of {t t0 : TA} (h : PA X es t0) (imp : ∀ σ H Q, LenOk X.K H → t σ H Q → t0 σ H (fun v H' => LenOk X.K H' → Q v H')) : PA X es t := ⟨fun pos pins s σ H Q I hw =>
  thn (h.run pos pins s σ H _ I (imp σ H Q (Inv.lenOk I) hw)) fun u s' ⟨v, H', I', r, q⟩ => ⟨v, H', I', r, q (Inv.lenOk I')⟩⟩
theorem HRepL.length {Z ow : Addr → Bool} {σ : L2.St} {H : Hp} : ∀ {vs : List V} {hs : List Hd}, HRepL g Z ow σ H vs hs → vs.length = hs.length
  | _, _, .nil => rfl
  | _, _, .cons _ h => by simp [HRepL.length h]
theorem da_nil (hK : X.K = g.K) : PA X [] (tAs g fun ρ => some ([], ρ)) := PA.of pa_nil fun σ H Q l ⟨Z, ow, ρ, hs, ρ', r, e, k⟩ => by
  cases e
  exact fun l => k _ _ (hK ▸ l) .refl r .nil
theorem da_cons (hK : X.K = g.K) (he : PE X e (tE g na fa)) (hs : PA X es (tAs g fs)) (hp : plain e = true) : PA X (e :: es) (tAs g fun ρ => do
    let (h, ρ) ← fa ρ
    let (hs, ρ) ← fs ρ
    some (h :: hs, ρ)) := PA.of (pa_cons (de_old he) hs (star_plain hp)) fun σ H Q l ⟨Z, ow, ρ, hs, ρ', r, e, k⟩ => by
  simp only [bindS] at e
  obtain ⟨⟨h1, ρ1⟩, e1, ⟨hs2, ρ2⟩, e2, e3⟩ := e
  cases e3
  refine ⟨Z, ow, ρ, h1, ρ1, r, e1, fun v H1 l1 p => ?_⟩
  rw [if_neg (by decide)] at p
  exact ⟨Z, ow, ρ1, hs2, _, p.rel, e2, fun vs H2 l2 f2 r2 q2 _ => k _ _ l2 (p.fr.trans f2) r2 (.cons (p.rep.fr f2 r.zb) q2)⟩
theorem de_tup {x1 : Nat} (hK : X.K = g.K) (hs : PA X es (tAs g fs)) (hz : es.length ≤ 1000) (hl : ∀ ρ hs ρ', fs ρ = some (hs, ρ') → hs.length = es.length) : PE X (.Tuple es x1 pos) (tE g false fun ρ => do
    let (hs, ρ) ← fs ρ
    let ds ← valL hs
    some (.v (.tup ds), ρ)) := PE.of (st_tup hs) fun σ H Q l ⟨Z, ow, ρ, h, ρ', r, e, k⟩ => by
  simp only [bindS] at e
  obtain ⟨⟨hs', ρ1⟩, e1, ds, e2, e3⟩ := e
  cases e3
  refine ⟨Z, ow, ρ, hs', ρ1, r, e1, fun vs H1 l1 f1 r1 q1 => ?_⟩
  have q := q1.val e2
  refine ⟨?_, fun p o hp ho l2 => ?_⟩
  · have : vs.length = hs'.length := by
      exact q1.length
    have h1 := hl _ _ _ e1
    have h2 : (1000 : Nat) < sizeLine := by rw [sizeLine_eq]; decide
    omega
  · have s := res_tup r1.dom hp ho q
    exact k _ _ (hK ▸ l2) (by rw [if_neg (by decide)]; exact ⟨f1.trans (.of_same s.1), r1.ext s.1, s.2⟩)
theorem de_lst (hK : X.K = g.K) (hs : PA X es (tAs g fs)) (hz : es.length ≤ 1000) (hl : ∀ ρ hs ρ', fs ρ = some (hs, ρ') → hs.length = es.length) : PE X (.List es pos) (tE g true fun ρ => do
    let (hs, ρ) ← fs ρ
    let ds ← valL hs
    some (.v (.lst ds), ρ)) := PE.of (pe_lst hs) fun σ H Q l ⟨Z, ow, ρ, h, ρ', r, e, k⟩ => by
  simp only [bindS] at e
  obtain ⟨⟨hs', ρ1⟩, e1, ds, e2, e3⟩ := e
  cases e3
  refine ⟨Z, ow, ρ, hs', ρ1, r, e1, fun vs H1 l1 f1 r1 q1 => ?_⟩
  have q := q1.val e2
  refine ⟨?_, fun p hp l2 => ?_⟩
  · have : vs.length = hs'.length := by
      exact q1.length
    have h1 := hl _ _ _ e1
    have h2 : (1000 : Nat) < sizeLine := by rw [sizeLine_eq]; decide
    omega
  · exact k _ _ (hK ▸ l2) (by rw [if_pos rfl]; exact ⟨⟨H1, p, vs, ds, rfl, rfl, hp, rfl, r1, q, f1⟩⟩)

/-! ### subscripts -/
theorem atI_get {ds : List D} {vs : List V} {H : Hp} {i : Int} {d : D} (h : RepL g H vs ds) (e : atI ds i = some d) : ∃ v, atI vs i = some v ∧ Rep g H v d := by
  unfold atI at e ⊢
  rw [h.length]
  cases q : ixN ds.length i with
  | none => rw [q] at e; cases e
  | some j =>
    rw [q] at e
    exact h.get e
theorem ixd (hK : X.K = g.K) : IxR X (rB g dIx) := by
  intro value slice pins s σ H x y v u Q I rx ry ⟨Y, a, b, d, dm, ha, hb, e, k⟩ hs
  have k' : ∀ v H', Res g Y H d v H' → LenOk X.K H' → Q v H' := fun v H' r l => k v H' (hK ▸ l) r
  have I0 := Inv.lenOk I
  cases b with
  | int i =>
    obtain rfl := hb.int
    cases a with
    | lst xs =>
      obtain ⟨p, ws, rfl, h1, h2⟩ := ha.lst
      obtain ⟨w, e1, e2⟩ := atI_get h2 e
      exact ix_list value slice pins s σ H _ _ v u Q I rx ry ⟨p, ws, i, w, rfl, rfl, SqL.of h1, e1, k' _ _ (res_same e2) I0⟩ hs
    | tup xs =>
      obtain ⟨p, ws, rfl, h1, h2⟩ := ha.tup
      obtain ⟨w, e1, e2⟩ := atI_get h2 e
      exact ix_tup value slice pins s σ H _ _ v u Q I rx ry ⟨p, ws, i, w, rfl, rfl, hK ▸ sqT_hid h1, e1, k' _ _ (res_same e2) I0⟩ hs
    | str z =>
      obtain rfl := ha.str
      simp only [dIx] at e
      split at e
      · rename_i hl
        simp only [Option.map_eq_some_iff] at e
        obtain ⟨c, e1, rfl⟩ := e
        exact ix_str value slice pins s σ H _ _ v u Q I rx ry ⟨z, i, c, rfl, rfl, hl, e1, k' _ _ (res_same (.str _)) I0⟩ hs
      · cases e
    | _ => cases e
  | _ => cases a <;> cases e
def ixOk : Expr → Bool
  | .Slice .. => false
  | .Tuple .. => false
  | _ => true
theorem de_ix (hK : X.K = g.K) (ha : PE X a (tE g na fa)) (hb : PE X b (tE g nb fb)) (hp : PlainIx b) : PE X (.Subscript a b pos) (tE g false fun ρ => do
      let (x, ρ) ← fa ρ
      let (y, ρ) ← fb ρ
      let x ← x.at ρ
      let y ← y.at ρ
      let d ← dIx x y
      some (.v d, ρ)) := de_bin hK (pe_ix (ixd hK) (de_old ha) (de_old hb) hp)
theorem plainIx_of {b : Expr} (h : ixOk b = true) : PlainIx b := by
  cases b <;> first | (intro _ _; rfl) | cases h
/-! ### slices -/
def tOs (g : G) (f : Env → Option (Option Int × Env)) : TO := fun σ H Q => ∃ Z ow ρ o ρ', Rel g Z ow σ H ρ ∧ f ρ = some (o, ρ') ∧ ∀ H', LenOk g.K H' → Fr g ow H H' → Rel g Z ow σ H' ρ' → Q o H'
theorem PO.of {o : Option Expr} {t t0 : TO} (h : PO X o t0) (imp : ∀ σ H Q, LenOk X.K H → t σ H Q → t0 σ H (fun v H' => LenOk X.K H' → Q v H')) : PO X o t := ⟨fun pins s σ H Q I hw =>
  thn (h.run pins s σ H _ I (imp σ H Q (Inv.lenOk I) hw)) fun u s' ⟨o, H', I', r, q⟩ => ⟨o, H', I', r, q (Inv.lenOk I')⟩⟩
theorem do_none (hK : X.K = g.K) : PO X none (tOs g fun ρ => some (none, ρ)) := PO.of po_none fun σ H Q l ⟨Z, ow, ρ, o, ρ', r, e, k⟩ => by
  cases e
  exact fun l => k _ (hK ▸ l) .refl r
theorem do_some (hK : X.K = g.K) (ha : PE X a (tE g na fa)) : PO X (some a) (tOs g fun ρ => do
    let (x, ρ) ← fa ρ
    match x with
    | .v (.int i) => some (some i, ρ)
    | _ => none) := PO.of (po_some (de_old ha)) fun σ H Q l ⟨Z, ow, ρ, o, ρ', r, e, k⟩ => by
  simp only [bindS] at e
  obtain ⟨⟨x, ρ1⟩, e1, e2⟩ := e
  refine ⟨Z, ow, ρ, x, ρ1, r, e1, fun v H' l' p => ?_⟩
  rw [if_neg (by decide)] at p
  match x, e2 with
  | .v (.int i), e2 =>
    cases e2
    have := p.rep
    cases this
    exact ⟨i, rfl, fun _ => k _ l' p.fr p.rel⟩
def rS (g : G) (f : D → Option Int → Option Int → Option D) : V → Option Int → Option Int → Hp → VK → Prop := fun x lo hi H Q => ∃ Y a d, Dom Y H ∧ RepP g Y H x a ∧ f a lo hi = some d ∧ ∀ v H', LenOk g.K H' → Res g Y H d v H' → Q v H'
theorem SlR.len {r : V → Option Int → Option Int → Hp → VK → Prop} (h : SlR X r) : SlR X (fun x lo hi H Q => r x lo hi H (fun v H' => LenOk X.K H' → Q v H')) := fun pins s σ H x v vl vu lo hi sl Q I rx hs pl pu hw => by
  obtain ⟨T, id, a1, a2, a3⟩ := h pins s σ H x v vl vu lo hi sl _ I rx hs pl pu hw
  exact ⟨T, id, a1, a2, thn a3 fun u s' ⟨v, H', I', r, q⟩ => ⟨v, H', I', r, q (Inv.lenOk I')⟩⟩
theorem sld (hK : X.K = g.K) : SlR X (rS g dSl) := by
  intro pins s σ H x v vl vu lo hi sl Q I rx hs pl pu ⟨Y, a, d, dm, ha, e, k⟩
  have k' : ∀ v H', Res g Y H d v H' → LenOk X.K H' → Q v H' := fun v H' r l => k v H' (hK ▸ l) r
  cases a with
  | lst xs =>
    obtain ⟨p, ws, rfl, h1, h2⟩ := ha.lst
    cases e
    exact (SlR.len sl_list) pins s σ H _ v vl vu lo hi sl Q I rx hs pl pu ⟨p, ws, rfl, SqL.of h1, fun q hq => k' _ _ (ResN.res dm ⟨q, _, _, rfl, rfl, hq, rfl, h2.slc lo hi⟩)⟩
  | tup xs =>
    obtain ⟨p, ws, rfl, h1, h2⟩ := ha.tup
    cases e
    refine (SlR.len st_slA) pins s σ H _ v vl vu lo hi sl Q I rx hs pl pu ⟨p, ws, rfl, hK ▸ sqT_hid h1, fun ⟨q1, q2⟩ => k' _ _ (res_same ?_), fun _ q o hq ho => k' _ _ (res_tup dm hq ho (h2.slc lo hi))⟩
    have hl := h2.length
    have : slc xs lo hi = xs := by
      unfold slc
      rw [← hl, q1, q2, hl]
      simp
    rw [this]
    exact .tup h1 h2
  | str z =>
    obtain rfl := ha.str
    simp only [dSl] at e
    split at e
    · rename_i hl
      cases e
      exact (SlR.len sl_str) pins s σ H _ v vl vu lo hi sl Q I rx hs pl pu ⟨z, rfl, hl, k' _ _ (res_same (.str _))⟩
    · cases e
  | _ => cases e
theorem de_sl {lo hi : Option Expr} {fl fh : Env → Option (Option Int × Env)} {p2 : Pos} (hK : X.K = g.K) (ha : PE X a (tE g na fa)) (hl : PO X lo (tOs g fl)) (hh : PO X hi (tOs g fh)) : PE X (.Subscript a (.Slice lo hi none p2) pos) (tE g false fun ρ => do
    let (x, ρ) ← fa ρ
    let (l, ρ) ← fl ρ
    let (u, ρ) ← fh ρ
    let x ← x.at ρ
    let d ← dSl x l u
    some (.v d, ρ)) := PE.of (pe_slice (sld hK) (de_old ha) hl hh) fun σ H Q l ⟨Z, ow, ρ, h, ρ', r, e, k⟩ => by
  simp only [bindS] at e
  obtain ⟨⟨hx, ρ1⟩, e1, ⟨lo', ρ2⟩, e2, ⟨hi', ρ3⟩, e3, x, e4, d, e5, e6⟩ := e
  cases e6
  refine ⟨Z, ow, ρ, hx, ρ1, r, e1, fun v1 H1 l1 p1 => ?_⟩
  rw [if_neg (by decide)] at p1
  refine ⟨Z, ow, ρ1, lo', ρ2, p1.rel, e2, fun H2 l2 f2 r2 => ?_⟩
  refine ⟨Z, ow, ρ2, hi', _, r2, e3, fun H3 l3 f3 r3 => ?_⟩
  refine ⟨Or2 Z ow, x, d, r3.dom, (p1.rep.fr (f2.trans f3) r.zb).at r3 e4, e5, fun v4 H4 l4 s4 _ => ?_⟩
  exact k _ _ l4 (by rw [if_neg (by decide)]; exact ⟨(p1.fr.trans (f2.trans f3)).trans (.of_same s4.1), r3.ext s4.1, s4.2⟩)
theorem de_rev {p1 p2 p3 : Pos} {k1 : Nat} (hK : X.K = g.K) (ha : PE X a (tE g na fa)) : PE X (.Subscript a (.Slice none none (some (.UnaryOp .USub (.Constant (.int 1) k1 p1) p2)) p3) pos) (tE g false fun ρ => do
    let (x, ρ) ← fa ρ
    let x ← x.at ρ
    let d ← dRev x
    some (.v d, ρ)) := PE.of (st_rev (de_old ha)) fun σ H Q l ⟨Z, ow, ρ, h, ρ', r, e, k⟩ => by
  simp only [bindS] at e
  obtain ⟨⟨hx, ρ1⟩, e1, x, e2, d, e3, e4⟩ := e
  cases e4
  refine ⟨Z, ow, ρ, hx, _, r, e1, fun v1 H1 l1 p1 => ?_⟩
  rw [if_neg (by decide)] at p1
  match x, e3 with
  | .lst xs, e3 =>
    cases e3
    obtain ⟨p, ws, rfl, h1, h2⟩ := (p1.rep.at p1.rel e2).lst
    refine ⟨p, ws, rfl, .inl ⟨SqL.of h1, fun q hq l' => k _ _ (hK ▸ l') ?_⟩⟩
    have s : Res g (Or2 Z ow) H1 (.lst xs.reverse) (.ref q) (upd H1 q (.lst ws.reverse)) := ResN.res p1.rel.dom ⟨q, _, _, rfl, rfl, hq, rfl, h2.rev⟩
    rw [if_neg (by decide)]
    exact ⟨p1.fr.trans (.of_same s.1), p1.rel.ext s.1, s.2⟩
  | .tup xs, e3 =>
    cases e3
    obtain ⟨p, ws, rfl, h1, h2⟩ := (p1.rep.at p1.rel e2).tup
    refine ⟨p, ws, rfl, .inr ⟨hK ▸ sqT_hid h1, fun q o hq ho l' => k _ _ (hK ▸ l') ?_⟩⟩
    have s : Res g (Or2 Z ow) H1 (.tup xs.reverse) (.ref q) (upd H1 q (.frz o (.tup ws.reverse))) := res_tup p1.rel.dom hq ho h2.rev
    rw [if_neg (by decide)]
    exact ⟨p1.fr.trans (.of_same s.1), p1.rel.ext s.1, s.2⟩
/-! ### - and built-ins -/
theorem de_neg (hK : X.K = g.K) (ha : PE X a (tE g na fa)) : PE X (.UnaryOp .USub a pos) (tE g false fun ρ => do
    let (x, ρ) ← fa ρ
    let x ← x.at ρ
    let d ← dNeg x
    some (.v d, ρ)) := PE.of (pe_un un_neg (de_old ha)) fun σ H Q l ⟨Z, ow, ρ, h, ρ', r, e, k⟩ => by
  simp only [bindS] at e
  obtain ⟨⟨hx, ρ1⟩, e1, x, e2, d, e3, e4⟩ := e
  cases e4
  refine ⟨Z, ow, ρ, hx, _, r, e1, fun v1 H1 l1 p1 => ?_⟩
  rw [if_neg (by decide)] at p1
  match x, e3 with
  | .int i, e3 =>
    cases e3
    obtain rfl := (p1.rep.at p1.rel e2).int
    exact ⟨i, rfl, fun l' => k _ _ (hK ▸ l') (by rw [if_neg (by decide)]; exact ⟨p1.fr, p1.rel, .int _⟩)⟩
theorem de_bi0 {n : Bool} {f : List D → Option D} (hK : X.K = g.K) (he : PE X e (tCB (rC g n f) (tAs g fs))) : PE X e (tE g n fun ρ => do
    let (hs, ρ) ← fs ρ
    let ds ← atL hs ρ
    let d ← f ds
    some (.v d, ρ)) := PE.of he fun σ H Q l ⟨Z, ow, ρ, h, ρ', r, e, k⟩ => by
  simp only [bindS] at e
  obtain ⟨⟨hs, ρ1⟩, e1, ds, e2, d, e3, e4⟩ := e
  cases e4
  refine ⟨Z, ow, ρ, hs, _, r, e1, fun vs H1 l1 f1 r1 q1 => ?_⟩
  refine ⟨Or2 Z ow, ds, d, r1.dom, q1.at r1 e2, e3, fun v H' l' p _ => k v H' l' ?_⟩
  cases n with
  | true =>
    rw [if_pos rfl] at p ⊢
    obtain ⟨q, xs, ds', rfl, rfl, hq, rfl, hr⟩ := p
    exact ⟨⟨H1, q, xs, ds', rfl, rfl, hq, rfl, r1, hr, f1⟩⟩
  | false =>
    rw [if_neg (by decide)] at p ⊢
    exact ⟨f1.trans (.of_same p.1), r1.ext p.1, p.2⟩
theorem de_bi {x : PySem.Str} {p : Pos} {id : String} {n : Bool} {f : List D → Option D} (hK : X.K = g.K) (hc : CallR X (.builtin id) (rC g n f)) (hg : Gl X x) (hm : X.mg x = none) (hv : bootBuiltins x = some (.builtin id)) (ha : PA X (e :: es) (tAs g fs))
    (hn : x ≠ "__name__") (hdb : (x == ("__debug__" : PySem.Str)) = false) (hp : (e :: es).all plain = true) : PE X (.Call (.Name x p) (e :: es) [] pos) (tE g n fun ρ => do
    let (hs, ρ) ← fs ρ
    let ds ← atL hs ρ
    let d ← f ds
    some (.v d, ρ)) := by
  have hp' : plain e = true ∧ es.all plain = true := by simpa using hp
  exact de_bi0 hK (pe_callB hc hg hm hv ha hn hdb (star_plain hp'.1) (star_any hp'.2))
theorem de_biT {x : PySem.Str} {p : Pos} {id : String} {n : Bool} {f : List D → Option D} (hK : X.K = g.K) (hc : CallR X (.type id) (rC g n f)) (hg : Gl X x) (hm : X.mg x = none) (hv : bootBuiltins x = some (.type id)) (ha : PA X (e :: es) (tAs g fs))
    (hn : x ≠ "__name__") (hdb : (x == ("__debug__" : PySem.Str)) = false) (hp : (e :: es).all plain = true) : PE X (.Call (.Name x p) (e :: es) [] pos) (tE g n fun ρ => do
    let (hs, ρ) ← fs ρ
    let ds ← atL hs ρ
    let d ← f ds
    some (.v d, ρ)) := by
  have hp' : plain e = true ∧ es.all plain = true := by simpa using hp
  exact de_bi0 hK (pe_callTy hc hg hm hv ha hn hdb (star_plain hp'.1) (star_any hp'.2))
end
end PV

end
section
set_option Elab.async false
set_option linter.all false
set_option maxRecDepth 100000
set_option maxHeartbeats 3200000
/-! DSET: set(..) of ints, sorted or counted; str(n); tuple(range(i, j, k)). -/
namespace PV
open PySem PySem.Spec PyProof.Rows L2
section
variable {P : Program} {w : World} {A : Around} {E : Value → Shared → Prop} {s : Shared}
theorem call_setL {l : Addr} {items : Array Value} (ns : List Int) {Q : Value → Shared → Prop} (hh : A.handled = none) (hl : s.heap.IsList l items) (hit : IntsAre items.toList ns) (hb : ns.length + 1 < scanBound)
    (h : ∀ (h' : Heap) (tk c : Nat), SetR w h' s.heap.objs.size (fun j => decide (j ∈ ns)) c → c ≤ ns.length → (∀ b o, s.heap.get? b = some o → h'.get? b = some o) → Q (.ref s.heap.objs.size) { s with heap := h', toks := tk }) :
    wpAny (model P w) A (call (.type "set") [.ref l]) Q E s := by
  have hisz : items.size = ns.length := by
    have q := IntsAre.length hit
    rw [Array.length_toList] at q
    exact q
  obtain ⟨c, tl, hmro⟩ := F.called_set.mro
  have hmade := F.called_set.made
  have hsub := F.called_set.sub
  refine wpAny_call (codeAny_of_tree ?_)
  show wpAny _ _ (callAny (.type "set") _) _ _ _
  refine wpAny_pure ⟨Code.quiet_builtin _ (by decide +kernel), codeAny_builtin F.entry_type_call ?_⟩
  rw [Around.under_plain (weight_type_call_type "set" [.ref l] []) rfl]
  have h1 := F.called_set.notType
  have h2 := F.called_set.canCreate
  have hct := F.typeCall_set_1 (.ref l)
  repeat (any_goals (first | assumption | wp_step))

  refine codeAny_mono (code_set_led1 (.ref l) (E := E) (Q₁ := fun obj s₁ => obj = .ref s.heap.objs.size ∧ s₁ = { s with heap := s.heap.push { cls := .type "set", dict := none, data := .set #[] 0 (.fresh 0 0 (!w.params.followText "set-order")) } }) ⟨rfl, rfl⟩) fun r s₁ hr => ?_
  cases r with
  | error e => exact hr
  | ok fl =>
    cases fl with
    | ret obj =>
      obtain ⟨rfl, rfl⟩ := hr
      have hS : (s.heap.push { cls := .type "set", dict := none, data := .set #[] 0 (.fresh 0 0 (!w.params.followText "set-order")) }).get? s.heap.objs.size = some { cls := .type "set", dict := none, data := .set #[] 0 (.fresh 0 0 (!w.params.followText "set-order")) } := Heap.get?_push_size _ rfl
      have hT : Shared.TypeIs { s with heap := s.heap.push { cls := .type "set", dict := none, data := .set #[] 0 (.fresh 0 0 (!w.params.followText "set-order")) } } (.ref s.heap.objs.size) "set" := ⟨_, hS, rfl⟩
      have hli := F.called_set.init.lookup
      have hbi := F.called_set.init.bind (.ref s.heap.objs.size)
      repeat (any_goals (first | assumption | wp_step))

      refine codeAny_mono (codeAny_call_builtin (R := wants (fun r s₂ => r = .none ∧ ∃ h' tk c, s₂ = { s with heap := h', toks := tk } ∧ SetR w h' s.heap.objs.size (fun j => decide (j ∈ ns)) c ∧ c ≤ ns.length ∧
          (∀ b o, s.heap.get? b = some o → h'.get? b = some o)) E) F.called_set.init.plain F.entry_set_init (check_set_init_1 hT ?_)) fun r₂ s₂ hr₂ => ?_
      · obtain ⟨ol, hol, hcl, nl, hdl⟩ := hl
        obtain ⟨ocls, odict, odata, oslots⟩ := ol
        simp only at hcl hdl
        subst hcl; subst hdl
        have hol' : (s.heap.push { cls := .type "set", dict := none, data := .set #[] 0 (.fresh 0 0 (!w.params.followText "set-order")) }).get? l = some { cls := .type "list", dict := odict, data := .seq items nl, slots := oslots } := Heap.get?_push_of_some _ hol
        have hsls := F.sub_list_set
        have hslf := F.sub_list_frozenset
        have hne : (Value.type "list" == Value.type "dict") = false := by decide
        have hl1 : (s.heap.push { cls := .type "set", dict := none, data := .set #[] 0 (.fresh 0 0 (!w.params.followText "set-order")) }).IsList l items := ⟨_, hol', rfl, nl, rfl⟩
        unfold Builtin.«set.__init__» noKeywords Builtin.Frozenset.updateFrom
        generalize hPI : pyIter = PI
        wp_walk
        subst hPI

        refine wpAny_pyIter_list hl1 ?_
        refine wpAny_bind (wpAny_runValue ?_)
        have hlS : l < s.heap.objs.size := Heap.lt_size hol
        have hh3 : A.in1.in1.in1.handled = none := by simp [hh]
        have hneI : l ≠ (s.heap.push { cls := .type "set", dict := none, data := .set #[] 0 (.fresh 0 0 (!w.params.followText "set-order")) }).objs.size := by
          rw [Heap.size_push]; exact Nat.ne_of_lt (Nat.lt_succ_of_lt hlS)
        have hSf : s.heap.objs.size ∉ [(s.heap.push { cls := .type "set", dict := none, data := .set #[] 0 (.fresh 0 0 (!w.params.followText "set-order")) }).objs.size, l] := by
          rw [Heap.size_push]; simp only [List.mem_cons, List.mem_singleton, List.not_mem_nil, or_false, not_or]
          exact ⟨Nat.ne_of_lt (Nat.lt_succ_self _), Nat.ne_of_gt hlS⟩
        have hval : ∀ (i : Nat) (v : Value), items[i]? = some v → ∃ k t, ns[i]? = some k ∧ v = .int k t := fun i v hv => by
          have hi : i < ns.length := by rw [← hisz]; exact (Array.getElem?_eq_some_iff.mp hv).1
          obtain ⟨t, e⟩ := PyProof.Rows.IntsAre.int_at hit i v (by rw [Array.getElem?_toList]; exact hv)
          refine ⟨ns[i], t, List.getElem?_eq_getElem hi, ?_⟩
          rw [e, List.getD_eq_getElem?_getD, List.getElem?_eq_getElem hi] <;> rfl
        refine set_update_ints ((Walks.list hh3 _ l hneI items).toS) s.heap.objs.size
          hSf ns hisz hb hval (items.size - 0) 0 _ (by omega) (Nat.zero_le _)
          ⟨⟨_, Heap.get?_push_size _ rfl, rfl, rfl⟩, (hl1.push _)⟩ ?hS0 ?hR
        case hS0 =>
          have hget : ((s.heap.push { cls := .type "set", dict := none, data := .set #[] 0 (.fresh 0 0 (!w.params.followText "set-order")) }).push { cls := .type "list_iterator", data := .fields #[.ref l, .int 0 0] }).get? s.heap.objs.size
              = some { cls := .type "set", dict := none, data := .set #[] 0 (.fresh 0 0 (!w.params.followText "set-order")) } := Heap.get?_push_of_some _ hS
          exact ⟨0, Nat.le_refl 0, setR_new_at hget⟩
        case hR =>
          intro s' c' hm hc' hS'
          obtain ⟨h', g2, d', tk', os'⟩ := s'
          have eg : g2 = s.gens := hm.gens
          have ed : d' = s.drawn := hm.drawn
          have eo : os' = s.os := hm.os
          subst eg; subst ed; subst eo
          show wpAny _ _ _ _ _ _
          refine wpAny_pure ?_
          show wpAny _ _ (ret Value.none) _ _ _
          rw [hisz] at hc'
          refine wpAny_pure ⟨rfl, h', tk', c', rfl, hS', hc', fun b o e => ?_⟩
          have hb0 : b < s.heap.objs.size := Heap.lt_size e
          have hb1 : b ≠ s.heap.objs.size := Nat.ne_of_lt hb0
          have hb2 : b ≠ (s.heap.push { cls := .type "set", dict := none, data := .set #[] 0 (.fresh 0 0 (!w.params.followText "set-order")) }).objs.size := by
            rw [Heap.size_push]; exact Nat.ne_of_lt (Nat.lt_succ_of_lt hb0)
          exact hm.heap b o (by simp only [List.mem_cons, List.mem_singleton, List.not_mem_nil, or_false, not_or]; exact ⟨hb1, hb2⟩) (Heap.get?_push_of_some _ (Heap.get?_push_of_some _ e))

      · cases r₂ with
        | error e => exact hr₂
        | ok fl₂ =>
          cases fl₂ with
          | ret r =>
            obtain ⟨rfl, h', tk, c', rfl, hS', hc', hk'⟩ := hr₂
            repeat (any_goals (first | assumption | wp_step))
            exact h _ _ _ hS' hc' hk'
          | _ => exact hr₂.elim
    | _ => exact hr.elim
end
/-! ### each once, upwards -/
theorem insU_spec (x : Int) : ∀ l : List Int, l.Pairwise (· < ·) → (insU x l).Pairwise (· < ·) ∧ ∀ z, z ∈ insU x l ↔ z = x ∨ z ∈ l
  | [], _ => ⟨List.pairwise_singleton _ _, fun z => by simp [insU]⟩
  | y :: ys, h => by
    obtain ⟨h1, h2⟩ := List.pairwise_cons.mp h
    unfold insU
    by_cases c : x < y
    · rw [if_pos c]
      refine ⟨List.pairwise_cons.mpr ⟨fun z hz => ?_, h⟩, fun z => by simp⟩
      rcases List.mem_cons.mp hz with rfl | hz
      · exact c
      · have := h1 z hz; omega
    · rw [if_neg c]
      by_cases e : x = y
      · rw [if_pos e]
        subst e
        refine ⟨h, fun z => by simp⟩
      · rw [if_neg e]
        obtain ⟨i1, i2⟩ := insU_spec x ys h2
        refine ⟨List.pairwise_cons.mpr ⟨fun z hz => ?_, i1⟩, fun z => ?_⟩
        · rcases (i2 z).mp hz with rfl | hz
          · omega
          · exact h1 z hz
        · rw [List.mem_cons, i2, List.mem_cons]
          constructor
          · rintro (q | q | q)
            · exact .inr (.inl q)
            · exact .inl q
            · exact .inr (.inr q)
          · rintro (q | q | q)
            · exact .inr (.inl q)
            · exact .inl q
            · exact .inr (.inr q)
theorem usort_spec : ∀ ns : List Int, (usort ns).Pairwise (· < ·) ∧ ∀ z, z ∈ usort ns ↔ z ∈ ns
  | [] => ⟨List.Pairwise.nil, fun z => by simp [usort]⟩
  | n :: ns => by
    obtain ⟨i1, i2⟩ := usort_spec ns
    obtain ⟨j1, j2⟩ := insU_spec n (usort ns) i1
    refine ⟨j1, fun z => ?_⟩
    show z ∈ insU n (usort ns) ↔ _
    rw [j2, i2, List.mem_cons]
theorem lt_uniq : ∀ {a b : List Int}, a.Pairwise (· < ·) → b.Pairwise (· < ·) → (∀ z, z ∈ a ↔ z ∈ b) → a = b
  | [], [], _, _, _ => rfl
  | [], y :: ys, _, _, h => absurd ((h y).mpr List.mem_cons_self) (by simp)
  | x :: xs, [], _, _, h => absurd ((h x).mp List.mem_cons_self) (by simp)
  | x :: xs, y :: ys, h1, h2, h => by
    obtain ⟨a1, a2⟩ := List.pairwise_cons.mp h1
    obtain ⟨b1, b2⟩ := List.pairwise_cons.mp h2
    have e : x = y := by
      have p := (h x).mp List.mem_cons_self
      have q := (h y).mpr List.mem_cons_self
      rcases List.mem_cons.mp p with p | p
      · exact p
      · rcases List.mem_cons.mp q with q | q
        · exact q.symm
        · have := b1 x p
          have := a1 y q
          omega
    subst e
    congr 1
    refine lt_uniq a2 b2 fun z => ?_
    constructor
    · intro hz
      rcases List.mem_cons.mp ((h z).mp (List.mem_cons_of_mem _ hz)) with q | q
      · have := a1 z hz; omega
      · exact q
    · intro hz
      rcases List.mem_cons.mp ((h z).mpr (List.mem_cons_of_mem _ hz)) with q | q
      · have := b1 z hz; omega
      · exact q
section
variable {X : Cx} {g : G} {a b c : Expr} {fa fb fc : Ev} {na nb nc : Bool}
theorem boot_set' : bootBuiltins "set" = some (.type "set") := boot_set
/-- the set itself -/
theorem set_call {l : Addr} {ns : List Int} {pins : List (Addr × Obj)} {s : Shared} {σ : L2.St} {H : Hp} {R : Value → Shared → Prop} (hc : X.calm = true) (I : Inv X pins σ H s) (hq : SqL X.K H l (ns.map V.int) ∨ SqT X.K H l (ns.map V.int)) (hb : ns.length < 64)
    (k : ∀ (s' : Shared) (p c : _), Inv X pins σ H s' → SetR X.w s'.heap p (fun j => decide (j ∈ ns)) c → c ≤ ns.length → R (.ref p) s') : wpAny (model X.prog X.w) X.A (call (.type "set") [.ref l]) R X.xe s := by
  have hsb : ns.length + 1 < scanBound := by unfold scanBound; omega
  rcases hq with hq | hq
  · obtain ⟨its, r, pl, hz⟩ := I.list hq
    exact call_setL ns (I.ok.hd hc) pl.isList (by simpa using intsAre_of r) hsb fun h' tk c R1 hc' kp => k _ _ c (I.kept kp) R1 hc'
  · obtain ⟨its, r, pl, hz⟩ := I.tuple hq
    exact call_set_tupI ns (I.ok.hd hc) pl (by simpa using intsAre_of r) hsb fun h' tk c R1 hc' kp => k _ _ c (I.kept kp) R1 hc'
def tSet (K : PySem.W.Frag) (ta : TE) (k : List Int → Hp → VK → Prop) : TE := fun σ H Q => ta σ H fun x H1 => ∃ l ns, x = .ref l ∧ (SqL K H1 l (ns.map V.int) ∨ SqT K H1 l (ns.map V.int)) ∧ ns.length < 64 ∧ k ns H1 Q
theorem pe_srt {p p2 q pos : Pos} {ta : TE} (hc : X.calm = true) (hg : Gl X "sorted") (hm : X.mg "sorted" = none) (hg2 : Gl X "set") (hm2 : X.mg "set" = none) (ha : PE X a ta)
    (na : starEach [a] X.env = (false, eval a X.env) :: starEach [] X.env) : PE X (.Call (.Name "sorted" p) [.Call (.Name "set" p2) [a] [] q] [] pos) (tSet X.K ta fun ns H Q => ∀ p, H p = none → Q (.ref p) (upd H p (.lst ((usort ns).map V.int)))) := by
  refine ⟨fun pins s σ H Q I h => ?_⟩
  refine Call_ (ld_blt I hg hm boot_sorted ?_)
  refine PyProof.Rows.callWith_builtin1 (PyProof.Rows.args_cons ?_ rfl) rfl rfl
  refine Call_ (ld_blt I hg2 hm2 boot_set ?_)
  refine PyProof.Rows.callWith_type1 (PyProof.Rows.args_cons (thn (ha.run pins s σ H _ I h) fun v s1 ⟨x, H1, I1, r1, q1⟩ => PyProof.Rows.args_nil ?_) na) na
  obtain ⟨l, ns, rfl, hq, hb, q1⟩ := q1
  cases r1
  refine set_call hc I1 hq hb fun s2 p c I2 R2 hc2 => PyProof.Rows.args_nil ?_
  refine sorted_set R2 (I2.ok.hd hc) (by omega) fun s' p out c ns' k g o hp hg hi hs hm hl => ?_
  have e : ns' = usort ns := lt_uniq hs (usort_spec ns).1 fun z => by rw [hm, (usort_spec ns).2, decide_eq_true_eq]
  subst e
  have hlen : ((usort ns).map V.int).length ≤ sizeLine := by rw [List.length_map, hl, sizeLine_eq]; omega
  have hn : H1 p = none := I2.hok.fresh hp
  have J : Inv X pins σ (upd H1 p (.lst ((usort ns).map V.int))) { s2 with heap := s'.heap, gens := s'.gens, drawn := s'.drawn, toks := s'.toks } :=
    I2.call (ch := []) (Un.laid k hp hn) (I2.hok.laid k hp ⟨hlen, out.toList, c, vals_of_ints hi, hg⟩) (by rw [g]; exact I2.bare) (fun _ z => nomatch z)
  have e : s' = { s2 with heap := s'.heap, gens := s'.gens, drawn := s'.drawn, toks := s'.toks } := by
    cases s'
    cases s2
    cases o
    rfl
  rw [e]
  exact ⟨.ref p, _, J, rfl, q1 p hn⟩
theorem pe_cnt {p p2 q pos : Pos} {ta : TE} (hc : X.calm = true) (hg : Gl X "len") (hm : X.mg "len" = none) (hg2 : Gl X "set") (hm2 : X.mg "set" = none) (ha : PE X a ta)
    (na : starEach [a] X.env = (false, eval a X.env) :: starEach [] X.env) : PE X (.Call (.Name "len" p) [.Call (.Name "set" p2) [a] [] q] [] pos) (tSet X.K ta fun ns H Q => Q (.int ((usort ns).length : Nat)) H) := by
  refine ⟨fun pins s σ H Q I h => ?_⟩
  refine Call_ (ld_blt I hg hm boot_len ?_)
  refine PyProof.Rows.callWith_builtin1 (PyProof.Rows.args_cons ?_ rfl) rfl rfl
  refine Call_ (ld_blt I hg2 hm2 boot_set ?_)
  refine PyProof.Rows.callWith_type1 (PyProof.Rows.args_cons (thn (ha.run pins s σ H _ I h) fun v s1 ⟨x, H1, I1, r1, q1⟩ => PyProof.Rows.args_nil ?_) na) na
  obtain ⟨l, ns, rfl, hq, hb, q1⟩ := q1
  cases r1
  refine set_call hc I1 hq hb fun s2 p c I2 R2 hc2 => PyProof.Rows.args_nil ?_
  obtain ⟨o, es, ep, t, ho, hex, hd, gg, nd, hm, hbb, hf, hn, hr, hl⟩ := R2
  have e : es.size = (usort ns).length := by
    have p1 : ((usort ns).Nodup) := ((usort_spec ns).1).imp fun h => by omega
    have p2 : (es.toList.map keyOf).Perm (usort ns) := by
      refine List.perm_ext_iff_of_nodup nd p1 |>.mpr fun z => ?_
      rw [(usort_spec ns).2]
      exact (hm z).symm.trans (by simp)
    have := p2.length_eq
    rw [List.length_map, Array.length_toList] at this
    exact this
  refine call_len_set ho hex hd hf (by omega) ⟨.int es.size, H1, I2.tok _, ⟨_, rfl⟩, ?_⟩
  rw [e]; exact q1
theorem dSrt_some {f : List Int → D} {x : D} {d : D} (e : ((seqOf x).bind fun ds => (intL ds).bind fun ns => if ns.length < 64 then some (f ns) else none) = some d) : ∃ ns : List Int, (x = .lst (ns.map .int) ∨ x = .tup (ns.map .int)) ∧ ns.length < 64 ∧ d = f ns := by
  simp only [Option.bind_eq_some_iff] at e
  obtain ⟨ds, e1, ns, e2, e3⟩ := e
  obtain rfl := intL_some e2
  split at e3
  · cases e3
    refine ⟨ns, ?_, ‹_›, rfl⟩
    unfold seqOf at e1
    split at e1 <;> cases e1
    · exact .inl rfl
    · exact .inr rfl
  · cases e3
theorem de_set {f : List Int → D} {e : Expr} {n : Bool} {k : List Int → Hp → VK → Prop} (hK : X.K = g.K) (he : PE X e (tSet X.K (tE g false fa) k))
    (hk : ∀ (Z ow : Addr → Bool) (σ : L2.St) (H H0 : Hp) (ρ : Env) (ns : List Int) (Q : VK), Rel g Z ow σ H ρ → Fr g ow H0 H → (∀ v H', LenOk g.K H' → (if n = true then PstN g Z ow σ H0 H' ρ v (.v (f ns)) else Pst g Z ow σ H0 H' ρ v (.v (f ns))) → Q v H') → LenOk g.K H → k ns H (fun v H' => LenOk X.K H' → Q v H')) :
    PE X e (tE g n fun ρ => do
      let (x, ρ) ← fa ρ
      let x ← x.at ρ
      let d ← (seqOf x).bind fun ds => (intL ds).bind fun ns => if ns.length < 64 then some (f ns) else none
      some (.v d, ρ)) := PE.of he fun σ H Q l ⟨Z, ow, ρ, h, ρ', r, e, kk⟩ => by
  simp only [bindS] at e
  obtain ⟨⟨hx, ρ1⟩, e1, x, e2, d, e3, e4⟩ := e
  cases e4
  obtain ⟨ns, hx', hb, rfl⟩ := dSrt_some e3
  refine ⟨Z, ow, ρ, hx, _, r, e1, fun v1 H1 l1 p1 => ?_⟩
  rw [if_neg (by decide)] at p1
  have fin : k ns H1 (fun v H' => LenOk X.K H' → Q v H') := hk Z ow σ H1 H ρ1 ns Q p1.rel p1.fr (fun v H' l' q => kk v H' l' q) l1
  rcases hx' with rfl | rfl
  · obtain ⟨p, ws, rfl, h1, h2⟩ := (p1.rep.at p1.rel e2).lst
    obtain rfl := repL_ints h2
    exact ⟨p, ns, rfl, .inl (SqL.of h1), hb, fin⟩
  · obtain ⟨p, ws, rfl, h1, h2⟩ := (p1.rep.at p1.rel e2).tup
    obtain rfl := repL_ints h2
    exact ⟨p, ns, rfl, .inr (hK ▸ sqT_hid h1), hb, fin⟩
theorem repL_of_ints {H : Hp} : ∀ ns : List Int, RepL g H (ns.map V.int) (ns.map D.int)
  | [] => .nil
  | n :: ns => .cons (.int n) (repL_of_ints ns)
theorem de_srt {p p2 q pos : Pos} (hK : X.K = g.K) (hc : X.calm = true) (hg : Gl X "sorted") (hm : X.mg "sorted" = none) (hg2 : Gl X "set") (hm2 : X.mg "set" = none) (ha : PE X a (tE g na fa)) (hp : plain a = true) :
    PE X (.Call (.Name "sorted" p) [.Call (.Name "set" p2) [a] [] q] [] pos) (tE g true fun ρ => do
      let (x, ρ) ← fa ρ
      let x ← x.at ρ
      let d ← dSrt x
      some (.v d, ρ)) := de_set (f := fun ns => .lst ((usort ns).map .int)) hK (pe_srt hc hg hm hg2 hm2 (de_old ha) (star_plain hp)) fun Z ow σ H H0 ρ ns Q r f kk l p hp l' => kk _ _ (hK ▸ l') (by
    rw [if_pos rfl]
    exact ⟨⟨H, p, _, _, rfl, rfl, hp, rfl, r, repL_of_ints _, f⟩⟩)
theorem de_cnt {p p2 q pos : Pos} (hK : X.K = g.K) (hc : X.calm = true) (hg : Gl X "len") (hm : X.mg "len" = none) (hg2 : Gl X "set") (hm2 : X.mg "set" = none) (ha : PE X a (tE g na fa)) (hp : plain a = true) :
    PE X (.Call (.Name "len" p) [.Call (.Name "set" p2) [a] [] q] [] pos) (tE g false fun ρ => do
      let (x, ρ) ← fa ρ
      let x ← x.at ρ
      let d ← dCnt x
      some (.v d, ρ)) := de_set (f := fun ns => .int ((usort ns).length : Nat)) hK (pe_cnt hc hg hm hg2 hm2 (de_old ha) (star_plain hp)) fun Z ow σ H H0 ρ ns Q r f kk l l' => kk _ _ (hK ▸ l') (by
    rw [if_neg (by decide)]
    exact ⟨f, r, .int _⟩)
/-! ### str(n) -/
theorem log2_small {n : Nat} (h : n < 1000000) : n.log2 < 1920 := by
  by_cases h0 : n = 0
  · subst h0; decide
  · refine (Nat.log2_lt h0).mpr (Nat.lt_of_lt_of_le h ?_)
    exact Nat.le_trans (by decide : (1000000 : Nat) ≤ 2 ^ 20) (Nat.pow_le_pow_right (by decide) (by decide))
theorem call_str' (hK : X.K = g.K) : CallR X (.type "str") (rC g false (bfn .str)) := by
  intro pins s σ H vs us Q I r ⟨Y, ds, d, dm, hv, e, k⟩
  have k' : ∀ v H', Res g Y H d v H' → LenOk X.K H' → Q v H' := fun v H' r l => k v H' (hK ▸ l) r
  match ds, e with
  | [.int i], e =>
    obtain ⟨v, rfl, h⟩ := repPL1 hv
    obtain rfl := h.int
    simp only [bfn] at e
    split at e
    · rename_i hi
      cases e
      exact (CallR.len call_str_int) pins s σ H _ us Q I r ⟨i, rfl, log2_small hi, k' _ _ (res_same (.str _))⟩
    · cases e
/-! ### tuple(range(i, j, k)) -/
theorem size_pos {i j k : Int} (hk : 0 < k) (h : i ≤ j) : Builtin.Range.rangeSize i j k = (((j - i + k - 1) / k).toNat : Int) := by
  unfold Builtin.Range.rangeSize
  rw [if_pos (show k > 0 from hk)]
  by_cases c : i < j
  · rw [if_pos c]
    have e : j - i + k - 1 = (j - i - 1) + k := by omega
    have e1 : (j - i + k - 1) / k = (j - i - 1) / k + 1 := by
      rw [e, Int.add_ediv_of_dvd_right (Int.dvd_refl k), Int.ediv_self (by omega)]
    have e2 := Int.ediv_nonneg (show 0 ≤ j - i - 1 by omega) (show 0 ≤ k by omega)
    rw [e1]
    omega
  · rw [if_neg c]
    have e : (j - i + k - 1) / k = 0 := Int.ediv_eq_zero_of_lt (by omega) (by omega)
    rw [e]
    rfl
theorem size_le {i j k : Int} (hk : 0 < k) (h : i ≤ j) : ((j - i + k - 1) / k).toNat ≤ (j - i).toNat := by
  by_cases c : i < j
  · have e : j - i + k - 1 = (j - i - 1) + k := by omega
    have e1 : (j - i + k - 1) / k = (j - i - 1) / k + 1 := by
      rw [e, Int.add_ediv_of_dvd_right (Int.dvd_refl k), Int.ediv_self (by omega)]
    have e2 := Int.ediv_le_self k (show 0 ≤ j - i - 1 by omega)
    omega
  · have e : (j - i + k - 1) / k = 0 := Int.ediv_eq_zero_of_lt (by omega) (by omega)
    rw [e]
    simp
theorem small_pos {i j k : Int} (hk : 0 < k) (hk2 : k < 1000000) (h : i ≤ j) (h1 : -(2 ^ 62) ≤ i) (h2 : j < 2 ^ 62) : Builtin.Range.small i j k = true := by
  have s1 := size_pos hk h
  have s2 := size_le hk h
  unfold Builtin.Range.small
  rw [s1]
  generalize ((j - i + k - 1) / k).toNat = n at s2 ⊢
  simp only [Builtin.Range.rangeFitsLong, Bool.and_eq_true, Bool.or_eq_true, decide_eq_true_eq, beq_iff_eq, show k > 0 from hk, if_true]
  omega
def tRngS (ta tb tc : TE) : TE := fun σ H Q => ta σ H fun x H1 => tb σ H1 fun y H2 => tc σ H2 fun z H3 => ∃ i j k, x = .int i ∧ y = .int j ∧ z = .int k ∧ -(2 ^ 62) ≤ i ∧ j < 2 ^ 62 ∧ 0 < k ∧ k < 1000000 ∧ i ≤ j ∧ (j - i).toNat ≤ line ∧
  ∀ q o, H3 q = none → FT o → Q (.ref q) (upd H3 q (.frz o (.tup ((List.range ((j - i + k - 1) / k).toNat).map fun (m : Nat) => V.int (i + m * k)))))
theorem vals_step {i k : Int} {n : Nat} {acc : Array Value} (h : ItemsOf (fun m v => ∃ t, v = .int (i + (m : Nat) * k) t) acc n) : Vals ((List.range n).map fun (m : Nat) => V.int (i + m * k)) acc.toList := by
  obtain ⟨h1, h2⟩ := h
  have := vals_of_get acc.toList (fun m => V.int (i + (m : Nat) * k)) fun m u e => by
    obtain ⟨t, rfl⟩ := h2 m u (by simpa using e)
    exact ⟨t, rfl⟩
  rw [Array.length_toList, h1] at this
  exact this
theorem pe_rngS {p p2 q pos : Pos} {ta tb tc : TE} (hc : X.calm = true) (hg : Gl X "tuple") (hm : X.mg "tuple" = none) (hg2 : Gl X "range") (hm2 : X.mg "range" = none) (ha : PE X a ta) (hb : PE X b tb) (hcc : PE X c tc)
    (na : starEach [a, b, c] X.env = (false, eval a X.env) :: starEach [b, c] X.env) (nb : starEach [b, c] X.env = (false, eval b X.env) :: starEach [c] X.env) (nc : starEach [c] X.env = (false, eval c X.env) :: starEach [] X.env) (hpl : (backTo q (starEach [b, c] X.env)).any (·.1) = false) :
    PE X (.Call (.Name "tuple" p) [.Call (.Name "range" p2) [a, b, c] [] q] [] pos) (tRngS ta tb tc) := by
  refine ⟨fun pins s σ H Q I h => ?_⟩
  refine Call_ (ld_blt I hg hm boot_tuple (PyProof.Rows.callWith_type1 (args_cons ?_ rfl) rfl))
  refine Call_ (ld_blt I hg2 hm2 boot_range (PyProof.Rows.callWith_type1 (args_cons (thn (ha.run pins s σ H _ I h) fun v s1 ⟨x, H1, I1, r1, q1⟩ => args_cons (thn (hb.run pins s1 σ H1 _ I1 q1) fun v2 s2 ⟨y, H2, I2, r2, q2⟩ => args_cons (thn (hcc.run pins s2 σ H2 _ I2 q2) fun v3 s3 ⟨z, H3, I3, r3, q3⟩ => args_nil ?_) nc) nb) na) na hpl))
  obtain ⟨i, j, k, rfl, rfl, rfl, b1, b2, b3, b4, b5, b6, q⟩ := q3
  obtain ⟨t, rfl⟩ := r1
  obtain ⟨t', rfl⟩ := r2
  obtain ⟨t'', rfl⟩ := r3
  refine call_range_3 (by omega) ?_ (.inl (PyProof.noPylong_small (by omega)))
  have I4 : Inv X pins σ H3 { s3 with heap := s3.heap.push { cls := .type "range", data := .fields #[.int i t, .int j t', .int k t''] } } := I3.kept (t' := s3.toks) fun b o e => Heap.get?_push_of_some _ e
  refine args_nil ?_
  have hsz := size_le b3 b5
  have hl : line = 16777216 := by unfold line; rw [sizeLine_eq]
  refine call_tuple_range (n := ((j - i + k - 1) / k).toNat) (I4.ok.hd hc) (IsRange.new _ _ _ _ _ _ _) (small_pos b3 b4 b5 b1 b2) (size_pos b3 b5) (by rw [hl] at b6; omega) fun h' tk acc hk hi => ?_
  have I5 := I4.kept (t' := tk) hk
  refine ⟨.ref h'.objs.size, upd H3 h'.objs.size (.frz (tO acc.toList) (.tup ((List.range ((j - i + k - 1) / k).toNat).map fun (m : Nat) => V.int (i + m * k)))), I5.laid (t' := tk) (fun c o e => Heap.get?_push_of_some _ e) (Nat.le_refl _) ?_, rfl, q _ _ (I5.hok.fresh (Nat.le_refl _)) ⟨rfl, rfl⟩⟩
  have := tO_ok (P := X.prog) (w := X.w) (H := upd H3 h'.objs.size (.frz (tO acc.toList) (.tup ((List.range ((j - i + k - 1) / k).toNat).map fun (m : Nat) => V.int (i + m * k))))) (h := h') (its := acc.toList) (xs := (List.range ((j - i + k - 1) / k).toNat).map fun (m : Nat) => V.int (i + m * k)) (by rw [List.length_map, List.length_range, sizeLine_eq]; rw [hl] at b6; omega) (vals_step hi)
  simpa using this
theorem de_rngs {p p2 q pos : Pos} (hK : X.K = g.K) (hc : X.calm = true) (hg : Gl X "tuple") (hm : X.mg "tuple" = none) (hg2 : Gl X "range") (hm2 : X.mg "range" = none) (ha : PE X a (tE g na fa)) (hb : PE X b (tE g nb fb)) (hcc : PE X c (tE g nc fc)) (pa : plain a = true) (pb : plain b = true) (pc : plain c = true) :
    PE X (.Call (.Name "tuple" p) [.Call (.Name "range" p2) [a, b, c] [] q] [] pos) (tE g false fun ρ => do
    let (x, ρ) ← fa ρ
    let (y, ρ) ← fb ρ
    let (z, ρ) ← fc ρ
    match x, y, z with
    | .v (.int i), .v (.int j), .v (.int k) => if small62 i j && decide (0 < k) && decide (k < 1000000) && decide (i ≤ j) && decide ((j - i).toNat ≤ line) then some (.v (.tup (rngS i j k)), ρ) else none
    | _, _, _ => none) := PE.of (pe_rngS hc hg hm hg2 hm2 (de_old ha) (de_old hb) (de_old hcc) (star_plain pa) (star_plain pb) (star_plain pc) (star_any (by simp [pb, pc]))) fun σ H Q l ⟨Z, ow, ρ, h, ρ', r, e, kk⟩ => by
  simp only [bindS] at e
  obtain ⟨⟨hx, ρ1⟩, e1, ⟨hy, ρ2⟩, e2, ⟨hz, ρ3⟩, e3, e4⟩ := e
  refine ⟨Z, ow, ρ, hx, ρ1, r, e1, fun v1 H1 l1 p1 => ?_⟩
  rw [if_neg (by decide)] at p1
  refine ⟨Z, ow, ρ1, hy, ρ2, p1.rel, e2, fun v2 H2 l2 p2 => ?_⟩
  rw [if_neg (by decide)] at p2
  refine ⟨Z, ow, ρ2, hz, ρ3, p2.rel, e3, fun v3 H3 l3 p3 => ?_⟩
  rw [if_neg (by decide)] at p3
  dsimp only at e4
  split at e4
  · rename_i i j k
    split at e4
    · rename_i hcond
      cases e4
      simp only [small62, Bool.and_eq_true, decide_eq_true_eq] at hcond
      have r1 := p1.rep
      have r2 := p2.rep
      have r3 := p3.rep
      cases r1
      cases r2
      cases r3
      refine ⟨i, j, k, rfl, rfl, rfl, by omega, by omega, by omega, by omega, by omega, hcond.2, fun q o hq ho l' => kk _ _ (hK ▸ l') ?_⟩
      rw [if_neg (by decide)]
      have rl : RepL g (hid (Or2 Z ow) H3) ((List.range ((j - i + k - 1) / k).toNat).map fun (m : Nat) => V.int (i + m * k)) (rngS i j k) := by
        unfold rngS
        generalize List.range _ = l
        induction l with
        | nil => exact .nil
        | cons x xs ih => exact .cons (.int _) ih
      have s : Res g (Or2 Z ow) H3 (.tup (rngS i j k)) (.ref q) (upd H3 q (.frz o (.tup ((List.range ((j - i + k - 1) / k).toNat).map fun (m : Nat) => V.int (i + m * k))))) := res_tup p3.rel.dom hq ho rl
      exact ⟨((p1.fr.trans p2.fr).trans p3.fr).trans (.of_same s.1), p3.rel.ext s.1, s.2⟩
    · cases e4
  · cases e4
end
end PV

end
section
set_option Elab.async false
set_option linter.all false
set_option maxRecDepth 100000
set_option maxHeartbeats 1000000
/-! DW: calls of the text's own defs, isinstance, pop, range as a value. -/
namespace PV
open PySem PySem.Spec PyProof.Rows L2
/-- what a def promises: what cl says -/
def spD (g : G) (cl : Call) (i : Nat) : Sp := fun vs H Q _ => ∃ Z ds b d b', Dom Z H ∧ RepL g (hid Z H) vs ds ∧ BoxOk g H b ∧ (Z g.ba = true ∧ Z g.bc = true) ∧ cl i ds b = some (d, b') ∧
  ∀ v H', LenOk g.K H' → Fr g (fun _ => false) H H' → BoxOk g H' b' → Rep g (hid Z H') v d → Q v H'
section
variable {X : Cx} {g : G} {a b c e : Expr} {es : List Expr} {fa fb fc : Ev} {na nb nc : Bool} {pos : Pos} {fs : Env → Option (List Hd × Env)}
theorem Fr.none_hid {Z : Addr → Bool} {H H' : Hp} (f : Fr g (fun _ => false) H H') (zb : Z g.ba = true ∧ Z g.bc = true) : Same (PV.hid Z H) (PV.hid Z H') := fun c o e => by
  obtain ⟨z, e⟩ := hid_some e
  refine hid_of z (f c o e rfl ?_ ?_)
  · rintro rfl; rw [zb.1] at z; cases z
  · rintro rfl; rw [zb.2] at z; cases z
theorem Fr.dom {Z ow : Addr → Bool} {H H' : Hp} {b : Bx} (f : Fr g (fun _ => false) H H') (hb : BoxOk g H' b) (d : Dom Z H) : Dom Z H' := fun a z h => by
  cases q : H a with
  | none => exact d a z q
  | some o =>
    by_cases h1 : a = g.ba
    · subst h1; rw [hb.1] at h; cases h
    · by_cases h2 : a = g.bc
      · subst h2; rw [hb.2.1] at h; cases h
      · rw [f a o q rfl h1 h2] at h; cases h
theorem Rel.call {Z ow : Addr → Bool} {σ : L2.St} {H H' : Hp} {ρ : Env} {b' : Bx} (r : Rel g Z ow σ H ρ) (f : Fr g (fun _ => false) H H') (hb : BoxOk g H' b') : Rel g Z ow σ H' { ρ with bx := b' } := by
  have zb : Or2 Z ow g.ba = true ∧ Or2 Z ow g.bc = true := by simp [Or2, r.zb.1, r.zb.2]
  have s := f.none_hid zb
  refine ⟨r.len, fun i d e => ?_, fun i ds e => ?_, r.sep, f.dom (ow := ow) hb r.dom, r.dis, hb, r.zb⟩
  · obtain ⟨v, e1, e2⟩ := r.val i d e
    exact ⟨v, e1, e2.mono s⟩
  · obtain ⟨a, xs, e1, e2, e3, e4⟩ := r.own i ds e
    have h1 : a ≠ g.ba := by rintro rfl; have := r.dis _ e3; rw [r.zb.1] at this; cases this
    have h2 : a ≠ g.bc := by rintro rfl; have := r.dis _ e3; rw [r.zb.2] at this; cases this
    exact ⟨a, xs, e1, f _ _ e2 rfl h1 h2, e3, RepL.mono s e4⟩
theorem Fr.of_none {ow : Addr → Bool} {H H' : Hp} (f : Fr g (fun _ => false) H H') : Fr g ow H H' := fun c o e _ h1 h2 => f c o e rfl h1 h2
theorem de_call {x : PySem.Str} {p : Pos} {i : Nat} {cl : Call} {n : Nat} {f : Addr} {fd : FuncData} {ps : List PySem.Str} (hK : X.K = g.K) (F : FnOk X.prog X.w X.K X.mg X.base CX0 n f fd ps (spD g cl i)) (hr : Room n X.A) (hg : Gl X x) (hm : X.mg x = some (.ref f))
    (hk : PySem.W.keepIn X.K (.ref f) = true) (hb : Binds X.K fd ps []) (ha : PA X (e :: es) (tAs g fs)) (hdb : (x == ("__debug__" : PySem.Str)) = false) (hp : (e :: es).all plain = true) : PE X (.Call (.Name x p) (e :: es) [] pos) (tE g false fun ρ => do
    let (hs, ρ) ← fs ρ
    let ds ← valL hs
    let (d, b) ← cl i ds ρ.bx
    some (.v d, { ρ with bx := b })) := by
  have hp' : plain e = true ∧ es.all plain = true := by simpa using hp
  refine PE.of (pe_call F hr hg hm hk hb .nil pass0 ha hdb (star_plain hp'.1) (star_any hp'.2)) fun σ H Q l ⟨Z, ow, ρ, h, ρ', r, e, k⟩ => ?_
  simp only [bindS] at e
  obtain ⟨⟨hs, ρ1⟩, e1, ds, e2, ⟨d, b'⟩, e3, e4⟩ := e
  cases e4
  refine ⟨Z, ow, ρ, hs, _, r, e1, fun vs H1 l1 f1 r1 q1 => ?_⟩
  refine ⟨Or2 Z ow, ds, ρ1.bx, d, b', r1.dom, by rw [List.append_nil]; exact q1.val e2, r1.box, by simp [Or2, r.zb.1, r.zb.2], e3, fun v H' l' f' bo rv _ => k v H' l' ?_⟩
  rw [if_neg (by decide)]
  exact ⟨f1.trans f'.of_none, r1.call f' bo, rv⟩
/-! ### isinstance -/
def tyN : Ty → String
  | .int => "int"
  | .bool => "bool"
  | .str => "str"
  | .tuple => "tuple"
  | .list => "list"
def dN : D → String
  | .non => "NoneType"
  | .bl _ => "bool"
  | .int _ => "int"
  | .str _ => "str"
  | .tup _ => "tuple"
  | .lst _ => "list"
  | .box => "list"
theorem tyX_of {K : PySem.W.Frag} {Y : Addr → Bool} {H : Hp} {v : V} {d : D} (hK : K = g.K) (h : RepP g Y H v d) (hb : d ≠ .box) : TyX K H v (.type (dN d)) := by
  cases d with
  | non => obtain rfl := h.non; exact .base .non
  | bl b => obtain rfl := h.bl; exact .base (.bl _)
  | int b => obtain rfl := h.int; exact .base (.int _)
  | str b => obtain rfl := h.str; exact .base (.str _)
  | tup ds =>
    obtain ⟨p, xs, rfl, h1, h2⟩ := h.tup
    rcases sqT_hid h1 with (h1 | ⟨o, h1⟩) | ⟨o, its, n, h1, h2, _⟩
    · exact .base (.tup h1)
    · exact .fTuple h1
    · exact .kTuple (hK ▸ h1) h2
  | lst ds =>
    obtain ⟨p, xs, rfl, h1, h2⟩ := h.lst
    exact .base (.lst h1)
  | box => exact absurd rfl hb
theorem kit_all {t : Ty} {d : D} {b : Bool} (e : isTy t d = some b) : kitB (dN d) (tyN t) = some b := by
  cases t <;> cases d <;> cases e <;> simp only [dN, tyN] <;> decide +kernel
theorem boot_tyN (t : Ty) : bootBuiltins (PySem.Str.ofString (tyN t)) = some (.type (tyN t)) := by cases t <;> decide +kernel
theorem de_isi {p1 p2 : Pos} {t : Ty} {y : PySem.Str} (hK : X.K = g.K) (ha : PE X a (tE g na fa)) (hpl : plain a = true) (hg : Gl X "isinstance") (hm : X.mg "isinstance" = none) (hy : y = PySem.Str.ofString (tyN t)) (hg2 : Gl X y) (hm2 : X.mg y = none) :
    PE X (.Call (.Name "isinstance" p1) [a, .Name y p2] [] pos) (tE g false fun ρ => do
    let (x, ρ) ← fa ρ
    let x ← x.at ρ
    let b ← isTy t x
    some (.v (.bl b), ρ)) := by
  have hn : y ≠ "__name__" := by subst hy; cases t <;> decide +kernel
  have hd : (y == ("__debug__" : PySem.Str)) = false := by subst hy; cases t <;> decide +kernel
  have bt : PE X (.Name y p2) (tC (.ty (tyN t))) := pe_bltn (v := .ty (tyN t)) hg2 hm2 (hy ▸ boot_tyN t) rfl hn hd
  refine PE.of (pe_callB call_isi hg hm (by decide +kernel) (pa_cons (de_old ha) (pa_cons bt pa_nil)  (star_plain hpl)) (by decide +kernel) (by decide +kernel) (star_plain hpl) rfl) fun σ H Q l ⟨Z, ow, ρ, h, ρ', r, e, k⟩ => ?_
  simp only [bindS] at e
  obtain ⟨⟨hx, ρ1⟩, e1, x, e2, b, e3, e4⟩ := e
  cases e4
  refine ⟨Z, ow, ρ, hx, _, r, e1, fun v1 H1 l1 p1 => ?_⟩
  rw [if_neg (by decide)] at p1
  refine ⟨v1, .ty (tyN t), .type (dN x), .type (tyN t), b, rfl, .ty _, tyX_of hK (p1.rep.at p1.rel e2) ?_, kit_ty (kit_all e3), fun l' => k _ _ (hK ▸ l') (by rw [if_neg (by decide)]; exact ⟨p1.fr, p1.rel, .bl _⟩)⟩
  rintro rfl; cases t <;> cases e3
/-! ### list(range(..)), tuple(range(..)) -/
theorem rg_rep {H : Hp} (i j : Int) : RepL g H (rgV i j) (rngL i j) := by
  unfold rgV rngL
  generalize (j - i).toNat = n
  generalize List.range n = l
  induction l with
  | nil => exact .nil
  | cons x xs ih => exact .cons (.int _) ih
def rgF (t : Bool) (fa fb : Ev) : Ev := fun ρ => do
    let (x, ρ) ← fa ρ
    let (y, ρ) ← fb ρ
    match x, y with
    | .v (.int i), .v (.int j) => if small62 i j && decide ((j - i).toNat ≤ line) then some (.v (if t then .tup (rngL i j) else .lst (rngL i j)), ρ) else none
    | _, _ => none
theorem small62_ok {i j : Int} (h : small62 i j = true) : -(2 ^ 62) ≤ i ∧ i < 2 ^ 62 ∧ -(2 ^ 62) ≤ j ∧ j < 2 ^ 62 := by
  simp only [small62, Bool.and_eq_true, decide_eq_true_eq] at h
  exact ⟨h.1.1.1, h.1.1.2, h.1.2, h.2⟩
theorem rgOk_of {i j : Int} (h : (small62 i j && decide ((j - i).toNat ≤ line)) = true) : RgOk i j := by
  simp only [Bool.and_eq_true, decide_eq_true_eq] at h
  obtain ⟨a, b, c, d⟩ := small62_ok h.1
  refine ⟨a, b, c, d, ?_⟩
  have := h.2
  unfold line at this
  rw [sizeLine_eq] at this
  omega
theorem de_rng0 {t : Bool} {te : L2.St → Hp → (Int → Int → Hp → Prop) → Prop} (hK : X.K = g.K)
    (he : if t = true then PE X e (sTupRg te) else PE X e (tLstRg te))
    (ht : ∀ σ H Z ow ρ hx hy ρ1 ρ2 (i j : Int) (Q : Int → Int → Hp → Prop), Rel g Z ow σ H ρ → fa ρ = some (hx, ρ1) → fb ρ1 = some (hy, ρ2) → hx = .v (.int i) → hy = .v (.int j) → (∀ H2, Fr g ow H H2 → Rel g Z ow σ H2 ρ2 → Q i j H2) → te σ H Q) :
    PE X e (tE g (!t) (rgF t fa fb)) := by
  cases t with
  | true =>
    rw [if_pos rfl] at he
    refine PE.of he fun σ H Q l ⟨Z, ow, ρ, h, ρ', r, e, k⟩ => ?_
    simp only [rgF, bindS] at e
    obtain ⟨⟨hx, ρ1⟩, e1, ⟨hy, ρ2⟩, e2, e3⟩ := e
    match hx, hy, e1, e2, e3 with
    | .v (.int i), .v (.int j), e1, e2, e3 =>
      simp only at e3
      split at e3
      · rename_i hs
        cases e3
        refine ht σ H Z ow ρ _ _ ρ1 _ i j _ r e1 e2 rfl rfl fun H2 f2 r2 => ⟨rgOk_of hs, fun q o hq ho l' => k _ _ (hK ▸ l') ?_⟩
        have s := res_tup r2.dom hq ho (rg_rep (g := g) (H := hid (Or2 Z ow) H2) i j)
        exact ⟨f2.trans (.of_same s.1), r2.ext s.1, s.2⟩
      · cases e3
  | false =>
    rw [if_neg (by decide)] at he
    refine PE.of he fun σ H Q l ⟨Z, ow, ρ, h, ρ', r, e, k⟩ => ?_
    simp only [rgF, bindS] at e
    obtain ⟨⟨hx, ρ1⟩, e1, ⟨hy, ρ2⟩, e2, e3⟩ := e
    match hx, hy, e1, e2, e3 with
    | .v (.int i), .v (.int j), e1, e2, e3 =>
      simp only at e3
      split at e3
      · rename_i hs
        cases e3
        exact ht σ H Z ow ρ _ _ ρ1 _ i j _ r e1 e2 rfl rfl fun H2 f2 r2 => ⟨rgOk_of hs, fun q hq l' => k _ _ (hK ▸ l') ⟨⟨H2, q, _, _, rfl, rfl, hq, rfl, r2, rg_rep i j, f2⟩⟩⟩
      · cases e3
theorem te_rg1 {ta : Ev} {n0 : Bool} {σ : L2.St} {H : Hp} {Z ow : Addr → Bool} {ρ ρ1 ρ2 : Env} {hx hy : Hd} {i j : Int} {Q : Int → Int → Hp → Prop} (r : Rel g Z ow σ H ρ) (e1 : (fun ρ : Env => some (Hd.v (.int 0), ρ)) ρ = some (hx, ρ1)) (e2 : fa ρ1 = some (hy, ρ2)) (e3 : hx = .v (.int i)) (e4 : hy = .v (.int j))
    (k : ∀ H2, Fr g ow H H2 → Rel g Z ow σ H2 ρ2 → Q i j H2) : tRg1 (tE g false fa) σ H Q := by
  cases e1; cases e3; subst e4
  refine ⟨Z, ow, ρ, _, ρ2, r, e2, fun v H1 l1 p => ?_⟩
  rw [if_neg (by decide)] at p
  have := p.rep
  cases this
  exact ⟨j, rfl, k H1 p.fr p.rel⟩
theorem te_rg2 {σ : L2.St} {H : Hp} {Z ow : Addr → Bool} {ρ ρ1 ρ2 : Env} {hx hy : Hd} {i j : Int} {Q : Int → Int → Hp → Prop} (r : Rel g Z ow σ H ρ) (e1 : fa ρ = some (hx, ρ1)) (e2 : fb ρ1 = some (hy, ρ2)) (e3 : hx = .v (.int i)) (e4 : hy = .v (.int j))
    (k : ∀ H2, Fr g ow H H2 → Rel g Z ow σ H2 ρ2 → Q i j H2) : tRg2 (tE g false fa) (tE g false fb) σ H Q := by
  subst e3 e4
  refine ⟨Z, ow, ρ, _, ρ1, r, e1, fun v H1 l1 p => ?_⟩
  rw [if_neg (by decide)] at p
  refine ⟨Z, ow, ρ1, _, ρ2, p.rel, e2, fun v2 H2 l2 p2 => ?_⟩
  rw [if_neg (by decide)] at p2
  have q1 := p.rep
  have q2 := p2.rep
  cases q1; cases q2
  exact ⟨i, j, rfl, rfl, k H2 (p.fr.trans p2.fr) p2.rel⟩
theorem de_lrg1 {p1 p2 pos2 : Pos} (hK : X.K = g.K) (hc : X.calm = true) (hg : Gl X "list") (hm : X.mg "list" = none) (hg2 : Gl X "range") (hm2 : X.mg "range" = none) (ha : PE X a (tE g na fa)) (hp : plain a = true) :
    PE X (.Call (.Name "list" p1) [.Call (.Name "range" p2) [a] [] pos2] [] pos) (tE g true (rgF false (fun ρ => some (.v (.int 0), ρ)) fa)) :=
  de_rng0 (t := false) hK (pe_listRg hc hg hm (prg_1 hg2 hm2 (de_old ha) (star_plain hp))) fun σ H Z ow ρ hx hy ρ1 ρ2 i j Q r e1 e2 e3 e4 k => te_rg1 (ta := fa) (n0 := false) r e1 e2 e3 e4 k
theorem de_trg1 {p1 p2 pos2 : Pos} (hK : X.K = g.K) (hc : X.calm = true) (hg : Gl X "tuple") (hm : X.mg "tuple" = none) (hg2 : Gl X "range") (hm2 : X.mg "range" = none) (ha : PE X a (tE g na fa)) (hp : plain a = true) :
    PE X (.Call (.Name "tuple" p1) [.Call (.Name "range" p2) [a] [] pos2] [] pos) (tE g false (rgF true (fun ρ => some (.v (.int 0), ρ)) fa)) :=
  de_rng0 (t := true) hK (st_tupRg hc hg hm (prg_1 hg2 hm2 (de_old ha) (star_plain hp))) fun σ H Z ow ρ hx hy ρ1 ρ2 i j Q r e1 e2 e3 e4 k => te_rg1 (ta := fa) (n0 := false) r e1 e2 e3 e4 k
theorem de_lrg2 {p1 p2 pos2 : Pos} (hK : X.K = g.K) (hc : X.calm = true) (hg : Gl X "list") (hm : X.mg "list" = none) (hg2 : Gl X "range") (hm2 : X.mg "range" = none) (ha : PE X a (tE g na fa)) (hb : PE X b (tE g nb fb)) (hp : plain a = true) (hp2 : plain b = true) :
    PE X (.Call (.Name "list" p1) [.Call (.Name "range" p2) [a, b] [] pos2] [] pos) (tE g true (rgF false fa fb)) :=
  de_rng0 (t := false) hK (pe_listRg hc hg hm (prg_2 hg2 hm2 (de_old ha) (de_old hb) (star_plain hp) (star_plain hp2) (star_any (by simp [hp2])))) fun σ H Z ow ρ hx hy ρ1 ρ2 i j Q r e1 e2 e3 e4 k => te_rg2 r e1 e2 e3 e4 k
theorem de_trg2 {p1 p2 pos2 : Pos} (hK : X.K = g.K) (hc : X.calm = true) (hg : Gl X "tuple") (hm : X.mg "tuple" = none) (hg2 : Gl X "range") (hm2 : X.mg "range" = none) (ha : PE X a (tE g na fa)) (hb : PE X b (tE g nb fb)) (hp : plain a = true) (hp2 : plain b = true) :
    PE X (.Call (.Name "tuple" p1) [.Call (.Name "range" p2) [a, b] [] pos2] [] pos) (tE g false (rgF true fa fb)) :=
  de_rng0 (t := true) hK (st_tupRg hc hg hm (prg_2 hg2 hm2 (de_old ha) (de_old hb) (star_plain hp) (star_plain hp2) (star_any (by simp [hp2])))) fun σ H Z ow ρ hx hy ρ1 ρ2 i j Q r e1 e2 e3 e4 k => te_rg2 r e1 e2 e3 e4 k
end
end PV

end
section
set_option Elab.async false
set_option linter.all false
set_option maxRecDepth 100000
set_option maxHeartbeats 1000000
/-! DU: environments changed, targets, pop. -/
namespace PV
open PySem PySem.Spec PyProof.Rows L2
section
variable {ρ ρ0 : Env} {i j : Nat} {s : Slot} {vs : List Nat}
theorem get_put : (ρ.put i s).get j = if i = j ∧ i < ρ.sl.length then s else ρ.get j := by
  unfold Env.get Env.put
  simp only [List.getD_eq_getElem?_getD]
  by_cases h : i = j
  · subst h
    by_cases h2 : i < ρ.sl.length
    · rw [if_pos ⟨rfl, h2⟩, List.getElem?_set_self h2]; rfl
    · rw [if_neg (fun q => h2 q.2), List.getElem?_set]
      simp [h2]
  · rw [if_neg (fun q => h q.1), List.getElem?_set_ne h]
theorem get_lt (h : ρ.get i ≠ .un) : i < ρ.sl.length := by
  unfold Env.get at h
  rcases Nat.lt_or_ge i ρ.sl.length with q | q
  · exact q
  · rw [List.getD_eq_getElem?_getD, List.getElem?_eq_none q] at h; exact absurd rfl h
theorem put_len : (ρ.put i s).sl.length = ρ.sl.length := by simp [Env.put]
theorem put_bx : (ρ.put i s).bx = ρ.bx := rfl
theorem wipe_len : ∀ vs : List Nat, (ρ.wipe vs).sl.length = ρ.sl.length
  | [] => rfl
  | v :: vs => by simp [Env.wipe, put_len, wipe_len vs]
theorem wipe_bx : ∀ vs : List Nat, (ρ.wipe vs).bx = ρ.bx
  | [] => rfl
  | v :: vs => by simp [Env.wipe, put_bx, wipe_bx vs]
theorem get_wipe : ∀ vs : List Nat, (ρ.wipe vs).get j = if j ∈ vs then .un else ρ.get j
  | [] => by simp [Env.wipe]
  | v :: vs => by
    simp only [Env.wipe, get_put, get_wipe vs, wipe_len, List.mem_cons]
    by_cases h : v = j
    · subst h
      by_cases h2 : v < ρ.sl.length
      · simp [h2]
      · simp only [h2, and_false, if_false]
        by_cases h3 : v ∈ vs
        · simp [h3]
        · simp only [h3, if_false, true_or, if_true]
          cases q : ρ.get v with
          | un => rfl
          | _ => exact absurd (get_lt (by rw [q]; intro z; cases z)) h2
    · have : ¬ j = v := fun e => h e.symm
      simp [h, this]
theorem rest_len : ∀ vs : List Nat, (Env.rest ρ0 ρ vs).sl.length = ρ.sl.length
  | [] => rfl
  | v :: vs => by simp [Env.rest, put_len, rest_len vs]
theorem rest_bx : ∀ vs : List Nat, (Env.rest ρ0 ρ vs).bx = ρ.bx
  | [] => rfl
  | v :: vs => by simp [Env.rest, put_bx, rest_bx vs]
theorem get_rest (hl : ρ0.sl.length = ρ.sl.length) : ∀ vs : List Nat, (Env.rest ρ0 ρ vs).get j = if j ∈ vs then ρ0.get j else ρ.get j
  | [] => by simp [Env.rest]
  | v :: vs => by
    simp only [Env.rest, get_put, get_rest hl vs, rest_len, List.mem_cons]
    by_cases h : v = j
    · subst h
      by_cases h2 : v < ρ.sl.length
      · simp [h2]
      · simp only [h2, and_false, if_false]
        by_cases h3 : v ∈ vs
        · simp [h3]
        · simp only [h3, if_false, true_or, if_true]
          have a : ρ.get v = .un := by
            cases q : ρ.get v with
            | un => rfl
            | _ => exact absurd (get_lt (by rw [q]; intro z; cases z)) h2
          have b : ρ0.get v = .un := by
            cases q : ρ0.get v with
            | un => rfl
            | _ => exact absurd (hl ▸ get_lt (by rw [q]; intro z; cases z)) h2
          rw [a, b]
    · have : ¬ j = v := fun e => h e.symm
      simp [h, this]
end
theorem wipeS_get {σ : L2.St} {j : Nat} : ∀ vs : List Nat, j ∉ vs → (L2.wipe σ vs)[j]? = σ[j]? := fun vs h => L2.wipe_out h
/-- a step: what was tracked and not ours stands; what is ours anew was untracked -/
structure Stp (g : G) (ow : Addr → Bool) (H : Hp) (ow' : Addr → Bool) (H' : Hp) : Prop where
  fr : Fr g ow H H'
  gr : ∀ b, ow' b = true → ow b = true ∨ H b = none
  tr : ∀ b, H b ≠ none → H' b ≠ none
section
variable {g : G} {Z ow ow1 ow2 : Addr → Bool} {σ σ' : L2.St} {H H1 H2 : Hp} {ρ ρ' : Env} {v : V} {d : D} {i j : Nat} {a : Addr} {xs : List V} {ds : List D}
theorem Stp.refl : Stp g ow H ow H := ⟨.refl, fun _ h => .inl h, fun _ h => h⟩
theorem Stp.trans (x : Stp g ow H ow1 H1) (y : Stp g ow1 H1 ow2 H2) : Stp g ow H ow2 H2 := by
  refine ⟨fun c o e h1 h2 h3 => y.fr c o (x.fr c o e h1 h2 h3) ?_ h2 h3, fun b h => ?_, fun b h => y.tr b (x.tr b h)⟩
  · cases q : ow1 c with
    | false => rfl
    | true =>
      rcases x.gr c q with z | z
      · rw [h1] at z; cases z
      · rw [e] at z; cases z
  · rcases y.gr b h with z | z
    · exact x.gr b z
    · cases q : H b with
      | none => exact .inr rfl
      | some o => exact absurd z (x.tr b (by rw [q]; intro z; cases z))
theorem Fr.stp (f : Fr g ow H H1) (r : Rel g Z ow σ H1 ρ) : Stp g ow H ow H1 := ⟨f, fun _ h => .inl h, fun b h e => by
  cases q : H b with
  | none => exact h q
  | some o =>
    cases z : ow b with
    | true => exact r.dom b (by simp [Or2, z]) e
    | false =>
      by_cases h1 : b = g.ba
      · subst h1; rw [r.box.1] at e; cases e
      · by_cases h2 : b = g.bc
        · subst h2; rw [r.box.2.1] at e; cases e
        · rw [f b o q z h1 h2] at e; cases e⟩
/-- what was seen is seen -/
theorem Stp.hid (s : Stp g ow H ow1 H1) (zb : Z g.ba = true ∧ Z g.bc = true) : Same (PV.hid (Or2 Z ow) H) (PV.hid (Or2 Z ow1) H1) := fun c o e => by
  obtain ⟨z, e⟩ := hid_some e
  have z' : Z c = false ∧ ow c = false := by simpa [Or2] using z
  have n1 : c ≠ g.ba := by rintro rfl; rw [zb.1] at z'; cases z'.1
  have n2 : c ≠ g.bc := by rintro rfl; rw [zb.2] at z'; cases z'.1
  refine hid_of ?_ (s.fr c o e z'.2 n1 n2)
  have : ow1 c = false := by
    cases q : ow1 c with
    | false => rfl
    | true =>
      rcases s.gr c q with z | z
      · rw [z'.2] at z; cases z
      · rw [e] at z; cases z
  simp [Or2, z'.1, this]
theorem Rel.own_ne (r : Rel g Z ow σ H ρ) (h : ow a = true) : a ≠ g.ba ∧ a ≠ g.bc := by
  constructor
  · rintro rfl; have := r.dis _ h; rw [r.zb.1] at this; cases this
  · rintro rfl; have := r.dis _ h; rw [r.zb.2] at this; cases this
/-- a name is bound anew to a value -/
theorem Rel.put (r : Rel g Z ow σ H ρ) (h : Rep g (hid (Or2 Z ow) H) v d) : Rel g Z ow (σ.set i (some v)) H (ρ.put i (.val d)) := by
  refine ⟨by rw [List.length_set, put_len]; exact r.len, fun j e q => ?_, fun j es q => ?_, fun j k es fs b q1 q2 q3 q4 => ?_, r.dom, r.dis, r.box, r.zb⟩
  · rw [get_put] at q
    split at q
    · rename_i c
      cases q
      obtain ⟨rfl, c⟩ := c
      exact ⟨v, by rw [List.getElem?_set_self (by rw [r.len]; exact c)], h⟩
    · rename_i c
      obtain ⟨w, e1, e2⟩ := r.val j e q
      refine ⟨w, ?_, e2⟩
      rw [List.getElem?_set_ne]
      · exact e1
      · rintro rfl; exact c ⟨rfl, get_lt (by rw [q]; intro z; cases z)⟩
  · rw [get_put] at q
    split at q
    · cases q
    · rename_i c
      obtain ⟨b, xs, e1, e2⟩ := r.own j es q
      refine ⟨b, xs, ?_, e2⟩
      rw [List.getElem?_set_ne]
      · exact e1
      · rintro rfl; exact c ⟨rfl, get_lt (by rw [q]; intro z; cases z)⟩
  · rw [get_put] at q1 q2
    split at q1
    · cases q1
    · rename_i c1
      split at q2
      · cases q2
      · rename_i c2
        have n1 : i ≠ j := by rintro rfl; exact c1 ⟨rfl, get_lt (by rw [q1]; intro z; cases z)⟩
        have n2 : i ≠ k := by rintro rfl; exact c2 ⟨rfl, get_lt (by rw [q2]; intro z; cases z)⟩
        rw [List.getElem?_set_ne n1] at q3
        rw [List.getElem?_set_ne n2] at q4
        exact r.sep j k es fs b q1 q2 q3 q4
/-- the list of slot i is changed in its place -/
theorem Rel.chg (r : Rel g Z ow σ H ρ) (hi : ρ.get i = .own ds) (hs : σ[i]? = some (some (.ref a))) {ys : List V} {es : List D} (h : RepL g (hid (Or2 Z ow) H) ys es) :
    Rel g Z ow σ (upd H a (.lst ys)) (ρ.put i (.own es)) ∧ Fr g ow H (upd H a (.lst ys)) ∧ ∃ xs, H a = some (.lst xs) ∧ RepL g (hid (Or2 Z ow) H) xs ds := by
  obtain ⟨b, xs, e1, e2, e3, e4⟩ := r.own i ds hi
  rw [hs] at e1; cases e1
  have il := get_lt (ρ := ρ) (i := i) (by rw [hi]; intro z; cases z)
  have hw : Or2 Z ow a = true := by simp [Or2, e3]
  have hh : hid (Or2 Z ow) (upd H a (.lst ys)) = hid (Or2 Z ow) H := by
    funext c
    unfold hid
    split
    · rfl
    · rename_i q
      rw [upd_ne]
      rintro rfl; exact q hw
  obtain ⟨n1, n2⟩ := r.own_ne e3
  refine ⟨⟨by rw [put_len]; exact r.len, fun j e q => ?_, fun j fs q => ?_, fun j k es fs b q1 q2 q3 q4 => ?_, fun c z => ?_, r.dis, ⟨by rw [upd_ne n1.symm]; exact r.box.1, by rw [upd_ne n2.symm]; exact r.box.2.1, r.box.2.2⟩, r.zb⟩, fun c o e z _ _ => ?_, xs, e2, e4⟩
  · rw [get_put] at q
    split at q
    · cases q
    · rw [hh]; exact r.val j e q
  · rw [get_put] at q
    split at q
    · rename_i c
      obtain ⟨rfl, c⟩ := c
      cases q
      exact ⟨a, ys, hs, upd_same, e3, by rw [hh]; exact h⟩
    · rename_i c
      obtain ⟨b, zs, f1, f2, f3, f4⟩ := r.own j fs q
      have nb : b ≠ a := by
        rintro rfl
        exact c ⟨r.sep i j ds fs b hi q hs f1, il⟩
      exact ⟨b, zs, f1, by rw [upd_ne nb]; exact f2, f3, by rw [hh]; exact f4⟩
  · rw [get_put] at q1 q2
    have f1 : ∃ es', ρ.get j = .own es' := by
      split at q1
      · rename_i c; exact ⟨ds, c.1 ▸ hi⟩
      · exact ⟨_, q1⟩
    have f2 : ∃ es', ρ.get k = .own es' := by
      split at q2
      · rename_i c; exact ⟨ds, c.1 ▸ hi⟩
      · exact ⟨_, q2⟩
    obtain ⟨_, f1⟩ := f1
    obtain ⟨_, f2⟩ := f2
    exact r.sep j k _ _ b f1 f2 q3 q4
  · by_cases e : c = a
    · subst e; rw [upd_same]; intro z; cases z
    · rw [upd_ne e]; exact r.dom c z
  · rw [upd_ne]
    · exact e
    · rintro rfl; rw [e3] at z; cases z
end
end PV

end
section
set_option Elab.async false
set_option linter.all false
set_option maxRecDepth 100000
set_option maxHeartbeats 1000000
/-! DR: targets, what is walked, comprehensions. -/
namespace PV
open PySem PySem.Spec PyProof.Rows L2
section
variable {g : G} {Z ow ow1 ow2 : Addr → Bool} {σ σ' σ2 : L2.St} {H H1 H2 H' : Hp} {ρ ρ' : Env} {v : V} {d : D} {i j : Nat} {a p : Addr} {xs : List V} {ds : List D} {vs : List Nat}
def add (ow : Addr → Bool) (p : Addr) : Addr → Bool := fun b => ow b || decide (b = p)
def rem (ow : Addr → Bool) (p : Addr) : Addr → Bool := fun b => ow b && !decide (b = p)
/-- a new list is given to slot i -/
theorem Rel.new (r : Rel g Z ow σ H ρ) (hp : H p = none) (h : RepL g (hid (Or2 Z ow) H) xs ds) (i : Nat) :
    Rel g Z (add ow p) (σ.set i (some (.ref p))) (upd H p (.lst xs)) (ρ.put i (.own ds)) ∧ Stp g ow H (add ow p) (upd H p (.lst xs)) := by
  have np : ∀ {b o}, H b = some o → b ≠ p := fun e => ne_of_none e hp
  have zp : Z p = false := by
    have := r.dom.not hp
    simp [Or2] at this; exact this.1
  have op : ow p = false := by
    have := r.dom.not hp
    simp [Or2] at this; exact this.2
  have hs : Same (hid (Or2 Z ow) H) (hid (Or2 Z (add ow p)) (upd H p (.lst xs))) := fun c o e => by
    obtain ⟨z, e⟩ := hid_some e
    have n := np e
    exact hid_of (by simpa [Or2, add, n] using z) (by rw [upd_ne n]; exact e)
  refine ⟨⟨by rw [List.length_set, put_len]; exact r.len, fun j e q => ?_, fun j es q => ?_, fun j k es fs b q1 q2 q3 q4 => ?_, fun c z => ?_, fun c z => ?_,
    ⟨by rw [upd_ne (np r.box.1)]; exact r.box.1, by rw [upd_ne (np r.box.2.1)]; exact r.box.2.1, r.box.2.2⟩, r.zb⟩, ⟨.of_same (same_upd hp), fun b z => ?_, fun b z e => ?_⟩⟩
  · rw [get_put] at q
    split at q
    · cases q
    · rename_i c
      obtain ⟨w, e1, e2⟩ := r.val j e q
      refine ⟨w, ?_, e2.mono hs⟩
      rw [List.getElem?_set_ne]
      · exact e1
      · rintro rfl; exact c ⟨rfl, get_lt (by rw [q]; intro z; cases z)⟩
  · rw [get_put] at q
    split at q
    · rename_i c
      cases q
      obtain ⟨rfl, c⟩ := c
      exact ⟨p, xs, by rw [List.getElem?_set_self (by rw [r.len]; exact c)], upd_same, by simp [add], RepL.mono hs h⟩
    · rename_i c
      obtain ⟨b, zs, e1, e2, e3, e4⟩ := r.own j es q
      refine ⟨b, zs, ?_, by rw [upd_ne (np e2)]; exact e2, by simp [add, e3], RepL.mono hs e4⟩
      rw [List.getElem?_set_ne]
      · exact e1
      · rintro rfl; exact c ⟨rfl, get_lt (by rw [q]; intro z; cases z)⟩
  · have no : ∀ k' es' b', ρ.get k' = Slot.own es' → σ[k']? = some (some (.ref b')) → b' ≠ p := fun k' es' b' q' e' => by
      obtain ⟨c, zs, e1, e2, _⟩ := r.own k' es' q'
      rw [e'] at e1; cases e1
      exact np e2
    rw [get_put] at q1 q2
    by_cases c1 : i = j ∧ i < ρ.sl.length
    · by_cases c2 : i = k ∧ i < ρ.sl.length
      · exact c1.1.symm.trans c2.1
      · rw [if_neg c2] at q2
        have n2 : i ≠ k := by rintro rfl; exact c2 ⟨rfl, c1.2⟩
        rw [List.getElem?_set_ne n2] at q4
        obtain ⟨rfl, c1⟩ := c1
        rw [List.getElem?_set_self (by rw [r.len]; exact c1)] at q3
        cases q3
        exact absurd rfl (no _ _ _ q2 q4)
    · rw [if_neg c1] at q1
      have n1 : i ≠ j := by rintro rfl; exact c1 ⟨rfl, get_lt (by rw [q1]; intro z; cases z)⟩
      rw [List.getElem?_set_ne n1] at q3
      by_cases c2 : i = k ∧ i < ρ.sl.length
      · obtain ⟨rfl, c2⟩ := c2
        rw [List.getElem?_set_self (by rw [r.len]; exact c2)] at q4
        cases q4
        exact absurd rfl (no _ _ _ q1 q3)
      · rw [if_neg c2] at q2
        have n2 : i ≠ k := by rintro rfl; exact c2 ⟨rfl, get_lt (by rw [q2]; intro z; cases z)⟩
        rw [List.getElem?_set_ne n2] at q4
        exact r.sep j k es fs b q1 q2 q3 q4
  · by_cases e : c = p
    · subst e; rw [upd_same]; intro z; cases z
    · rw [upd_ne e]; exact r.dom c (by simpa [Or2, add, e] using z)
  · by_cases e : c = p
    · subst e; exact zp
    · exact r.dis c (by simpa [add, e] using z)
  · by_cases e : b = p
    · subst e; exact .inr hp
    · exact .inl (by simpa [add, e] using z)
  · by_cases q : b = p
    · subst q; rw [upd_same] at e; cases e
    · rw [upd_ne q] at e; exact z e
/-- slot i gives its list up: it is a value from now on -/
theorem Rel.frz (r : Rel g Z ow σ H ρ) (hi : ρ.get i = .own ds) : ∃ ow', Rel g Z ow' σ H (ρ.put i (.val (.lst ds))) ∧ Stp g ow H ow' H := by
  obtain ⟨a, xs, e1, e2, e3, e4⟩ := r.own i ds hi
  have il := get_lt (ρ := ρ) (i := i) (by rw [hi]; intro z; cases z)
  have hs : Same (hid (Or2 Z ow) H) (hid (Or2 Z (rem ow a)) H) := fun c o e => by
    obtain ⟨z, e⟩ := hid_some e
    simp only [Or2, Bool.or_eq_false_iff] at z
    exact hid_of (by simp [Or2, rem, z.1, z.2]) e
  refine ⟨rem ow a, ⟨by rw [put_len]; exact r.len, fun j e q => ?_, fun j es q => ?_, fun j k es fs b q1 q2 q3 q4 => ?_, fun c z => r.dom c ?_, fun c z => r.dis c ?_, r.box, r.zb⟩, ⟨.refl, fun b z => .inl ?_, fun _ h => h⟩⟩
  · rw [get_put] at q
    split at q
    · rename_i c
      cases q
      obtain ⟨rfl, c⟩ := c
      refine ⟨.ref a, e1, .lst (hid_of ?_ e2) (RepL.mono hs e4)⟩
      simp [Or2, rem, r.dis a e3]
    · obtain ⟨w, f1, f2⟩ := r.val j e q
      exact ⟨w, f1, f2.mono hs⟩
  · rw [get_put] at q
    split at q
    · cases q
    · rename_i c
      obtain ⟨b, zs, f1, f2, f3, f4⟩ := r.own j es q
      have nb : b ≠ a := by
        rintro rfl
        exact c ⟨r.sep i j ds es b hi q e1 f1, il⟩
      exact ⟨b, zs, f1, f2, by simp [rem, f3, nb], RepL.mono hs f4⟩
  · rw [get_put] at q1 q2
    split at q1
    · cases q1
    · split at q2
      · cases q2
      · exact r.sep j k es fs b q1 q2 q3 q4
  · simp only [Or2, rem, Bool.or_eq_true, Bool.and_eq_true] at z ⊢
    exact z.elim .inl fun z => .inr z.1
  · simp only [rem, Bool.and_eq_true] at z; exact z.1
  · simp only [rem, Bool.and_eq_true] at z; exact z.1
theorem wipeS_none {σ : L2.St} {j : Nat} : ∀ {vs : List Nat}, j ∈ vs → j < σ.length → (L2.wipe σ vs)[j]? = some none
  | v :: vs, h, hl => by
    unfold L2.wipe
    by_cases e : v = j
    · subst e; rw [List.getElem?_set_self (by rw [wipe_length]; exact hl)]
    · rw [List.getElem?_set_ne e]
      rcases List.mem_cons.mp h with q | q
      · exact absurd q.symm e
      · exact wipeS_none q hl
theorem Rel.wipe (r : Rel g Z ow σ H ρ) (vs : List Nat) : Rel g Z ow (L2.wipe σ vs) H (ρ.wipe vs) := by
  refine ⟨by rw [wipe_length, wipe_len]; exact r.len, fun j e q => ?_, fun j es q => ?_, fun j k es fs b q1 q2 q3 q4 => ?_, r.dom, r.dis, by rw [wipe_bx]; exact r.box, r.zb⟩
  · rw [get_wipe] at q
    split at q
    · cases q
    · rename_i c
      rw [wipe_out c]; exact r.val j e q
  · rw [get_wipe] at q
    split at q
    · cases q
    · rename_i c
      rw [wipe_out c]; exact r.own j es q
  · rw [get_wipe] at q1 q2
    split at q1
    · cases q1
    · rename_i c1
      split at q2
      · cases q2
      · rename_i c2
        rw [wipe_out c1] at q3
        rw [wipe_out c2] at q4
        exact r.sep j k es fs b q1 q2 q3 q4
theorem wipeS_eq {σ σ2 : L2.St} {vs : List Nat} (hl : σ2.length = σ.length) (h : ∀ j, j ∉ vs → σ2[j]? = (L2.wipe σ vs)[j]?) : L2.wipe σ2 vs = L2.wipe σ vs := by
  refine List.ext_getElem? fun j => ?_
  by_cases c : j ∈ vs
  · rcases Nat.lt_or_ge j σ.length with q | q
    · rw [wipeS_none c (by omega), wipeS_none c q]
    · rw [List.getElem?_eq_none (by rw [wipe_length]; omega), List.getElem?_eq_none (by rw [wipe_length]; omega)]
  · rw [wipe_out c, h j c]
/-- a hidden place is written -/
theorem Rel.updZ (r : Rel g Z ow σ H ρ) (zp : Z p = true) (n1 : p ≠ g.ba) (n2 : p ≠ g.bc) (o : HO) : Rel g Z ow σ (upd H p o) ρ := by
  have hw : Or2 Z ow p = true := by simp [Or2, zp]
  have hh : hid (Or2 Z ow) (upd H p o) = hid (Or2 Z ow) H := by
    funext c
    unfold hid
    split
    · rfl
    · rename_i q
      rw [upd_ne]
      rintro rfl; exact q hw
  refine ⟨r.len, by rw [hh]; exact r.val, fun j es q => ?_, r.sep, fun c z => ?_, r.dis, ⟨by rw [upd_ne n1.symm]; exact r.box.1, by rw [upd_ne n2.symm]; exact r.box.2.1, r.box.2.2⟩, r.zb⟩
  · obtain ⟨b, zs, f1, f2, f3, f4⟩ := r.own j es q
    have : b ≠ p := by rintro rfl; rw [r.dis b f3] at zp; cases zp
    exact ⟨b, zs, f1, by rw [upd_ne this]; exact f2, f3, by rw [hh]; exact f4⟩
  · by_cases e : c = p
    · subst e; rw [upd_same]; intro z; cases z
    · rw [upd_ne e]; exact r.dom c z
/-- a place is hidden that nothing speaks of -/
theorem Rel.hide (r : Rel g Z ow σ H ρ) (hp : H p = none) (xs : List V) : Rel g (add Z p) ow σ (upd H p (.lst xs)) ρ := by
  have np : ∀ {b o}, H b = some o → b ≠ p := fun e => ne_of_none e hp
  have op : ow p = false := by
    have := r.dom.not hp
    simp [Or2] at this; exact this.2
  have hs : Same (hid (Or2 Z ow) H) (hid (Or2 (add Z p) ow) (upd H p (.lst xs))) := fun c o e => by
    obtain ⟨z, e⟩ := hid_some e
    have n := np e
    exact hid_of (by simpa [Or2, add, n] using z) (by rw [upd_ne n]; exact e)
  refine ⟨r.len, fun j e q => ?_, fun j es q => ?_, r.sep, fun c z => ?_, fun c z => ?_, ⟨by rw [upd_ne (np r.box.1)]; exact r.box.1, by rw [upd_ne (np r.box.2.1)]; exact r.box.2.1, r.box.2.2⟩, by simp [add, r.zb.1, r.zb.2]⟩
  · obtain ⟨w, e1, e2⟩ := r.val j e q
    exact ⟨w, e1, e2.mono hs⟩
  · obtain ⟨b, zs, f1, f2, f3, f4⟩ := r.own j es q
    exact ⟨b, zs, f1, by rw [upd_ne (np f2)]; exact f2, f3, RepL.mono hs f4⟩
  · by_cases e : c = p
    · subst e; rw [upd_same]; intro z; cases z
    · rw [upd_ne e]; exact r.dom c (by simpa [Or2, add, e] using z)
  · by_cases e : c = p
    · subst e; rw [op] at z; cases z
    · simp [add, e, r.dis c z]
end
/-! ### targets -/
def gsOf : List Nat → TGs
  | [] => gNil
  | i :: is => gCons (gName i) (gsOf is)
def gOf (K : PySem.W.Frag) : List Nat → TG
  | [i] => gName i
  | vs => gTup K vs.length (gsOf vs)
theorem RepL.nil_inv {g : G} {H : Hp} {vs : List V} (h : RepL g H vs []) : vs = [] := by cases h; rfl
theorem RepL.cons_inv {g : G} {H : Hp} {vs : List V} {d : D} {ds : List D} (h : RepL g H vs (d :: ds)) : ∃ v ws, vs = v :: ws ∧ Rep g H v d ∧ RepL g H ws ds := by
  cases h with
  | cons h1 h2 => exact ⟨_, _, rfl, h1, h2⟩
/-- an item that a walk hands out; pw: it may be a pair that is not kept with its object -/
def PRep (g : G) (Y : Addr → Bool) (pw : Bool) (H : Hp) (v : V) (d : D) : Prop := Rep g (hid Y H) v d ∨ (pw = true ∧ ∃ p ws ds, v = .ref p ∧ d = .tup ds ∧ SqT g.K (hid Y H) p ws ∧ RepL g (hid Y H) ws ds)
theorem PRep.tup {g : G} {Y : Addr → Bool} {pw : Bool} {H : Hp} {v : V} {ds : List D} (h : PRep g Y pw H v (.tup ds)) : ∃ p ws, v = .ref p ∧ SqT g.K H p ws ∧ RepL g (hid Y H) ws ds := by
  rcases h with h | ⟨_, p, ws, ds', e1, e2, h1, h2⟩
  · cases h with
    | tup h1 h2 => exact ⟨_, _, rfl, sqT_hid h1, h2⟩
  · cases e2; exact ⟨p, ws, e1, Same.sqT hid_le h1, h2⟩
theorem setTg_ok {g : G} {Z ow : Addr → Bool} {σ : L2.St} {H : Hp} {ρ ρ' : Env} {v : V} {d : D} {vs : List Nat} {Q : L2.St → Hp → Prop} {K : PySem.W.Frag} (hK : K = g.K) (r : Rel g Z ow σ H ρ) {pw : Bool} (h : PRep g (Or2 Z ow) pw H v d) (hpw : pw = true → vs.length ≠ 1) (e : setTg vs d ρ = some ρ')
    (k : ∀ σ', Rel g Z ow σ' H ρ' → (∀ j, j ∉ vs → σ'[j]? = σ[j]?) → Q σ' H) : gOf K vs v σ H Q := by
  unfold setTg at e
  split at e
  · cases e
    rename_i i
    have h : Rep g (hid (Or2 Z ow) H) v d := by
      rcases h with h | ⟨z, _⟩
      · exact h
      · exact absurd rfl (hpw z)
    exact k _ (r.put h) fun j hj => by rw [List.getElem?_set_ne (by rintro rfl; exact hj (by simp))]
  · cases e
    rename_i i j a b
    obtain ⟨p0, ws0, e0, h1, h2⟩ := h.tup
    subst e0
    · obtain ⟨x, ws, rfl, q1, h2⟩ := h2.cons_inv
      obtain ⟨y, ws, rfl, q2, h2⟩ := h2.cons_inv
      obtain rfl := h2.nil_inv
      refine ⟨_, _, rfl, hK ▸ h1, rfl, x, _, rfl, y, _, rfl, rfl, k _ ((r.put q1).put q2) fun j' hj => ?_⟩
      simp only [List.mem_cons, List.not_mem_nil, or_false, not_or] at hj
      rw [List.getElem?_set_ne (fun q => hj.2 q.symm), List.getElem?_set_ne (fun q => hj.1 q.symm)]
  · cases e
    rename_i i j l a b c
    obtain ⟨p0, ws0, e0, h1, h2⟩ := h.tup
    subst e0
    · obtain ⟨x, ws, rfl, q1, h2⟩ := h2.cons_inv
      obtain ⟨y, ws, rfl, q2, h2⟩ := h2.cons_inv
      obtain ⟨z, ws, rfl, q3, h2⟩ := h2.cons_inv
      obtain rfl := h2.nil_inv
      refine ⟨_, _, rfl, hK ▸ h1, rfl, x, _, rfl, y, _, rfl, z, _, rfl, rfl, k _ (((r.put q1).put q2).put q3) fun j' hj => ?_⟩
      simp only [List.mem_cons, List.not_mem_nil, or_false, not_or] at hj
      rw [List.getElem?_set_ne (fun q => hj.2.2 q.symm), List.getElem?_set_ne (fun q => hj.2.1 q.symm), List.getElem?_set_ne (fun q => hj.1 q.symm)]
  · cases e
end PV

end
section
set_option Elab.async false
set_option linter.all false
set_option maxRecDepth 100000
set_option maxHeartbeats 1000000
/-! DQ: what is walked; list comprehensions. -/
namespace PV
open PySem PySem.Spec PyProof.Rows L2
/-- J hands out what src says, from a heap in which what is seen of H0 is seen -/
def Walks (g : G) (pw : Bool) (Y0 : Addr → Bool) (H0 : Hp) (σ : L2.St) (J : It) : Src → Prop
  | .vals xs => xs.length ≤ sizeLine ∧ ∀ i Y2 H2, Same (hid Y0 H0) (hid Y2 H2) → Dom Y2 H2 →
      (∀ d, xs[i]? = some d → J.go i H2 ∧ ∀ x H3, J.yld i H2 x H3 → Same H2 H3 ∧ PRep g Y2 pw H3 x d) ∧ (xs[i]? = none → J.stop i H2)
  | .live i => ∃ a, σ[i]? = some (some (.ref a)) ∧ J = Itl g.K a
abbrev EvI := Env → Option (Src × Env)
def tIs (g : G) (pw : Bool) (f : EvI) : TI := fun σ H R => ∃ Z ow ρ src ρ', Rel g Z ow σ H ρ ∧ f ρ = some (src, ρ') ∧
  ∀ J H', Fr g ow H H' → Rel g Z ow σ H' ρ' → Walks g pw (Or2 Z ow) H' σ J src → (∀ i, src = .live i → isOwn (ρ'.get i) = true) → R J H'
section
variable {X : Cx} {g : G} {tg : Expr} {a b e : Expr} {fa fb : Ev} {na nb : Bool} {pos : Pos}
theorem pi_weak {t t' : TI} (h : PI X tg e t) (imp : ∀ σ H R, LenOk X.K H → t' σ H R → t σ H R) : PI X tg e t' := ⟨fun pins s σ H R I hw => h.run pins s σ H R I (imp σ H R (Inv.lenOk I) hw)⟩
/-- pi_list or pi_tup or pi_str, as the value is -/
theorem pi_seq {t : TE} (he : PE X e t) : PI X tg e (fun σ H R => t σ H fun x H1 => (∃ a, x = .ref a ∧ (((∃ xs, SqL X.K H1 a xs) ∧ R (Itl X.K a) H1) ∨ ((∃ xs, SqT X.K H1 a xs) ∧ R (Itt X.K a) H1))) ∨ ∃ y, x = .str y ∧ R (Its y) H1) := by
  refine ⟨fun pins s σ H R I h => ?_⟩
  refine thn (he.run pins s σ H _ I h) fun v s1 ⟨x, H1, I1, r1, q⟩ => ?_
  rcases q with ⟨a, ex, q⟩ | ⟨x, ex, q⟩
  · subst ex
    cases r1
    have hf : ∀ b ∈ [s1.heap.objs.size], FpOk X pins H1 b := fun b hb => by
      have e : b = s1.heap.objs.size := by simpa using hb
      subst e
      exact I1.fpOk (Nat.le_refl _) (I1.hok.fresh (Nat.le_refl _))
    rcases q with ⟨⟨xs, hq⟩, q⟩ | ⟨⟨xs, hq⟩, q⟩
    · obtain ⟨its, rv, p, hz⟩ := I1.list hq
      refine wpAny_pyIter_list p.isList ?_
      exact ⟨s1.heap.objs.size, [s1.heap.objs.size], _, _, H1, rfl, I1.kept (t' := s1.toks) fun b o e => Heap.get?_push_of_some _ e, turn_list a _, ⟨_, Heap.get?_push_size _ rfl, rfl, rfl⟩, hf, q⟩
    · obtain ⟨its, rv, p, hz⟩ := I1.tuple hq
      refine wpAny_pyIter_tuple (show s1.heap.IsTuple a its.toArray from p) ?_
      exact ⟨s1.heap.objs.size, [s1.heap.objs.size], _, _, H1, rfl, I1.kept (t' := s1.toks) fun b o e => Heap.get?_push_of_some _ e, turn_tuple a _, ⟨_, Heap.get?_push_size _ rfl, rfl, rfl⟩, hf, q⟩
  · subst ex
    obtain ⟨t, rfl⟩ := r1
    cases ha : x.cps.all (· < 128)
    · exact wpAny_pyIter_wide ha (pi_one (tk := s1.toks) I1 _ (turn_str _ x t "str_iterator" (.inr rfl)) ⟨_, Heap.get?_push_size _ rfl, rfl, rfl⟩ q)
    · exact wpAny_pyIter_ascii ha (pi_one (tk := s1.toks) I1 _ (turn_str _ x t "str_ascii_iterator" (.inl rfl)) ⟨_, Heap.get?_push_size _ rfl, rfl, rfl⟩ q)
theorem hid_sqT {K : PySem.W.Frag} {Y0 Y2 : Addr → Bool} {H0 H2 : Hp} {a : Addr} {xs : List V} (h : TupS K (hid Y0 H0) a xs) (s : Same (hid Y0 H0) (hid Y2 H2)) : SqT K H2 a xs := sqT_hid (Same.tupS s h)
theorem walks_list {pw : Bool} {H0 : Hp} {Y0 : Addr → Bool} {σ : L2.St} {p : Addr} {ws : List V} {xs : List D} (l : LenOk g.K H0) (h1 : hid Y0 H0 p = some (.lst ws)) (h2 : RepL g (hid Y0 H0) ws xs) : Walks g pw Y0 H0 σ (Itl g.K p) (.vals xs) := by
  refine ⟨by rw [← h2.length]; exact l.l p ws (SqL.of (hid_some h1).2), fun i Y2 H2 s dm => ⟨fun d e => ?_, fun e => ?_⟩⟩
  · obtain ⟨v, e1, e2⟩ := h2.get e
    have hq : SqL g.K H2 p ws := SqL.of (hid_some (s _ _ h1)).2
    refine ⟨⟨ws, v, hq, e1⟩, fun x H3 y => ?_⟩
    obtain ⟨rfl, y⟩ := y
    have := y ws hq
    rw [e1] at this; cases this
    exact ⟨fun _ _ h => h, .inl (e2.mono s)⟩
  · refine ⟨ws, SqL.of (hid_some (s _ _ h1)).2, ?_⟩
    rw [h2.length]
    exact List.getElem?_eq_none_iff.mp e
theorem walks_tup {pw : Bool} {H0 : Hp} {Y0 : Addr → Bool} {σ : L2.St} {p : Addr} {ws : List V} {xs : List D} (l : LenOk g.K H0) (h1 : TupS g.K (hid Y0 H0) p ws) (h2 : RepL g (hid Y0 H0) ws xs) : Walks g pw Y0 H0 σ (Itt g.K p) (.vals xs) := by
  refine ⟨by rw [← h2.length]; exact l.t p ws (sqT_hid h1), fun i Y2 H2 s dm => ⟨fun d e => ?_, fun e => ?_⟩⟩
  · obtain ⟨v, e1, e2⟩ := h2.get e
    have hq : SqT g.K H2 p ws := hid_sqT h1 s
    refine ⟨⟨ws, v, hq, e1⟩, fun x H3 y => ?_⟩
    obtain ⟨rfl, y⟩ := y
    have := y ws hq
    rw [e1] at this; cases this
    exact ⟨fun _ _ h => h, .inl (e2.mono s)⟩
  · refine ⟨ws, hid_sqT h1 s, ?_⟩
    rw [h2.length]
    exact List.getElem?_eq_none_iff.mp e
theorem walks_str {pw : Bool} {H0 : Hp} {Y0 : Addr → Bool} {σ : L2.St} {x : PySem.Str} (hx : x.length ≤ line) : Walks g pw Y0 H0 σ (Its x) (.vals (x.cps.toList.map fun c => .str ⟨#[c]⟩)) := by
  refine ⟨?_, fun i Y2 H2 s dm => ⟨fun d e => ?_, fun e => ?_⟩⟩
  · rw [List.length_map, Array.length_toList]
    exact hx
  · rw [List.getElem?_map, Option.map_eq_some_iff] at e
    obtain ⟨c, e1, rfl⟩ := e
    have e2 : x.cps[i]? = some c := by rw [← Array.getElem?_toList]; exact e1
    refine ⟨(Array.getElem?_eq_some_iff.mp e2).1, fun v H3 y => ?_⟩
    obtain ⟨rfl, c2, e3, rfl⟩ := y
    rw [e2] at e3
    cases e3
    exact ⟨fun _ _ h => h, .inl (.str _)⟩
  · have := List.getElem?_eq_none_iff.mp e
    rw [List.length_map, Array.length_toList] at this
    exact this
theorem di_of {pw : Bool} (hK : X.K = g.K) (he : PE X e (tE g na fa)) : PI X tg e (tIs g pw fun ρ => do
    let (x, ρ) ← fa ρ
    let s ← srcOf x ρ
    some (s, ρ)) := pi_weak (pi_seq (de_old he)) fun σ H R l ⟨Z, ow, ρ, src, ρ', r, e, k⟩ => by
  simp only [bindS] at e
  obtain ⟨⟨hx, ρ1⟩, e1, s, e2, e3⟩ := e
  cases e3
  refine ⟨Z, ow, ρ, hx, _, r, e1, fun v H1 l1 p1 => ?_⟩
  rw [if_neg (by decide)] at p1
  match hx, e2, p1 with
  | .p i, e2, p1 =>
    simp only [srcOf] at e2
    split at e2
    · rename_i ds q
      cases e2
      have hs : σ[i]? = some (some v) := p1.rep
      obtain ⟨a, xs, f1, f2, _⟩ := p1.rel.own i ds q
      rw [hs] at f1; cases f1
      exact .inl ⟨a, rfl, .inl ⟨⟨xs, SqL.of f2⟩, k _ _ p1.fr p1.rel ⟨a, hs, by rw [hK]⟩ fun j e => by cases e; rw [q]; rfl⟩⟩
    · cases e2
  | .v (.lst xs), e2, p1 =>
    cases e2
    have q := p1.rep
    cases q with
    | @lst p ws _ h1 h2 => exact .inl ⟨p, rfl, .inl ⟨⟨ws, SqL.of (hid_some h1).2⟩, k _ _ p1.fr p1.rel (by rw [hK]; exact walks_list l1 h1 h2) fun j e => nomatch e⟩⟩
  | .v (.tup xs), e2, p1 =>
    cases e2
    have q := p1.rep
    cases q with
    | @tup p ws _ h1 h2 => exact .inl ⟨p, rfl, .inr ⟨⟨ws, hK ▸ sqT_hid h1⟩, k _ _ p1.fr p1.rel (by rw [hK]; exact walks_tup l1 h1 h2) fun j e => nomatch e⟩⟩
  | .v (.str x), e2, p1 =>
    simp only [srcOf] at e2
    split at e2
    · rename_i hx
      cases e2
      have q := p1.rep
      cases q
      exact .inr ⟨x, rfl, k _ _ p1.fr p1.rel (walks_str hx) fun j e => nomatch e⟩
    · cases e2
end
end PV

end
section
set_option Elab.async false
set_option linter.all false
set_option maxRecDepth 100000
set_option maxHeartbeats 1000000
/-! DC: list comprehensions. -/
namespace PV
open PySem PySem.Spec PyProof.Rows L2
abbrev EvB := Env → Option (Bool × Env)
def turnF (vs : List Nat) (fi : EvB) (fe : Ev) (x : D) (ρ : Env) : Option (List D × Env) := do
      let ρ ← setTg vs x (ρ.wipe vs)
      let (b, ρ) ← fi ρ
      match b with
      | true => do
        let (h, ρ) ← fe ρ
        let d ← h.val
        some ([d], ρ)
      | false => some ([], ρ)
def compF (vs : List Nat) (fw : EvI) (fi : EvB) (fe : Ev) : Ev := fun ρ => do
    let (s, ρ) ← fw ρ
    if vs.any fun v => isOwn (ρ.get v) then none else
    let (ds, ρ') ← compS (turnF vs fi fe) s (ρ.wipe vs)
    some (.v (.lst ds), Env.rest ρ ρ' vs)
section
variable {g : G} {Z ow : Addr → Bool} {σ : L2.St} {H H1 H2 H' : Hp} {ρ ρ' : Env} {K : PySem.W.Frag}
theorem LenOk.upd (l : LenOk K H) (p : Addr) (xs : List V) (h : xs.length ≤ sizeLine) : LenOk K (L2.upd H p (.lst xs)) := by
  refine ⟨fun a ys q => ?_, fun a ys q => ?_⟩
  · rcases q with (q | ⟨o, q⟩) | q
    · by_cases e : a = p
      · subst e; rw [upd_same] at q; cases q; exact h
      · rw [upd_ne e] at q; exact l.l a ys (.inl (.inl q))
    · by_cases e : a = p
      · subst e; rw [upd_same] at q; cases q
      · rw [upd_ne e] at q; exact l.l a ys (.inl (.inr ⟨o, q⟩))
    · exact l.l a ys (.inr q)
  · rcases q with (q | ⟨o, q⟩) | q
    · by_cases e : a = p
      · subst e; rw [upd_same] at q; cases q
      · rw [upd_ne e] at q; exact l.t a ys (.inl (.inl q))
    · by_cases e : a = p
      · subst e; rw [upd_same] at q; cases q
      · rw [upd_ne e] at q; exact l.t a ys (.inl (.inr ⟨o, q⟩))
    · exact l.t a ys (.inr q)
theorem setTg_len {vs : List Nat} {d : D} (e : setTg vs d ρ = some ρ') : ρ'.sl.length = ρ.sl.length := by
  unfold setTg at e
  split at e <;> first | (cases e; simp [put_len]; done) | cases e
theorem Fr.add (f : Fr g ow H H') (p : Addr) : Fr g (PV.add ow p) H H' := fun c o e z => f c o e (by simp [PV.add] at z; exact z.1)
theorem Fr.updA (f : Fr g (PV.add ow p) H H') (o : HO) : Fr g (PV.add ow p) H (upd H' p o) := fun c u e z h1 h2 => by
  have : c ≠ p := by rintro rfl; simp [PV.add] at z
  rw [upd_ne this]; exact f c u e z h1 h2
theorem hid_upd {Y : Addr → Bool} {p : Addr} (h : Y p = true) (o : HO) : hid Y (upd H p o) = hid Y H := by
  funext c
  unfold hid
  split
  · rfl
  · rename_i q
    rw [upd_ne]
    rintro rfl; exact q h
/-- a turn of a comprehension: from the wiped environment -/
theorem turn_ok {pw : Bool} {vs : List Nat} (hpw : pw = true → vs.length ≠ 1) {fi : EvB} {fe : Ev} {p : Addr} {x : V} {d : D} {tl : List D} {acc : List V} {dn : List D} {Nx : Hp → Prop} {ne : Bool}
    (r : Rel g (add Z p) ow (L2.wipe σ vs) H (ρ.wipe vs)) (hp : H p = some (.lst acc)) (n1 : p ≠ g.ba) (n2 : p ≠ g.bc) (op : ow p = false) (hz : acc.length < sizeLine) (ra : RepL g (hid (Or2 (add Z p) ow) H) acc dn)
    (hx : PRep g (Or2 (add Z p) ow) pw H x d) (e : turnF vs fi fe d ρ = some (tl, ρ')) (hl : σ.length = ρ.sl.length)
    (k : ∀ H' ys, Fr g (add ow p) H H' → H' p = some (.lst ys) → ys.length ≤ acc.length + 1 → RepL g (hid (Or2 (add Z p) ow) H') ys (dn ++ tl) → Rel g (add Z p) ow (L2.wipe σ vs) H' (ρ'.wipe vs) → σ.length = ρ'.sl.length → Nx H') :
    gOf g.K vs x (L2.wipe σ vs) H fun σ2 H2 => L2.wipe σ2 vs = L2.wipe σ vs ∧ tTs g fi σ2 H2 fun b H3 =>
      if b = true then tE g ne fe σ2 H3 fun y H4 => ∃ acc, H4 p = some (.lst acc) ∧ acc.length < sizeLine ∧ Nx (upd H4 p (.lst (acc ++ [y]))) else Nx H3 := by
  have zp : (add Z p) p = true := by simp [add]
  have wp : Or2 (add Z p) ow p = true := by simp [Or2, add]
  simp only [turnF, bindS] at e
  obtain ⟨ρs, e1, ⟨b, ρ3⟩, e2, e3⟩ := e
  refine setTg_ok rfl r hx hpw e1 fun σ2 r2 ag => ?_
  have hl2 : σ2.length = σ.length := by
    rw [r2.len]
    have := setTg_len e1
    rw [this, wipe_len, hl]
  have hw : L2.wipe σ2 vs = L2.wipe σ vs := wipeS_eq hl2 ag
  refine ⟨hw, add Z p, ow, ρs, b, ρ3, r2, e2, fun H3 l3 f3 r3 => ?_⟩
  have keep : ∀ {H' : Hp}, Fr g ow H H' → H' p = some (.lst acc) ∧ RepL g (hid (Or2 (add Z p) ow) H') acc dn := fun f => ⟨f p _ hp op n1 n2, RepL.mono (f.hid r.zb) ra⟩
  cases b with
  | false =>
    cases e3
    refine iteF (k H3 acc (f3.add p) (keep f3).1 (Nat.le_succ _) (by rw [List.append_nil]; exact (keep f3).2) ?_ ?_)
    · rw [← hw]; exact r3.wipe vs
    · rw [← hl2]; exact r3.len
  | true =>
    simp only [bindS] at e3
    obtain ⟨⟨h, ρ4⟩, e4, dy, e5, e6⟩ := e3
    cases e6
    refine iteT ⟨add Z p, ow, ρ3, h, _, r3, e4, fun y H4 l4 p4 => ?_⟩
    have p4 : Pst g (add Z p) ow σ2 H3 H4 ρ4 y h := by
      cases ne with
      | true => rw [if_pos rfl] at p4; exact p4.pst
      | false => rw [if_neg (by decide)] at p4; exact p4
    have f4 := f3.trans p4.fr
    obtain ⟨q1, q2⟩ := keep f4
    refine ⟨acc, q1, hz, k _ (acc ++ [y]) ((f4.add p).updA _) upd_same (by simp) ?_ ?_ (by rw [← hl2]; exact p4.rel.len)⟩
    · rw [hid_upd wp]
      exact q2.append (.cons (p4.rep.val e5) .nil)
    · rw [← hw]
      exact (p4.rel.wipe vs).updZ zp n1 n2 _
end
section
variable {X : Cx} {g : G} {elt tg iter : Expr} {ifs : List Expr} {scope : Scope} {own : List (PySem.Str × Nat)} {pos : Pos} {fw : EvI} {fi : EvB} {fe : Ev} {ne : Bool}
theorem own_any {ρ : Env} {vs : List Nat} (h : ¬ (vs.any fun v => isOwn (ρ.get v)) = true) {v : Nat} (hv : v ∈ vs) : isOwn (ρ.get v) = false := by
  cases q : isOwn (ρ.get v) with
  | false => rfl
  | true => exact absurd (List.any_eq_true.mpr ⟨v, hv, q⟩) h
/-- behind the loop -/
theorem comp_end {Z ow : Addr → Bool} {σ : L2.St} {H1 H : Hp} {ρ1 ρ2 : Env} {vs : List Nat} {p : Addr} {acc : List V} {ds : List D} (r1 : Rel g Z ow σ H1 ρ1) (hp1 : H1 p = none) (ho : ∀ v ∈ vs, isOwn (ρ1.get v) = false)
    (f : Fr g (add ow p) (upd H1 p (.lst [])) H) (hp : H p = some (.lst acc)) (ra : RepL g (hid (Or2 (add Z p) ow) H) acc ds) (r2 : Rel g (add Z p) ow (L2.wipe σ vs) H (ρ2.wipe vs)) :
    PstN g Z ow σ H1 H (Env.rest ρ1 ρ2 vs) (.ref p) (.v (.lst ds)) := by
  have np : ∀ {b o}, H1 b = some o → b ≠ p := fun e => ne_of_none e hp1
  have op : ow p = false := by
    have := r1.dom.not hp1
    simp [Or2] at this; exact this.2
  have zp : Z p = false := by
    have := r1.dom.not hp1
    simp [Or2] at this; exact this.1
  have hll : ρ1.sl.length = ρ2.sl.length := by
    have a := r1.len
    have b := r2.len
    rw [wipe_length, wipe_len] at b
    omega
  let H0 : Hp := fun b => if b = p then none else H b
  have h0 : ∀ {b}, b ≠ p → H0 b = H b := fun e => if_neg e
  have h0p : H0 p = none := if_pos rfl
  have hu : H = upd H0 p (.lst acc) := by
    funext b
    by_cases e : b = p
    · subst e; rw [upd_same, hp]
    · rw [upd_ne e, h0 e]
  have hh : hid (Or2 (add Z p) ow) H = hid (Or2 Z ow) H0 := by
    funext c
    unfold hid
    by_cases e : c = p
    · subst e; rw [if_pos (by simp [Or2, add]), h0p]; simp
    · rw [h0 e]
      have : Or2 (add Z p) ow c = Or2 Z ow c := by simp [Or2, add, e]
      rw [this]
  have fr : Fr g ow H1 H0 := fun c o e z h1 h2 => by
    have n := np e
    rw [h0 n]
    exact f c o (by rw [upd_ne n]; exact e) (by simp [add, z, n]) h1 h2
  have hs : Same (hid (Or2 Z ow) H1) (hid (Or2 Z ow) H0) := fr.hid r1.zb
  refine ⟨⟨H0, p, acc, ds, rfl, rfl, h0p, hu, ⟨?_, fun i d q => ?_, fun i es q => ?_, fun i j es fs b q1 q2 q3 q4 => ?_, fun c z => ?_, r1.dis, ?_, r1.zb⟩, by rw [← hh]; exact ra, fr⟩⟩
  · rw [rest_len, ← hll]; exact r1.len
  · rw [get_rest hll] at q
    split at q
    · obtain ⟨v, e1, e2⟩ := r1.val i d q
      exact ⟨v, e1, e2.mono hs⟩
    · rename_i c
      obtain ⟨v, e1, e2⟩ := r2.val i d (by rw [get_wipe, if_neg c]; exact q)
      rw [wipe_out c] at e1
      exact ⟨v, e1, by rw [← hh]; exact e2⟩
  · rw [get_rest hll] at q
    split at q
    · rename_i c
      have := ho i c
      rw [q] at this; cases this
    · rename_i c
      obtain ⟨a, xs, e1, e2, e3, e4⟩ := r2.own i es (by rw [get_wipe, if_neg c]; exact q)
      rw [wipe_out c] at e1
      have na : a ≠ p := by rintro rfl; rw [op] at e3; cases e3
      exact ⟨a, xs, e1, by rw [h0 na]; exact e2, e3, by rw [← hh]; exact e4⟩
  · rw [get_rest hll] at q1 q2
    split at q1
    · rename_i c
      have := ho i c
      rw [q1] at this; cases this
    · rename_i c1
      split at q2
      · rename_i c
        have := ho j c
        rw [q2] at this; cases this
      · rename_i c2
        exact r2.sep i j es fs b (by rw [get_wipe, if_neg c1]; exact q1) (by rw [get_wipe, if_neg c2]; exact q2) (by rw [wipe_out c1]; exact q3) (by rw [wipe_out c2]; exact q4)
  · have n : c ≠ p := by rintro rfl; simp [Or2, zp, op] at z
    rw [h0 n]
    refine r2.dom c ?_
    simp only [Or2, add, Bool.or_eq_true] at z ⊢
    exact z.elim (fun z => .inl (.inl z)) .inr
  · rw [rest_bx]
    have := r2.box
    rw [wipe_bx] at this
    have n1 : g.ba ≠ p := np r1.box.1
    have n2 : g.bc ≠ p := np r1.box.2.1
    exact ⟨by rw [h0 n1]; exact this.1, by rw [h0 n2]; exact this.2.1, this.2.2⟩
theorem compV_some {turn : D → Env → Option (List D × Env)} {i n k : Nat} {ρ ρ2 : Env} {tl : List D} (e : compV turn i (n + 1) k ρ = some (tl, ρ2)) : ∃ ds, ρ.get i = .own ds ∧
    ((ds[k]? = none ∧ tl = [] ∧ ρ2 = ρ) ∨ ∃ x r ρ' ys, ds[k]? = some x ∧ turn x ρ = some (r, ρ') ∧ compV turn i n (k + 1) ρ' = some (ys, ρ2) ∧ tl = r ++ ys) := by
  unfold compV at e
  split at e
  · rename_i ds q
    refine ⟨ds, q, ?_⟩
    split at e
    · rename_i q2
      cases e
      exact .inl ⟨q2, rfl, rfl⟩
    · rename_i x q2
      simp only [bindS] at e
      obtain ⟨⟨r, ρ'⟩, e1, ⟨ys, ρ3⟩, e2, e3⟩ := e
      cases e3
      exact .inr ⟨x, r, ρ', ys, q2, e1, e2, rfl⟩
  · cases e
theorem comp_read {pw : Bool} {σ : L2.St} {H : Hp} {Q : VK} {vs : List Nat} (hpw : pw = true → vs.length ≠ 1) (h : tE g true (compF vs fw fi fe) σ H Q) : tLc (tIs g pw fw) (gOf g.K vs) (tTs g fi) (tE g ne fe) vs σ H (fun v H' => LenOk g.K H' → Q v H') := by
  obtain ⟨Z, ow, ρ, h, ρ', r, e, k⟩ := h
  simp only [compF, bindS] at e
  obtain ⟨⟨s, ρ1⟩, e1, e2⟩ := e
  split at e2
  · cases e2
  rename_i hown
  simp only [bindS] at e2
  obtain ⟨⟨ds, ρ2⟩, e2, e3⟩ := e2
  cases e3
  have ho : ∀ v ∈ vs, isOwn (ρ1.get v) = false := fun v hv => own_any hown hv
  refine ⟨Z, ow, ρ, s, ρ1, r, e1, fun J H1 f1 r1 wk lv p hp1 => ?_⟩
  have np : ∀ {b o}, H1 b = some o → b ≠ p := fun e => ne_of_none e hp1
  have op : ow p = false := by
    have := r1.dom.not hp1
    simp [Or2] at this; exact this.2
  have n1 : p ≠ g.ba := (np r1.box.1).symm
  have n2 : p ≠ g.bc := (np r1.box.2.1).symm
  have r0 : Rel g (add Z p) ow (L2.wipe σ vs) (upd H1 p (.lst [])) (ρ1.wipe vs) := (r1.wipe vs).hide hp1 []
  have see : ∀ {H : Hp}, Fr g (add ow p) (upd H1 p (.lst [])) H → Same (hid (Or2 Z ow) H1) (hid (Or2 (add Z p) ow) H) := fun f c o e => by
    obtain ⟨z, e⟩ := hid_some e
    have n := np e
    have z' : Z c = false ∧ ow c = false := by simpa [Or2] using z
    refine hid_of (by simp [Or2, add, z', n]) (f c o (by rw [upd_ne n]; exact e) (by simp [add, z', n]) ?_ ?_)
    · rintro rfl; rw [r1.zb.1] at z'; cases z'.1
    · rintro rfl; rw [r1.zb.2] at z'; cases z'.1
  have fin : ∀ {H : Hp} {acc : List V} {ρ3 : Env}, ρ3 = ρ2 → Fr g (add ow p) (upd H1 p (.lst [])) H → H p = some (.lst acc) → RepL g (hid (Or2 (add Z p) ow) H) acc ds → Rel g (add Z p) ow (L2.wipe σ vs) H (ρ3.wipe vs) → (LenOk g.K H → Q (.ref p) H) := fun e f hp ra r2 l => by
    subst e
    refine k _ _ l ?_
    rw [if_pos rfl]
    obtain ⟨H0, p', xs', ds', q1, q2, q3, q4, q5, q6, q7⟩ := (comp_end r1 hp1 ho f hp ra r2).ex
    exact ⟨⟨H0, p', xs', ds', q1, q2, q3, q4, q5, q6, f1.trans q7⟩⟩
  cases s with
  | vals xs =>
    obtain ⟨hxl, wk⟩ := wk
    refine ⟨fun i m H => ∃ ρi acc dn tl, m = xs.length - i ∧ i ≤ xs.length ∧ acc.length ≤ i ∧ H p = some (.lst acc) ∧ RepL g (hid (Or2 (add Z p) ow) H) acc dn ∧ Rel g (add Z p) ow (L2.wipe σ vs) H (ρi.wipe vs) ∧ σ.length = ρi.sl.length ∧
      Fr g (add ow p) (upd H1 p (.lst [])) H ∧ compL (turnF vs fi fe) (xs.drop i) ρi = some (tl, ρ2) ∧ dn ++ tl = ds, ⟨xs.length, ρ1.wipe vs, [], [], ds, by simp, Nat.zero_le _, Nat.le_refl _, upd_same, .nil, ?_, ?_, .refl, by simpa [compS] using e2, rfl⟩, ?_⟩
    · have := r0.wipe vs
      have e : L2.wipe (L2.wipe σ vs) vs = L2.wipe σ vs := wipeS_eq (wipe_length σ vs) fun j hj => rfl
      rwa [e] at this
    · rw [wipe_len]; exact r1.len
    · rintro i m H ⟨ρi, acc, dn, tl, rfl, hi, ha, hp, ra, ri, hli, fi', ei, ed⟩
      cases hx : xs[i]? with
      | none =>
        have e0 : xs.drop i = [] := List.drop_eq_nil_of_le (List.getElem?_eq_none_iff.mp hx)
        rw [e0] at ei
        cases ei
        rw [List.append_nil] at ed
        subst ed
        exact .inl ⟨(wk i _ _ (see fi') ri.dom).2 hx, fun l => fin rfl fi' hp ra ri l⟩
      | some d =>
        have hlt : i < xs.length := (List.getElem?_eq_some_iff.mp hx).1
        have e0 : xs.drop i = d :: xs.drop (i + 1) := by
          rw [List.drop_eq_getElem_cons hlt]
          rw [(List.getElem?_eq_some_iff.mp hx).2]
        rw [e0] at ei
        simp only [compL, bindS] at ei
        obtain ⟨⟨r', ρ3⟩, g1, ⟨ys, ρ4⟩, g2, g3⟩ := ei
        have g4 : r' ++ ys = tl ∧ ρ4 = ρ2 := by simpa using g3
        obtain ⟨g5, g6⟩ := g4
        subst g5
        rw [g6] at g2
        obtain ⟨go, yl⟩ := (wk i _ _ (see fi') ri.dom).1 d hx
        refine .inr ⟨go, fun H' => ∃ ρi acc dn tl, xs.length - (i + 1) = xs.length - (i + 1) ∧ i + 1 ≤ xs.length ∧ acc.length ≤ i + 1 ∧ H' p = some (.lst acc) ∧ RepL g (hid (Or2 (add Z p) ow) H') acc dn ∧ Rel g (add Z p) ow (L2.wipe σ vs) H' (ρi.wipe vs) ∧ σ.length = ρi.sl.length ∧
          Fr g (add ow p) (upd H1 p (.lst [])) H' ∧ compL (turnF vs fi fe) (xs.drop (i + 1)) ρi = some (tl, ρ2) ∧ dn ++ tl = ds, fun H' n => ⟨_, by omega, n⟩, fun x H3 y => ?_⟩
        obtain ⟨s3, rx⟩ := yl x H3 y
        refine turn_ok hpw (ri.ext s3) (s3 _ _ hp) n1 n2 op (by omega) (RepL.mono (hid_mono s3) ra) rx g1 hli fun H4 zs f4 h4 l4 r4 rel4 len4 => ?_
        exact ⟨ρ3, zs, dn ++ r', ys, rfl, hlt, by omega, h4, r4, rel4, len4, (fi'.trans (.of_same s3)).trans f4, g2, by rw [List.append_assoc]; exact ed⟩
  | live i =>
    obtain ⟨a, ha, rfl⟩ := wk
    have hiv : i ∉ vs := fun q => by
      have := ho i q
      rw [lv i rfl] at this; cases this
    refine ⟨fun k m H => ∃ ρi acc dn tl, m + k = fuel ∧ acc.length ≤ k ∧ H p = some (.lst acc) ∧ RepL g (hid (Or2 (add Z p) ow) H) acc dn ∧ Rel g (add Z p) ow (L2.wipe σ vs) H (ρi.wipe vs) ∧ σ.length = ρi.sl.length ∧
      Fr g (add ow p) (upd H1 p (.lst [])) H ∧ compV (turnF vs fi fe) i m k ρi = some (tl, ρ2) ∧ dn ++ tl = ds, ⟨fuel, ρ1.wipe vs, [], [], ds, rfl, Nat.le_refl _, upd_same, .nil, ?_, ?_, .refl, by simpa [compS] using e2, rfl⟩, ?_⟩
    · have := r0.wipe vs
      have e : L2.wipe (L2.wipe σ vs) vs = L2.wipe σ vs := wipeS_eq (wipe_length σ vs) fun j hj => rfl
      rwa [e] at this
    · rw [wipe_len]; exact r1.len
    · rintro kk m H ⟨ρi, acc, dn, tl, hm, ha', hp, ra, ri, hli, fi', ei, ed⟩
      match m, ei with
      | 0, ei => cases ei
      | m + 1, ei =>
        obtain ⟨ls, hg, hc⟩ := compV_some ei
        obtain ⟨b, ws, f1', f2', f3', f4'⟩ := ri.own i ls (by rw [get_wipe, if_neg hiv]; exact hg)
        rw [wipe_out hiv, ha] at f1'
        cases f1'
        have hq : SqL g.K H a ws := SqL.of f2'
        rcases hc with ⟨c1, rfl, rfl⟩ | ⟨d, r', ρ3, ys, c1, c2, c3, rfl⟩
        · rw [List.append_nil] at ed
          subst ed
          refine .inl ⟨⟨ws, hq, ?_⟩, fun l => fin rfl fi' hp ra ri l⟩
          rw [f4'.length]
          exact List.getElem?_eq_none_iff.mp c1
        · obtain ⟨v, e1', e2'⟩ := f4'.get c1
          refine .inr ⟨⟨ws, v, hq, e1'⟩, fun H' => ∃ ρi acc dn tl, m + (kk + 1) = fuel ∧ acc.length ≤ kk + 1 ∧ H' p = some (.lst acc) ∧ RepL g (hid (Or2 (add Z p) ow) H') acc dn ∧ Rel g (add Z p) ow (L2.wipe σ vs) H' (ρi.wipe vs) ∧ σ.length = ρi.sl.length ∧
            Fr g (add ow p) (upd H1 p (.lst [])) H' ∧ compV (turnF vs fi fe) i m (kk + 1) ρi = some (tl, ρ2) ∧ dn ++ tl = ds, fun H' n => ⟨m, Nat.lt_succ_self _, n⟩, fun x H3 y => ?_⟩
          obtain ⟨rfl, y⟩ := y
          have := y ws hq
          rw [e1'] at this; cases this
          have hz : acc.length < sizeLine := by
            have : fuel = 1000000 := rfl
            rw [sizeLine_eq]; omega
          refine turn_ok hpw ri hp n1 n2 op hz ra (.inl e2') c2 hli fun H4 zs f4 h4 l4 r4 rel4 len4 => ?_
          exact ⟨ρ3, zs, dn ++ r', ys, by omega, by omega, h4, r4, rel4, len4, fi'.trans f4, c3, by rw [List.append_assoc]; exact ed⟩
theorem PTs.of {ifs : List Expr} {t t0 : TT} (h : PTs X ifs t0) (imp : ∀ σ H Q, LenOk X.K H → t σ H Q → t0 σ H (fun v H' => LenOk X.K H' → Q v H')) : PTs X ifs t := ⟨fun pins s σ H Q I hw =>
  thn (h.run pins s σ H _ I (imp σ H Q (Inv.lenOk I) hw)) fun u s' ⟨H', I', q⟩ => ⟨H', I', q (Inv.lenOk I')⟩⟩
theorem dts_nil (hK : X.K = g.K) : PTs X [] (tTs g fun ρ => some (true, ρ)) := PTs.of pts_nil fun σ H Q l ⟨Z, ow, ρ, b, ρ', r, e, k⟩ => by
  cases e
  exact fun l => k _ (hK ▸ l) .refl r
theorem de_comp {pw : Bool} (hpw : pw = true → (own.map (·.2)).length ≠ 1) (hK : X.K = g.K) (hc : X.calm = true) (hN : X.N.Nodup) (hi : PI X tg iter (tIs g pw fw)) (ok : BlkOk X.N X.env.scope scope own)
    (hg : ∀ (s : Shared) (H : Hp) (C : Addr) (cl : List (PySem.Str × Addr)) (fp : List Addr), PG (X.blk s H scope (compEnvC scope cl C X.env) fp) tg (gOf g.K (own.map (·.2))))
    (ht : ∀ (s : Shared) (H : Hp) (C : Addr) (cl : List (PySem.Str × Addr)) (fp : List Addr), PTs (X.blk s H scope (compEnvC scope cl C X.env) fp) ifs (tTs g fi))
    (he : ∀ (s : Shared) (H : Hp) (C : Addr) (cl : List (PySem.Str × Addr)) (fp : List Addr), PE (X.blk s H scope (compEnvC scope cl C X.env) fp) elt (tE g ne fe))
    (hs : ∀ x, foldedSetIterable iter X.env x = pure x) : PE X (.ListComp elt [⟨tg, iter, ifs, 0⟩] scope pos) (tE g true (compF (own.map (·.2)) fw fi fe)) :=
  PE.of (pe_lc hc hN hi ok hg ht he hs) fun σ H Q l h => by rw [hK]; exact comp_read hpw h
end
end PV

end
section
set_option Elab.async false
set_option linter.all false
set_option maxRecDepth 100000
set_option maxHeartbeats 1000000
/-! DC2: list comprehensions of two fors. -/
namespace PV
open PySem PySem.Spec PyProof.Rows L2
def turn2F (ws vs : List Nat) (fi : EvB) (fw1 : EvI) (vs1 : List Nat) (fi1 : EvB) (fe : Ev) (x : D) (ρ : Env) : Option (List D × Env) := do
      let ρ ← setTg vs x (ρ.wipe ws)
      let (b, ρ) ← fi ρ
      match b with
      | true => do
        let (s2, ρ) ← fw1 ρ
        compLv (turnF vs1 fi1 fe) s2 (ρ.wipe vs1)
      | false => some ([], ρ)
def comp2F (vs : List Nat) (fw : EvI) (fi : EvB) (vs1 : List Nat) (fw1 : EvI) (fi1 : EvB) (fe : Ev) : Ev := fun ρ => do
    let (s, ρ) ← fw ρ
    if (vs ++ vs1).any fun v => isOwn (ρ.get v) then none else
    let (ds, ρ') ← compLv (turn2F (vs ++ vs1) vs fi fw1 vs1 fi1 fe) s (ρ.wipe (vs ++ vs1))
    if ds.length < line then some (.v (.lst ds), Env.rest ρ ρ' (vs ++ vs1)) else none
theorem wipe_wipe {ρ : Env} {a b : List Nat} (h : ∀ v ∈ a, v ∈ b) : (ρ.wipe a).wipe b = ρ.wipe b := by
  have hl : ((ρ.wipe a).wipe b).sl = (ρ.wipe b).sl := by
    refine List.ext_getElem (by simp only [wipe_len]) fun i h1 h2 => ?_
    have e : ((ρ.wipe a).wipe b).get i = (ρ.wipe b).get i := by
      rw [get_wipe, get_wipe, get_wipe]
      by_cases c : i ∈ b
      · rw [if_pos c, if_pos c]
      · rw [if_neg c, if_neg c, if_neg fun z => c (h i z)]
    simp only [Env.get, List.getD_eq_getElem?_getD, List.getElem?_eq_getElem h1, List.getElem?_eq_getElem h2, Option.getD_some] at e
    exact e
  have hb : ((ρ.wipe a).wipe b).bx = (ρ.wipe b).bx := by simp only [wipe_bx]
  generalize (ρ.wipe a).wipe b = x at hl hb
  generalize ρ.wipe b = y at hl hb
  obtain ⟨_, _⟩ := x; obtain ⟨_, _⟩ := y
  cases hl; cases hb; rfl
section
variable {X : Cx} {g : G} {elt tg iter tg1 iter1 : Expr} {ifs ifs1 : List Expr} {scope : Scope} {own : List (PySem.Str × Nat)} {pos : Pos} {fw fw1 : EvI} {fi fi1 : EvB} {fe : Ev} {ne : Bool}
theorem comp2_read {pw pw1 : Bool} {σ : L2.St} {H : Hp} {Q : VK} {vs vs1 : List Nat} (hpw : pw = true → vs.length ≠ 1) (hpw1 : pw1 = true → vs1.length ≠ 1) (h : tE g true (comp2F vs fw fi vs1 fw1 fi1 fe) σ H Q) :
    tLc2 (tIs g pw fw) (gOf g.K vs) (tTs g fi) (tIs g pw1 fw1) (gOf g.K vs1) (tTs g fi1) (tE g ne fe) (vs ++ vs1) vs1 σ H (fun v H' => LenOk g.K H' → Q v H') := by
  obtain ⟨Z, ow, ρ, h, ρ', r, e, k⟩ := h
  simp only [comp2F, bindS] at e
  obtain ⟨⟨s, ρ1⟩, e1, e2⟩ := e
  generalize hws : vs ++ vs1 = ws at e2 ⊢
  have sub : ∀ v ∈ vs1, v ∈ ws := fun v hv => by rw [← hws]; exact List.mem_append_right _ hv
  have sub0 : ∀ v ∈ vs, v ∈ ws := fun v hv => by rw [← hws]; exact List.mem_append_left _ hv
  split at e2
  · cases e2
  rename_i hown
  simp only [bindS] at e2
  obtain ⟨⟨ds, ρ2⟩, e2, e3⟩ := e2
  split at e3
  · rename_i hline
    have hline : ds.length < line := hline
    cases e3
    have ho : ∀ v ∈ ws, isOwn (ρ1.get v) = false := fun v hv => own_any hown hv
    refine ⟨Z, ow, ρ, s, ρ1, r, e1, fun J H1 f1 r1 wk lv p hp1 => ?_⟩
    have np : ∀ {b o}, H1 b = some o → b ≠ p := fun e => ne_of_none e hp1
    have op : ow p = false := by
      have := r1.dom.not hp1
      simp [Or2] at this; exact this.2
    have n1 : p ≠ g.ba := (np r1.box.1).symm
    have n2 : p ≠ g.bc := (np r1.box.2.1).symm
    have r0 : Rel g (add Z p) ow (L2.wipe σ ws) (upd H1 p (.lst [])) (ρ1.wipe ws) := (r1.wipe ws).hide hp1 []
    have see : ∀ {H : Hp}, Fr g (add ow p) (upd H1 p (.lst [])) H → Same (hid (Or2 Z ow) H1) (hid (Or2 (add Z p) ow) H) := fun f c o e => by
      obtain ⟨z, e⟩ := hid_some e
      have n := np e
      have z' : Z c = false ∧ ow c = false := by simpa [Or2] using z
      refine hid_of (by simp [Or2, add, z', n]) (f c o (by rw [upd_ne n]; exact e) (by simp [add, z', n]) ?_ ?_)
      · rintro rfl; rw [r1.zb.1] at z'; cases z'.1
      · rintro rfl; rw [r1.zb.2] at z'; cases z'.1
    have see2 : ∀ {H2 H3 : Hp}, Fr g (add ow p) H2 H3 → Same (hid (Or2 (add Z p) ow) H2) (hid (Or2 (add Z p) ow) H3) := fun f c o e => by
      obtain ⟨z, e⟩ := hid_some e
      have z' : (Z c = false ∧ c ≠ p) ∧ ow c = false := by simpa [Or2, add] using z
      refine hid_of z (f c o e (by simp [add, z'.2, z'.1.2]) ?_ ?_)
      · rintro rfl; rw [r1.zb.1] at z'; cases z'.1.1
      · rintro rfl; rw [r1.zb.2] at z'; cases z'.1.1
    have fin : ∀ {H : Hp} {acc : List V} {ρ3 : Env}, ρ3 = ρ2 → Fr g (add ow p) (upd H1 p (.lst [])) H → H p = some (.lst acc) → RepL g (hid (Or2 (add Z p) ow) H) acc ds → Rel g (add Z p) ow (L2.wipe σ ws) H (ρ3.wipe ws) → (LenOk g.K H → Q (.ref p) H) := fun e f hp ra r2 l => by
      subst e
      refine k _ _ l ?_
      rw [if_pos rfl]
      obtain ⟨H0, p', xs', ds', q1, q2, q3, q4, q5, q6, q7⟩ := (comp_end r1 hp1 ho f hp ra r2).ex
      exact ⟨⟨H0, p', xs', ds', q1, q2, q3, q4, q5, q6, f1.trans q7⟩⟩
    cases s with
    | live i => cases e2
    | vals xs =>
      obtain ⟨hxl, wk⟩ := wk
      refine ⟨fun i m H => ∃ ρi acc dn tl, m = xs.length - i ∧ i ≤ xs.length ∧ H p = some (.lst acc) ∧ RepL g (hid (Or2 (add Z p) ow) H) acc dn ∧ Rel g (add Z p) ow (L2.wipe σ ws) H (ρi.wipe ws) ∧ σ.length = ρi.sl.length ∧
        Fr g (add ow p) (upd H1 p (.lst [])) H ∧ compL (turn2F ws vs fi fw1 vs1 fi1 fe) (xs.drop i) ρi = some (tl, ρ2) ∧ dn ++ tl = ds, ⟨xs.length, ρ1.wipe ws, [], [], ds, by simp, Nat.zero_le _, upd_same, .nil, ?_, ?_, .refl, by simpa [compLv] using e2, rfl⟩, ?_⟩
      · have := r0.wipe ws
        have e : L2.wipe (L2.wipe σ ws) ws = L2.wipe σ ws := wipeS_eq (wipe_length σ ws) fun j hj => rfl
        rwa [e] at this
      · rw [wipe_len]; exact r1.len
      · rintro i m H ⟨ρi, acc, dn, tl, rfl, hi, hp, ra, ri, hli, fi', ei, ed⟩
        cases hx : xs[i]? with
        | none =>
          have e0 : xs.drop i = [] := List.drop_eq_nil_of_le (List.getElem?_eq_none_iff.mp hx)
          rw [e0] at ei
          cases ei
          rw [List.append_nil] at ed
          subst ed
          exact .inl ⟨(wk i _ _ (see fi') ri.dom).2 hx, fun l => fin rfl fi' hp ra ri l⟩
        | some d =>
          have hlt : i < xs.length := (List.getElem?_eq_some_iff.mp hx).1
          have e0 : xs.drop i = d :: xs.drop (i + 1) := by
            rw [List.drop_eq_getElem_cons hlt]
            rw [(List.getElem?_eq_some_iff.mp hx).2]
          rw [e0] at ei
          simp only [compL, bindS] at ei
          obtain ⟨⟨r', ρ3⟩, g1, ⟨ys, ρ4⟩, g2, g3⟩ := ei
          have g4 : r' ++ ys = tl ∧ ρ4 = ρ2 := by simpa using g3
          obtain ⟨g5, g6⟩ := g4
          subst g5
          rw [g6] at g2
          obtain ⟨go, yl⟩ := (wk i _ _ (see fi') ri.dom).1 d hx
          refine .inr ⟨go, fun H' => ∃ ρi acc dn tl, xs.length - (i + 1) = xs.length - (i + 1) ∧ i + 1 ≤ xs.length ∧ H' p = some (.lst acc) ∧ RepL g (hid (Or2 (add Z p) ow) H') acc dn ∧ Rel g (add Z p) ow (L2.wipe σ ws) H' (ρi.wipe ws) ∧ σ.length = ρi.sl.length ∧
            Fr g (add ow p) (upd H1 p (.lst [])) H' ∧ compL (turn2F ws vs fi fw1 vs1 fi1 fe) (xs.drop (i + 1)) ρi = some (tl, ρ2) ∧ dn ++ tl = ds, fun H' n => ⟨_, by omega, n⟩, fun x H3 y => ?_⟩
          obtain ⟨s3, rx⟩ := yl x H3 y
          have fi3 : Fr g (add ow p) (upd H1 p (.lst [])) H3 := fi'.trans (.of_same s3)
          have hp3 : H3 p = some (.lst acc) := s3 _ _ hp
          have ra3 : RepL g (hid (Or2 (add Z p) ow) H3) acc dn := RepL.mono (hid_mono s3) ra
          simp only [turn2F, bindS] at g1
          obtain ⟨ρs, t1, ⟨b, ρb⟩, t2, t3⟩ := g1
          refine setTg_ok rfl (ri.ext s3) rx hpw t1 fun σ2 r2 ag => ?_
          have hl2 : σ2.length = σ.length := by
            rw [r2.len]
            have := setTg_len t1
            rw [this, wipe_len, hli]
          have hw : L2.wipe σ2 ws = L2.wipe σ ws := wipeS_eq hl2 fun j hj => ag j fun z => hj (sub0 j z)
          refine ⟨hw, add Z p, ow, ρs, b, ρb, r2, t2, fun H4 l4 f4 r4 => ?_⟩
          have keep : ∀ {H' : Hp}, Fr g ow H3 H' → H' p = some (.lst acc) ∧ RepL g (hid (Or2 (add Z p) ow) H') acc dn := fun f => ⟨f p _ hp3 op n1 n2, RepL.mono (f.hid r2.zb) ra3⟩
          cases b with
          | false =>
            cases t3
            refine iteF ⟨_, acc, dn, ys, rfl, hlt, (keep f4).1, (keep f4).2, ?_, ?_, fi3.trans (f4.add p), g2, by simpa using ed⟩
            · rw [← hw]; exact r4.wipe ws
            · rw [← hl2]; exact r4.len
          | true =>
            simp only [bindS] at t3
            obtain ⟨⟨s2, ρc⟩, t4, t5⟩ := t3
            refine iteT ⟨add Z p, ow, ρb, s2, ρc, r4, t4, fun J1 H5 f5 r5 wk1 lv1 => ?_⟩
            cases s2 with
            | live i => cases t5
            | vals zs =>
              obtain ⟨hzl, wk1⟩ := wk1
              have f35 := f4.trans f5
              obtain ⟨hp5, ra5⟩ := keep f35
              have hc : compL (turnF vs1 fi1 fe) zs (ρc.wipe vs1) = some (r', ρ3) := by simpa [compLv] using t5
              refine ⟨fun j m H => ∃ ρj acc dn' tl', m = zs.length - j ∧ j ≤ zs.length ∧ H p = some (.lst acc) ∧ RepL g (hid (Or2 (add Z p) ow) H) acc dn' ∧ Rel g (add Z p) ow (L2.wipe σ2 vs1) H (ρj.wipe vs1) ∧ σ2.length = ρj.sl.length ∧
                Fr g (add ow p) H5 H ∧ compL (turnF vs1 fi1 fe) (zs.drop j) ρj = some (tl', ρ3) ∧ dn' ++ tl' = dn ++ r', ⟨zs.length, ρc.wipe vs1, acc, dn, r', by simp, Nat.zero_le _, hp5, ra5, ?_, ?_, .refl, hc, rfl⟩, ?_⟩
              · rw [wipe_wipe fun _ h => h]
                exact r5.wipe vs1
              · rw [wipe_len]; exact r5.len
              · rintro j m H6 ⟨ρj, acc6, dn6, tl6, rfl, hj, hp6, ra6, rj, hlj, f6, ej, ed6⟩
                cases hz : zs[j]? with
                | none =>
                  have e0 : zs.drop j = [] := List.drop_eq_nil_of_le (List.getElem?_eq_none_iff.mp hz)
                  rw [e0] at ej
                  cases ej
                  rw [List.append_nil] at ed6
                  refine .inl ⟨(wk1 j _ _ (see2 f6) rj.dom).2 hz, ⟨_, acc6, dn6, ys, rfl, hlt, hp6, ra6, ?_, by rw [← hl2]; exact hlj, (fi3.trans (f35.add p)).trans f6, g2, by rw [ed6, List.append_assoc]; exact ed⟩⟩
                  have q := rj.wipe ws
                  rw [wipe_wipe sub] at q
                  have e : L2.wipe (L2.wipe σ2 vs1) ws = L2.wipe σ ws := by
                    rw [← hw]
                    exact wipeS_eq (wipe_length σ2 vs1) fun j hj => by
                      rw [wipe_out fun z => hj (sub j z), wipe_out hj]
                  rwa [e] at q
                | some dz =>
                  have hltz : j < zs.length := (List.getElem?_eq_some_iff.mp hz).1
                  have e0 : zs.drop j = dz :: zs.drop (j + 1) := by
                    rw [List.drop_eq_getElem_cons hltz]
                    rw [(List.getElem?_eq_some_iff.mp hz).2]
                  rw [e0] at ej
                  simp only [compL, bindS] at ej
                  obtain ⟨⟨q', ρk⟩, j1, ⟨us, ρl⟩, j2, j3⟩ := ej
                  have j4 : q' ++ us = tl6 ∧ ρl = ρ3 := by simpa using j3
                  obtain ⟨j5, j6⟩ := j4
                  subst j5
                  rw [j6] at j2
                  obtain ⟨go1, yl1⟩ := (wk1 j _ _ (see2 f6) rj.dom).1 dz hz
                  refine .inr ⟨go1, fun H' => ∃ ρj acc dn' tl', zs.length - (j + 1) = zs.length - (j + 1) ∧ j + 1 ≤ zs.length ∧ H' p = some (.lst acc) ∧ RepL g (hid (Or2 (add Z p) ow) H') acc dn' ∧ Rel g (add Z p) ow (L2.wipe σ2 vs1) H' (ρj.wipe vs1) ∧ σ2.length = ρj.sl.length ∧
                    Fr g (add ow p) H5 H' ∧ compL (turnF vs1 fi1 fe) (zs.drop (j + 1)) ρj = some (tl', ρ3) ∧ dn' ++ tl' = dn ++ r', fun H' n => ⟨_, by omega, n⟩, fun x1 H7 y1 => ?_⟩
                  obtain ⟨s7, rx1⟩ := yl1 x1 H7 y1
                  have hz6 : acc6.length < sizeLine := by
                    have h1 := ra6.length
                    have h2 : (dn6 ++ (q' ++ us)).length = (dn ++ r').length := by rw [ed6]
                    have h3 : (dn ++ (r' ++ ys)).length = ds.length := by rw [ed]
                    have h4 : line = sizeLine := rfl
                    simp only [List.length_append] at h2 h3
                    omega
                  refine turn_ok hpw1 (rj.ext s7) (s7 _ _ hp6) n1 n2 op hz6 (RepL.mono (hid_mono s7) ra6) rx1 j1 hlj fun H8 ws8 f8 h8 l8 r8 rel8 len8 => ?_
                  exact ⟨ρk, ws8, dn6 ++ q', us, rfl, hltz, h8, r8, rel8, len8, (f6.trans (.of_same s7)).trans f8, j2, by rw [List.append_assoc]; exact ed6⟩
  · cases e3
theorem de_comp2 {pw pw1 : Bool} {vs vs1 : List Nat} (how : own.map (·.2) = vs ++ vs1) (hpw : pw = true → vs.length ≠ 1) (hpw1 : pw1 = true → vs1.length ≠ 1) (hK : X.K = g.K) (hc : X.calm = true) (hN : X.N.Nodup) (hi : PI X tg iter (tIs g pw fw)) (ok : BlkOk X.N X.env.scope scope own)
    (hg : ∀ (s : Shared) (H : Hp) (C : Addr) (cl : List (PySem.Str × Addr)) (fp : List Addr), PG (X.blk s H scope (compEnvC scope cl C X.env) fp) tg (gOf g.K vs))
    (ht : ∀ (s : Shared) (H : Hp) (C : Addr) (cl : List (PySem.Str × Addr)) (fp : List Addr), PTs (X.blk s H scope (compEnvC scope cl C X.env) fp) ifs (tTs g fi))
    (hi1 : ∀ (s : Shared) (H : Hp) (C : Addr) (cl : List (PySem.Str × Addr)) (fp : List Addr), PI (X.blk s H scope (compEnvC scope cl C X.env) fp) tg1 iter1 (tIs g pw1 fw1))
    (hg1 : ∀ (s : Shared) (H : Hp) (C : Addr) (cl : List (PySem.Str × Addr)) (fp : List Addr), PG (X.blk s H scope (compEnvC scope cl C X.env) fp) tg1 (gOf g.K vs1))
    (ht1 : ∀ (s : Shared) (H : Hp) (C : Addr) (cl : List (PySem.Str × Addr)) (fp : List Addr), PTs (X.blk s H scope (compEnvC scope cl C X.env) fp) ifs1 (tTs g fi1))
    (he : ∀ (s : Shared) (H : Hp) (C : Addr) (cl : List (PySem.Str × Addr)) (fp : List Addr), PE (X.blk s H scope (compEnvC scope cl C X.env) fp) elt (tE g ne fe))
    (hs : ∀ x, foldedSetIterable iter X.env x = pure x) (hs1 : ∀ env x, foldedSetIterable iter1 env x = pure x) : PE X (.ListComp elt [⟨tg, iter, ifs, 0⟩, ⟨tg1, iter1, ifs1, 0⟩] scope pos) (tE g true (comp2F vs fw fi vs1 fw1 fi1 fe)) :=
  PE.of (pe_lc2 hc hN hi ok (fun i hi => by rw [how]; exact List.mem_append_right _ hi) hg ht hi1 hg1 ht1 he hs hs1) fun σ H Q l h => by rw [hK, how]; exact comp2_read hpw hpw1 h
end
end PV

end
section
set_option Elab.async false
set_option linter.all false
set_option maxRecDepth 100000
set_option maxHeartbeats 1000000
/-! DI: range, enumerate, zip walked. -/
namespace PV
open PySem PySem.Spec PyProof.Rows L2
section
variable {X : Cx} {g : G} {tg : Expr} {a b e : Expr} {es : List Expr} {fa fb : Ev} {na nb : Bool} {pos : Pos}
theorem walks_rng {pw : Bool} {H0 : Hp} {Y0 : Addr → Bool} {σ : L2.St} {i j : Int} (h : (j - i).toNat ≤ sizeLine) : Walks g pw Y0 H0 σ (Itr i (j - i).toNat) (.vals (rngL i j)) := by
  have hl : (rngL i j).length = (j - i).toNat := by simp [rngL]
  refine ⟨by rw [hl]; exact h, fun k Y2 H2 s dm => ⟨fun d e => ?_, fun e => ?_⟩⟩
  · have hk : k < (j - i).toNat := by rw [← hl]; exact (List.getElem?_eq_some_iff.mp e).1
    refine ⟨hk, fun x H3 y => ?_⟩
    obtain ⟨rfl, rfl⟩ := y
    have : d = .int (i + k) := by
      simp only [rngL, List.getElem?_map, List.getElem?_range hk, Option.map_some, Option.some.injEq] at e
      exact e.symm
    subst this
    exact ⟨fun _ _ h => h, (.inl (.int _))⟩
  · show (j - i).toNat ≤ k
    rw [← hl]; exact List.getElem?_eq_none_iff.mp e
theorem PI.ofA {t : TA} {ti : TA → TI} (h : PI X tg e (ti t)) : PI X tg e (ti t) := h
theorem di_rng1 {pw : Bool} {p : Pos} (hK : X.K = g.K) (hg : Gl X "range") (hm : X.mg "range" = none) (ha : PE X a (tE g na fa)) (hp : plain a = true) : PI X tg (.Call (.Name "range" p) [a] [] pos) (tIs g pw fun ρ => do
    let (y, ρ) ← fa ρ
    match y with
    | .v (.int j) => if small62 0 j && decide ((j - 0).toNat ≤ line) then some (.vals (rngL 0 j), ρ) else none
    | _ => none) := pi_weak (pi_range1 hg hm (da_cons hK ha (da_nil hK) hp) (star_plain hp)) fun σ H R l ⟨Z, ow, ρ, src, ρ', r, e, k⟩ => by
  simp only [bindS] at e
  obtain ⟨⟨y, ρ1⟩, e1, e2⟩ := e
  match y, e1, e2 with
  | .v (.int j), e1, e2 =>
    simp only at e2
    split at e2
    · rename_i hs
      cases e2
      simp only [Bool.and_eq_true, decide_eq_true_eq] at hs
      refine ⟨Z, ow, ρ, [.v (.int j)], _, r, by simp only [bindS]; exact ⟨_, e1, _, rfl, rfl⟩, fun vs H1 l1 f1 r1 q1 => ?_⟩
      cases q1 with
      | cons q q' =>
        cases q'
        cases q
        obtain ⟨s1, s2, s3, s4⟩ := small62_ok hs.1
        refine ⟨j, rfl, s3, s4, k _ _ f1 r1 ?_ fun j e => nomatch e⟩
        have := walks_rng (g := g) (pw := pw) (H0 := H1) (Y0 := Or2 Z ow) (σ := σ) (i := 0) (j := j) hs.2
        simpa using this
    · cases e2
theorem di_rng {pw : Bool} {p : Pos} (hK : X.K = g.K) (hg : Gl X "range") (hm : X.mg "range" = none) (ha : PE X a (tE g na fa)) (hb : PE X b (tE g nb fb)) (hp : plain a = true) (hp2 : plain b = true) : PI X tg (.Call (.Name "range" p) [a, b] [] pos) (tIs g pw fun ρ => do
    let (x, ρ) ← fa ρ
    let (y, ρ) ← fb ρ
    match x, y with
    | .v (.int i), .v (.int j) => if small62 i j && decide ((j - i).toNat ≤ line) then some (.vals (rngL i j), ρ) else none
    | _, _ => none) := pi_weak (pi_range2 hg hm (da_cons hK ha (da_cons hK hb (da_nil hK) hp2) hp) (by rw [star_plain hp, star_plain hp2]; rfl) (star_plain hp2)) fun σ H R l ⟨Z, ow, ρ, src, ρ', r, e, k⟩ => by
  simp only [bindS] at e
  obtain ⟨⟨x, ρ1⟩, e1, ⟨y, ρ2⟩, e2, e3⟩ := e
  match x, y, e1, e2, e3 with
  | .v (.int i), .v (.int j), e1, e2, e3 =>
    simp only at e3
    split at e3
    · rename_i hs
      cases e3
      simp only [Bool.and_eq_true, decide_eq_true_eq] at hs
      refine ⟨Z, ow, ρ, [.v (.int i), .v (.int j)], _, r, by simp only [bindS]; exact ⟨_, e1, _, ⟨_, e2, _, rfl, rfl⟩, rfl⟩, fun vs H1 l1 f1 r1 q1 => ?_⟩
      cases q1 with
      | cons q q' =>
        cases q' with
        | cons q2 q3 =>
          cases q3
          cases q
          cases q2
          obtain ⟨s1, s2, s3, s4⟩ := small62_ok hs.1
          exact ⟨i, j, rfl, ⟨s1, s2, s3, s4⟩, k _ _ f1 r1 (walks_rng hs.2) fun j e => nomatch e⟩
    · cases e3
end
end PV

/-! ### enumerate of a tuple -/
namespace PySem
open Sem (wp)
open AutoSeq1 (wpAny_loadPart')
set_option maxHeartbeats 1000000 in
theorem pv_meets_enumerate_newB {v : Value} {o : Obj} {H : Heap → Prop} (B : Begins v o H) :
    Meets (Builtin.«enumerate.__new__» ⟨[.type "enumerate", v], []⟩) (fun _ R s => H s.heap ∧
      R (.ok (.ret (.ref (s.heap.push o).objs.size))) { s with heap := (s.heap.push o).push { cls := .type "enumerate", data := .fields #[.none, .bool false, .ref s.heap.objs.size, rawInt 0, .none, .none] } }) :=
  .of_wp fun prog w A R s h => by
    obtain ⟨hp, g, d, tk, os⟩ := s; obtain ⟨h1, h⟩ := h
    have hsub := sub_enumerate
    have q1 : ∀ {A' : Around} {E : Value → Shared → Prop} {Q : Value → Shared → Prop}, Q (.ref hp.objs.size) ⟨hp.push o, g, d, tk, os⟩ → wpAny (model prog w) A' (pyIter v) Q E ⟨hp, g, d, tk, os⟩ :=
      fun q => B.iter prog w _ _ ⟨hp, g, d, tk, os⟩ _ h1 q
    wp_walk using q1
    refine wpAny_stack_any fun st => wpAny_pure ?_
    split
    · rename_i c _ _ _ _ _
      cases (c == Value.type "enumerate")
      · wp_walk using q1
        exact ⟨_, rfl, h⟩
      · wp_walk using q1
        exact ⟨_, rfl, h⟩
    · wp_walk using q1
      exact ⟨_, rfl, h⟩
section
variable {prog : Program} {w : World} {A : Around} {E : Value → Shared → Prop} {s : Shared}
theorem pv_enum_begins {v : Value} {o : Obj} {H : Heap → Prop} {Q : Value → Shared → Prop} (B : Begins v o H) (h1 : H s.heap)
    (h : ∀ h', IsEnum h' (s.heap.objs.size + 1) s.heap.objs.size 0 .none → h'.get? s.heap.objs.size = some o → h'.objs.size = s.heap.objs.size + 2 →
      (∀ b o, s.heap.get? b = some o → h'.get? b = some o) → Q (.ref (s.heap.objs.size + 1)) { s with heap := h' }) :
    wpAny (model prog w) A (call (.type "enumerate") [v]) Q E s := by
  refine callType_new F.called_enumerate (by decide) (F.typeCall_enumerate_1 _) (F.newCall_enumerate_1 _) (fun obj => F.args_object_init_2 obj _) F.entry_enumerate_new
    (pv_meets_enumerate_newB B) ⟨h1, ?_⟩
  have hz : (s.heap.push o).objs.size = s.heap.objs.size + 1 := Heap.size_push ..
  show _ ∧ _
  rw [hz]
  have he : IsEnum ((s.heap.push o).push { cls := .type "enumerate", data := .fields #[.none, .bool false, .ref s.heap.objs.size, rawInt 0, .none, .none] }) (s.heap.objs.size + 1) s.heap.objs.size 0 .none := by
    have := Heap.get?_push_size (s.heap.push o) (o := { cls := .type "enumerate", data := .fields #[.none, .bool false, .ref s.heap.objs.size, rawInt 0, .none, .none] }) rfl
    rw [hz] at this; exact this
  refine ⟨⟨_, he, rfl⟩, h _ he (Heap.get?_push_of_some _ (Heap.get?_push_size _ B.free)) (by rw [Heap.size_push, hz]) fun b o x => Heap.get?_push_of_some _ (Heap.get?_push_of_some _ x)⟩
end
end PySem
namespace PV
open PySem PySem.Spec PyProof.Rows L2
/-- the tuple at a, each item in a new pair -/
def IteT (K : PySem.W.Frag) (a : Addr) : It :=
  ⟨fun i H => ∃ (xs : List V) (x : V), SqT K H a xs ∧ xs[i]? = some x, fun i H v H' => ∃ T x, v = .ref T ∧ H T = none ∧ H' = upd H T (.tup [.int (i : Nat), x]) ∧ ∀ xs, SqT K H a xs → xs[i]? = some x, fun i H => ∃ xs : List V, SqT K H a xs ∧ xs.length ≤ i⟩
theorem turn_enumT {P : Program} {w : World} {K : PySem.W.Frag} {elts : List Expr} {kk : Nat} {tpos : Pos} (a e it : Addr) :
    Turn P w K (.Tuple elts kk tpos) (IteT K a) [e, it] e (fun i h => (∃ old, IsEnum h e it ((i : Nat) : Int) old) ∧ h.IsTupleIter it a i ∧ e ≠ it) where
  mem := by simp
  obj := fun i h st b hb => by
    obtain ⟨⟨old, he⟩, ⟨o, ho, hc, hd⟩, _⟩ := st
    have e' : b = e ∨ b = it := by simpa using hb
    rcases e' with z | z
    · rw [z]; exact ⟨_, he, fun v q => nomatch q⟩
    · rw [z]; exact ⟨o, ho, fun v q => by rw [hd] at q; cases q⟩
  keep := fun i h h' st k => let ⟨⟨old, he⟩, hi, hne⟩ := st; ⟨⟨old, k e (by simp) _ he⟩, hi.at fun o q => k it (by simp) o q, hne⟩
  item := by
    intro X hP hw hK hc i pins s σ H E I hf st hg
    subst hP hw hK
    obtain ⟨⟨old, he⟩, hit, hne⟩ := st
    obtain ⟨xs, x, hq, hx⟩ := hg
    obtain ⟨its, rv, p, hz⟩ := I.tuple hq
    obtain ⟨u, hu, ru⟩ := rv.get hx
    have hel : e < s.heap.objs.size := Heap.lt_size he
    have hil : it < s.heap.objs.size := by obtain ⟨_, q, _⟩ := hit; exact Heap.lt_size q
    have pt : s.heap.IsTuple a its.toArray := p
    have nai : a ≠ it := by
      rintro rfl
      obtain ⟨o, ho, hc, _⟩ := pt
      obtain ⟨o2, ho2, hc2, _⟩ := hit
      rw [ho] at ho2; cases ho2
      rw [hc] at hc2; injection hc2 with q; exact absurd q (by decide)
    have nae : e ≠ a := by
      rintro rfl
      obtain ⟨o, ho, hc, _⟩ := pt
      have he' : s.heap.get? e = some _ := he
      rw [ho] at he'; cases he'
      injection hc with q; exact absurd q (by decide)
    refine wpAny_pyNext_enum_itemD (n := its.toArray.size) (Draws.tuple (prog := X.prog) (w := X.w) (A := X.A.in1) (show X.A.in1.handled = none from I.ok.hd hc) it a nai its.toArray) he ⟨hit, pt⟩ (by have := (List.getElem?_eq_some_iff.mp hu).1; simpa using this) hne (by simp [hne, nae]) fun x' h' tk hx' ho hit' hT hsz hk => ?_
    obtain rfl : x' = u := by
      have : its[i]? = some x' := by simpa using hx'
      rw [hu] at this; cases this; rfl
    refine ⟨_, rfl, wpAny_letOwnedTupleGo_enum (s := { s with heap := h', toks := tk + 1 }) ho fun h'' he' sb => ?_⟩
    have hT2 : h''.get? s.heap.objs.size = some { cls := .type "tuple", data := .seq #[.int i tk, x'] } := (sb.2 _ (Nat.ne_of_gt hel)).trans hT
    have new : ObjOk X.prog X.w (upd H s.heap.objs.size (.tup [.int (i : Nat), x])) h'' s.heap.objs.size (.tup [.int (i : Nat), x]) :=
      ⟨by show 2 ≤ sizeLine; decide, [.int i tk, x'], .cons ⟨_, rfl⟩ (.cons ru .nil), ⟨_, hT2, rfl, _, rfl⟩⟩
    have I1 : L2.Inv X pins σ (upd H s.heap.objs.size (.tup [.int (i : Nat), x])) { s with heap := h'', toks := tk + 1 } :=
      I.turnedNew (ch := [e, it]) (fun b ob hb q => (sb.2 b (fun z => hb (by simp [z]))).trans (hk b ob (fun z => hb (by simp [z])) (fun z => hb (by simp [z])) q)) hf (Nat.le_refl _) new
    refine ⟨.ref s.heap.objs.size, _, I1, rfl, ⟨_, x, rfl, I.hok.fresh (Nat.le_refl _), rfl, fun ys hy => by rw [I.tuple_inj hy hq]; exact hx⟩, ⟨⟨x', ?_⟩, hit'.1.at fun o q => (sb.2 it (Ne.symm hne)).trans q, hne⟩, fun b hb => ?_⟩
    · have e1 : ((i + 1 : Nat) : Int) = (i : Int) + 1 := by omega
      rw [e1]; exact he'
    · have hb' : b < s.heap.objs.size := by
        have e' : b = e ∨ b = it := by simpa using hb
        rcases e' with z | z
        · rw [z]; exact hel
        · rw [z]; exact hil
      rw [upd_ne (Nat.ne_of_lt hb')]
      exact (hf b hb).1
  done := by
    intro X hP hw hK hc i pins s σ H E I hf st hg
    subst hP hw hK
    obtain ⟨⟨old, he⟩, hit, hne⟩ := st
    obtain ⟨xs, hq, hx⟩ := hg
    obtain ⟨its, rv, p, hz⟩ := I.tuple hq
    obtain ⟨f0, f1, f2, f3, f4, f5⟩ := hf it (by simp)
    have hl := rv.length
    have pt : s.heap.IsTuple a its.toArray := p
    have D : Draws X.prog X.w X.A.in1 it [it, a] 0 (fun _ _ => True) (fun k h => k = 0 ∧ h.IsTupleIter it a i ∧ h.IsTuple a its.toArray) :=
      { live := fun _ _ st => let ⟨o, ho, _⟩ := st.2.1; ⟨o, ho⟩
        frame := fun _ _ _ st hk => ⟨st.1, st.2.1.at fun o e => hk it (by simp) o e, st.2.2.at fun o e => hk a (by simp) o e⟩
        item := fun i s Q E hi _ _ => absurd hi (Nat.not_lt_zero _)
        done := fun s Q E st hE => wpAny_nextOf_tuple_end (show X.A.in1.handled = none from I.ok.hd hc) st.2.1 st.2.2 (by simp; omega) hE }
    exact wpAny_pyNext_enum_endD D he ⟨rfl, hit, pt⟩ fun h' eb => ⟨rfl, I.turned (t' := s.toks) (fun b o hb q => eb b o hb q) f0 f1 f3 f4 f5⟩
  self := fun A i s Q E st h => let ⟨⟨_, he⟩, _⟩ := st; wpAny_pyIter_enum he h
def iEnumA (K : PySem.W.Frag) (ta : TA) : TI := fun σ H R => ta σ H fun vs H1 => ∃ a, vs = [.ref a] ∧ (((∃ xs, SqL K H1 a xs) ∧ R (Ite K a) H1) ∨ ((∃ xs, SqT K H1 a xs) ∧ R (IteT K a) H1))
theorem pi_enumA {X : Cx} {e : Expr} {ta : TA} {p pos tpos : Pos} {elts : List Expr} {kk : Nat} (hg : Gl X "enumerate") (hm : X.mg "enumerate" = none) (ha : PA X [e] ta) (hs : starEach [e] X.env = [(false, eval e X.env)]) :
    PI X (.Tuple elts kk tpos) (.Call (.Name "enumerate" p) [e] [] pos) (iEnumA X.K ta) := by
  refine ⟨fun pins s σ H R I h => ?_⟩
  refine Call_ (ld_blt I hg hm boot_enumerate (PyProof.Rows.callWith_type1 (thn (ha.run pos pins s σ H _ I h) fun us s1 ⟨vs, H1, I1, r1, q1⟩ => ?_) hs rfl))
  obtain ⟨a, ex, q1⟩ := q1
  subst ex
  cases r1 with
  | cons r rr =>
    cases rr
    cases r
    have fin : ∀ b ∈ [s1.heap.objs.size + 1, s1.heap.objs.size], FpOk X pins H1 b := fun b hb => by
      have e' : b = s1.heap.objs.size + 1 ∨ b = s1.heap.objs.size := by simpa using hb
      have hle : s1.heap.objs.size ≤ b := by
        rcases e' with z | z
        · rw [z]; exact Nat.le_add_right _ _
        · rw [z]; exact Nat.le_refl _
      exact I1.fpOk hle (I1.hok.fresh hle)
    rcases q1 with ⟨⟨xs, hq⟩, q⟩ | ⟨⟨xs, hq⟩, q⟩
    · obtain ⟨its, rv, p', hz⟩ := I1.list hq
      refine call_enumerate_list p'.isList fun h' he hit hsz hk => wpAny_pyIter_enum he ?_
      have I2 : L2.Inv X pins σ H1 { s1 with heap := h' } := I1.kept (t' := s1.toks) hk
      exact ⟨s1.heap.objs.size + 1, [s1.heap.objs.size + 1, s1.heap.objs.size], _, _, H1, rfl, I2, turn_enum a (s1.heap.objs.size + 1) s1.heap.objs.size, ⟨⟨.none, he⟩, hit, Nat.succ_ne_self _⟩, fin, q⟩
    · obtain ⟨its, rv, p', hz⟩ := I1.tuple hq
      refine pv_enum_begins (begins_tuple a its.toArray) (show s1.heap.IsTuple a its.toArray from p') fun h' he hit hsz hk => wpAny_pyIter_enum he ?_
      have I2 : L2.Inv X pins σ H1 { s1 with heap := h' } := I1.kept (t' := s1.toks) hk
      exact ⟨s1.heap.objs.size + 1, [s1.heap.objs.size + 1, s1.heap.objs.size], _, _, H1, rfl, I2, turn_enumT a (s1.heap.objs.size + 1) s1.heap.objs.size, ⟨⟨.none, he⟩, ⟨_, hit, rfl, rfl⟩, Nat.succ_ne_self _⟩, fin, q⟩
section
variable {X : Cx} {g : G} {tg : Expr} {a b e : Expr} {es : List Expr} {fa fb : Ev} {na nb : Bool} {pos : Pos}
theorem enumL_get : ∀ {xs : List D} {k i : Nat} {d : D}, (enumL k xs)[i]? = some d → ∃ x, xs[i]? = some x ∧ d = .tup [.int ((k + i : Nat) : Int), x]
  | [], _, _, _, e => by simp [enumL] at e
  | x :: xs, k, 0, d, e => by
    simp [enumL] at e; subst e
    exact ⟨x, rfl, by simp⟩
  | x :: xs, k, i + 1, d, e => by
    obtain ⟨y, e1, e2⟩ := enumL_get (xs := xs) (k := k + 1) (i := i) (d := d) (by simpa [enumL] using e)
    exact ⟨y, by simpa using e1, by rw [e2]; congr 4; omega⟩
theorem enumL_len : ∀ (xs : List D) (k : Nat), (enumL k xs).length = xs.length
  | [], _ => rfl
  | x :: xs, k => by simp [enumL, enumL_len xs]
theorem new_pair {Y2 : Addr → Bool} {H2 : Hp} {T : Addr} {x y : V} {d e : D} (dm : Dom Y2 H2) (hT : H2 T = none) (h1 : Rep g (hid Y2 H2) x d) (h2 : Rep g (hid Y2 H2) y e) : Same H2 (upd H2 T (.tup [x, y])) ∧ PRep g Y2 true (upd H2 T (.tup [x, y])) (.ref T) (.tup [d, e]) := by
  have := res_tupW (g := g) dm hT (RepL.cons h1 (.cons h2 .nil))
  exact ⟨this.1, .inr ⟨rfl, _, _, _, rfl, rfl, this.2.1, this.2.2⟩⟩
theorem walks_enumL {H0 : Hp} {Y0 : Addr → Bool} {σ : L2.St} {p : Addr} {ws : List V} {xs : List D} (l : LenOk g.K H0) (h1 : hid Y0 H0 p = some (.lst ws)) (h2 : RepL g (hid Y0 H0) ws xs) : Walks g true Y0 H0 σ (Ite g.K p) (.vals (enumL 0 xs)) := by
  refine ⟨by rw [enumL_len, ← h2.length]; exact l.l p ws (SqL.of (hid_some h1).2), fun i Y2 H2 s dm => ⟨fun d e => ?_, fun e => ?_⟩⟩
  · obtain ⟨z, ez, rfl⟩ := enumL_get e
    obtain ⟨v, e1, e2⟩ := h2.get ez
    have hq : SqL g.K H2 p ws := SqL.of (hid_some (s _ _ h1)).2
    refine ⟨⟨ws, v, hq, e1⟩, fun x H3 y => ?_⟩
    obtain ⟨T, x', rfl, hT, rfl, y⟩ := y
    have := y ws hq
    rw [e1] at this; cases this
    simp only [Nat.zero_add]
    exact new_pair dm hT (.int _) (e2.mono s)
  · refine ⟨ws, SqL.of (hid_some (s _ _ h1)).2, ?_⟩
    rw [h2.length, ← enumL_len xs 0]
    exact List.getElem?_eq_none_iff.mp e
theorem walks_enumT {H0 : Hp} {Y0 : Addr → Bool} {σ : L2.St} {p : Addr} {ws : List V} {xs : List D} (l : LenOk g.K H0) (h1 : TupS g.K (hid Y0 H0) p ws) (h2 : RepL g (hid Y0 H0) ws xs) : Walks g true Y0 H0 σ (IteT g.K p) (.vals (enumL 0 xs)) := by
  refine ⟨by rw [enumL_len, ← h2.length]; exact l.t p ws (sqT_hid h1), fun i Y2 H2 s dm => ⟨fun d e => ?_, fun e => ?_⟩⟩
  · obtain ⟨z, ez, rfl⟩ := enumL_get e
    obtain ⟨v, e1, e2⟩ := h2.get ez
    have hq : SqT g.K H2 p ws := hid_sqT h1 s
    refine ⟨⟨ws, v, hq, e1⟩, fun x H3 y => ?_⟩
    obtain ⟨T, x', rfl, hT, rfl, y⟩ := y
    have := y ws hq
    rw [e1] at this; cases this
    simp only [Nat.zero_add]
    exact new_pair dm hT (.int _) (e2.mono s)
  · refine ⟨ws, hid_sqT h1 s, ?_⟩
    rw [h2.length, ← enumL_len xs 0]
    exact List.getElem?_eq_none_iff.mp e
theorem di_enum {p tpos : Pos} {elts : List Expr} {kk : Nat} (hK : X.K = g.K) (hg : Gl X "enumerate") (hm : X.mg "enumerate" = none) (ha : PE X a (tE g na fa)) (hp : plain a = true) : PI X (.Tuple elts kk tpos) (.Call (.Name "enumerate" p) [a] [] pos) (tIs g true fun ρ => do
    let (x, ρ) ← fa ρ
    let d ← x.val
    let xs ← seqOf d
    some (.vals (enumL 0 xs), ρ)) := pi_weak (pi_enumA hg hm (da_cons hK ha (da_nil hK) hp) (star_plain hp)) fun σ H R l ⟨Z, ow, ρ, src, ρ', r, e, k⟩ => by
  simp only [bindS] at e
  obtain ⟨⟨x, ρ1⟩, e1, d, e2, xs, e3, e4⟩ := e
  cases e4
  refine ⟨Z, ow, ρ, [x], _, r, by simp only [bindS]; exact ⟨_, e1, _, rfl, rfl⟩, fun vs H1 l1 f1 r1 q1 => ?_⟩
  cases q1 with
  | cons q q' =>
    cases q'
    have q := q.val e2
    match d, e3, q with
    | .lst ds, e3, q =>
      cases e3
      cases q with
      | @lst p ws _ h1 h2 => exact ⟨p, rfl, .inl ⟨⟨ws, SqL.of (hid_some h1).2⟩, k _ _ f1 r1 (by rw [hK]; exact walks_enumL l1 h1 h2) fun j e => nomatch e⟩⟩
    | .tup ds, e3, q =>
      cases e3
      cases q with
      | @tup p ws _ h1 h2 => exact ⟨p, rfl, .inr ⟨⟨ws, hK ▸ sqT_hid h1⟩, k _ _ f1 r1 (by rw [hK]; exact walks_enumT l1 h1 h2) fun j e => nomatch e⟩⟩
theorem zipL_get : ∀ {xs ys : List D} {i : Nat} {d : D}, (zipL xs ys)[i]? = some d → ∃ x y, xs[i]? = some x ∧ ys[i]? = some y ∧ d = .tup [x, y]
  | [], _, _, _, e => by simp [zipL] at e
  | _ :: _, [], _, _, e => by simp [zipL] at e
  | x :: xs, y :: ys, 0, d, e => by
    simp [zipL] at e; subst e
    exact ⟨x, y, rfl, rfl, rfl⟩
  | x :: xs, y :: ys, i + 1, d, e => by
    obtain ⟨u, v, e1, e2, e3⟩ := zipL_get (xs := xs) (ys := ys) (i := i) (d := d) (by simpa [zipL] using e)
    exact ⟨u, v, by simpa using e1, by simpa using e2, e3⟩
theorem zipL_len : ∀ (xs ys : List D), (zipL xs ys).length = min xs.length ys.length
  | [], _ => by simp [zipL]
  | _ :: _, [] => by simp [zipL]
  | x :: xs, y :: ys => by simp [zipL, zipL_len xs ys]
theorem zipL_none {xs ys : List D} {i : Nat} (e : (zipL xs ys)[i]? = none) : xs.length ≤ i ∨ ys.length ≤ i := by
  have := List.getElem?_eq_none_iff.mp e
  rw [zipL_len] at this
  omega
theorem di_zip {p tpos : Pos} {elts : List Expr} {kk : Nat} (hK : X.K = g.K) (hg : Gl X "zip") (hm : X.mg "zip" = none) (ha : PE X a (tE g na fa)) (hb : PE X b (tE g nb fb)) (hp : plain a = true) (hp2 : plain b = true) : PI X (.Tuple elts kk tpos) (.Call (.Name "zip" p) [a, b] [] pos) (tIs g true fun ρ => do
    let (x, ρ) ← fa ρ
    let (y, ρ) ← fb ρ
    let x ← x.val
    let y ← y.val
    let s ← zipS x y
    some (s, ρ)) := pi_weak (RZ.pi_zipA hg hm (da_cons hK ha (da_cons hK hb (da_nil hK) hp2) hp) (star_plain hp) (star_any (by simp [hp2]))) fun σ H R l ⟨Z, ow, ρ, src, ρ', r, e, k⟩ => by
  simp only [bindS] at e
  obtain ⟨⟨hx, ρ1⟩, e1, ⟨hy, ρ2⟩, e2, x, e3, y, e4, s, e5, e6⟩ := e
  cases e6
  refine ⟨Z, ow, ρ, [hx, hy], _, r, by simp only [bindS]; exact ⟨_, e1, _, ⟨_, e2, _, rfl, rfl⟩, rfl⟩, fun vs H1 l1 f1 r1 q1 => ?_⟩
  cases q1 with
  | cons q q' =>
    cases q' with
    | cons q2 q3 =>
      cases q3
      have q := q.val e3
      have q2 := q2.val e4
      match x, y, e5, q, q2 with
      | .lst xs, .lst ys, e5, q, q2 =>
        cases e5
        cases q with
        | @lst p ws _ h1 h2 =>
          cases q2 with
          | @lst p' ws' _ g1 g2 =>
            refine ⟨p, p', ws, ws', rfl, .inl ⟨SqL.of (hid_some h1).2, SqL.of (hid_some g1).2, k _ _ f1 r1 ?_ fun j e => nomatch e⟩⟩
            refine ⟨?_, fun i Y2 H2 s dm => ⟨fun d e => ?_, fun e => ?_⟩⟩
            · rw [zipL_len, ← h2.length]
              have := l1.l p ws (SqL.of (hid_some h1).2)
              omega
            · obtain ⟨u, v, e1, e2, rfl⟩ := zipL_get e
              obtain ⟨v1, a1, a2⟩ := h2.get e1
              obtain ⟨v2, b1, b2⟩ := g2.get e2
              have hq : SqL X.K H2 p ws := SqL.of (hid_some (s _ _ h1)).2
              have hq2 : SqL X.K H2 p' ws' := SqL.of (hid_some (s _ _ g1)).2
              refine ⟨⟨ws, ws', v1, v2, hq, hq2, a1, b1⟩, fun x H3 y => ?_⟩
              obtain ⟨T, x', y', rfl, hT, rfl, y1, y2⟩ := y
              have z1 := y1 ws hq
              have z2 := y2 ws' hq2
              rw [a1] at z1; cases z1
              rw [b1] at z2; cases z2
              exact new_pair dm hT (a2.mono s) (b2.mono s)
            · refine ⟨ws, ws', SqL.of (hid_some (s _ _ h1)).2, SqL.of (hid_some (s _ _ g1)).2, ?_⟩
              rw [h2.length, g2.length]
              exact zipL_none e
      | .tup xs, .tup ys, e5, q, q2 =>
        cases e5
        cases q with
        | @tup p ws _ h1 h2 =>
          cases q2 with
          | @tup p' ws' _ g1 g2 =>
            refine ⟨p, p', ws, ws', rfl, .inr ⟨hK ▸ sqT_hid h1, hK ▸ sqT_hid g1, k _ _ f1 r1 ?_ fun j e => nomatch e⟩⟩
            refine ⟨?_, fun i Y2 H2 s dm => ⟨fun d e => ?_, fun e => ?_⟩⟩
            · rw [zipL_len, ← h2.length]
              have := l1.t p ws (sqT_hid h1)
              omega
            · obtain ⟨u, v, e1, e2, rfl⟩ := zipL_get e
              obtain ⟨v1, a1, a2⟩ := h2.get e1
              obtain ⟨v2, b1, b2⟩ := g2.get e2
              have hq : SqT X.K H2 p ws := hK ▸ hid_sqT h1 s
              have hq2 : SqT X.K H2 p' ws' := hK ▸ hid_sqT g1 s
              refine ⟨⟨ws, ws', v1, v2, hq, hq2, a1, b1⟩, fun x H3 y => ?_⟩
              obtain ⟨T, x', y', rfl, hT, rfl, y1, y2⟩ := y
              have z1 := y1 ws hq
              have z2 := y2 ws' hq2
              rw [a1] at z1; cases z1
              rw [b1] at z2; cases z2
              exact new_pair dm hT (a2.mono s) (b2.mono s)
            · refine ⟨ws, ws', hK ▸ hid_sqT h1 s, hK ▸ hid_sqT g1 s, ?_⟩
              rw [h2.length, g2.length]
              exact zipL_none e
end
end PV

end
section
set_option Elab.async false
set_option linter.all false
set_option maxRecDepth 100000
set_option maxHeartbeats 1000000
/-! DM: statements. -/
namespace PV
open PySem PySem.Spec PyProof.Rows L2
def FlP (g : G) (Z : Addr → Bool) (D : Ends) (σ : L2.St) (H : Hp) : Fl → Prop
  | .next => D.nx σ H
  | .brk => D.bk σ H
  | .cnt => D.ct σ H
  | .ret d => ∀ v, Rep g (hid Z H) v d → D.rt v H
abbrev EvS := Env → Option (Fl × Env)
def tS (g : G) (wr : List Nat) (f : EvS) : TS := fun D σ H => ∃ Z ow ρ fl ρ', Rel g Z ow σ H ρ ∧ f ρ = some (fl, ρ') ∧
  ∀ ow' σ' H', LenOk g.K H' → Stp g ow H ow' H' → Rel g Z ow' σ' H' ρ' → (∀ j, j ∉ wr → σ'[j]? = σ[j]?) → FlP g Z D σ' H' fl
def lenD (K : PySem.W.Frag) (D : Ends) : Ends := { nx := fun σ H => LenOk K H → D.nx σ H, rt := fun v H => LenOk K H → D.rt v H, bk := fun σ H => LenOk K H → D.bk σ H, ct := fun σ H => LenOk K H → D.ct σ H }
section
variable {X : Cx} {g : G} {st : Stmt} {sts : List Stmt} {a b c e : Expr} {es : List Expr} {fa fb fe : Ev} {na nb n : Bool} {pos : Pos}
theorem SP.len {pins : List (Addr × Obj)} {D : Ends} {f : Flow} {s : Shared} (h : SP X pins (lenD X.K D) f s) : SP X pins D f s := by
  cases f with
  | next => obtain ⟨σ', H', I, q⟩ := h; exact ⟨σ', H', I, q (Inv.lenOk I)⟩
  | brk => obtain ⟨σ', H', I, q⟩ := h; exact ⟨σ', H', I, q (Inv.lenOk I)⟩
  | cont => obtain ⟨σ', H', I, q⟩ := h; exact ⟨σ', H', I, q (Inv.lenOk I)⟩
  | ret u => obtain ⟨v, σ', H', I, r, q⟩ := h; exact ⟨v, σ', H', I, r, q (Inv.lenOk I)⟩
theorem PS.of {t t0 : TS} (h : PS X st t0) (imp : ∀ D σ H, LenOk X.K H → t D σ H → t0 (lenD X.K D) σ H) : PS X st t := ⟨fun pins s σ H D I hw =>
  thn (h.run pins s σ H _ I (imp D σ H (Inv.lenOk I) hw)) fun f s' q => SP.len q⟩
theorem PSs.of {t t0 : TS} (h : PSs X sts t0) (imp : ∀ D σ H, LenOk X.K H → t D σ H → t0 (lenD X.K D) σ H) : PSs X sts t := ⟨fun pins s σ H D I hw =>
  thn (h.run pins s σ H _ I (imp D σ H (Inv.lenOk I) hw)) fun f s' q => SP.len q⟩
theorem pst_of {σ : L2.St} {H H' : Hp} {Z ow : Addr → Bool} {ρ' : Env} {v : V} {h : Hd} {n : Bool} (p : if n = true then PstN g Z ow σ H H' ρ' v h else Pst g Z ow σ H H' ρ' v h) : Pst g Z ow σ H H' ρ' v h := by
  cases n with
  | true => rw [if_pos rfl] at p; exact p.pst
  | false => rw [if_neg (by decide)] at p; exact p
/-! ### a name bound -/
theorem asg_read {i : Nat} {D : Ends} {σ : L2.St} {H : Hp} (hK : X.K = g.K) (h : tS g [i] (fun ρ => do
    let (h, ρ) ← fe ρ
    let d ← h.val
    some (.next, ρ.put i (.val d))) D σ H) : tE g n fe σ H (fun x H1 => gName i x σ H1 (lenD X.K D).nx) := by
  obtain ⟨Z, ow, ρ, fl, ρ', r, e, k⟩ := h
  simp only [bindS] at e
  obtain ⟨⟨hx, ρ1⟩, e1, d, e2, e3⟩ := e
  cases e3
  refine ⟨Z, ow, ρ, hx, ρ1, r, e1, fun v H1 l1 p1 => ?_⟩
  have p := pst_of p1
  intro _
  exact k ow _ H1 l1 (p.fr.stp p.rel) (p.rel.put (p.rep.val e2)) fun j hj => by rw [List.getElem?_set_ne (by rintro rfl; exact hj (by simp))]
theorem new_read {i : Nat} {D : Ends} {σ : L2.St} {H : Hp} (hK : X.K = g.K) (h : tS g [i] (fun ρ => do
    let (h, ρ) ← fe ρ
    match h with
    | .v (.lst ds) => some (.next, ρ.put i (.own ds))
    | _ => none) D σ H) : tE g true fe σ H (fun x H1 => gName i x σ H1 (lenD X.K D).nx) := by
  obtain ⟨Z, ow, ρ, fl, ρ', r, e, k⟩ := h
  simp only [bindS] at e
  obtain ⟨⟨hx, ρ1⟩, e1, e3⟩ := e
  refine ⟨Z, ow, ρ, hx, ρ1, r, e1, fun v H1 l1 p1 => ?_⟩
  rw [if_pos rfl] at p1
  obtain ⟨H0, p, xs, ds, rfl, rfl, hp, rfl, r0, q, f⟩ := p1.ex
  cases e3
  obtain ⟨r2, s2⟩ := r0.new hp q i
  intro _
  exact k _ _ _ l1 ((f.stp r0).trans s2) r2 fun j hj => by rw [List.getElem?_set_ne (by rintro rfl; exact hj (by simp))]
theorem ds_asg {i : Nat} {x : PySem.Str} {px : Pos} (hK : X.K = g.K) (hN : X.N.Nodup) (hi : X.N[i]? = some x) (hx : Loc X.env.scope x) (hf : X.fn x = true) (he : PE X e (tE g n fe)) (hs : swapsWith e (some (.Name x px)) pos.line X.env = pure false) :
    PS X (.Assign [.Name x px] e pos) (tS g [i] fun ρ => do
    let (h, ρ) ← fe ρ
    let d ← h.val
    some (.next, ρ.put i (.val d))) := PS.of (ps_set hN hi hx he hs (.inl hf)) fun D σ H _ h => asg_read hK h
theorem ds_new {i : Nat} {x : PySem.Str} {px : Pos} (hK : X.K = g.K) (hN : X.N.Nodup) (hi : X.N[i]? = some x) (hx : Loc X.env.scope x) (hf : X.fn x = true) (he : PE X e (tE g true fe)) (hs : swapsWith e (some (.Name x px)) pos.line X.env = pure false) :
    PS X (.Assign [.Name x px] e pos) (tS g [i] fun ρ => do
    let (h, ρ) ← fe ρ
    match h with
    | .v (.lst ds) => some (.next, ρ.put i (.own ds))
    | _ => none) := PS.of (ps_set hN hi hx he hs (.inl hf)) fun D σ H _ h => new_read hK h
/-! ### a comprehension given to a name -/
section
variable {elt tg iter : Expr} {ifs : List Expr} {scope : Scope} {own : List (PySem.Str × Nat)} {fw : EvI} {fi : EvB} {ne : Bool} {i : Nat} {y : PySem.Str} {py spos : Pos}
theorem ps_setC {pw : Bool} (hpw : pw = true → (own.map (·.2)).length ≠ 1) (hK : X.K = g.K) (hc : X.calm = true) (hN : X.N.Nodup) (hy : X.N[i]? = some y) (hyl : X.env.scope.names.lookup y = some .local)
    (hsw : swapsWith (.ListComp elt [⟨tg, iter, ifs, 0⟩] scope pos) (some (.Name y py)) spos.line X.env = pure true) (hi : PI X tg iter (tIs g pw fw)) (ok : BlkOk X.N X.env.scope scope own)
    (hg : ∀ (s : Shared) (H : Hp) (C : Addr) (cl : List (PySem.Str × Addr)) (fp : List Addr), PG (X.blk s H scope (compEnvC scope cl C X.env) fp) tg (gOf g.K (own.map (·.2))))
    (ht : ∀ (s : Shared) (H : Hp) (C : Addr) (cl : List (PySem.Str × Addr)) (fp : List Addr), PTs (X.blk s H scope (compEnvC scope cl C X.env) fp) ifs (tTs g fi))
    (he : ∀ (s : Shared) (H : Hp) (C : Addr) (cl : List (PySem.Str × Addr)) (fp : List Addr), PE (X.blk s H scope (compEnvC scope cl C X.env) fp) elt (tE g ne fe))
    (hs : ∀ x, foldedSetIterable iter X.env x = pure x) : PS X (.Assign [.Name y py] (.ListComp elt [⟨tg, iter, ifs, 0⟩] scope pos) spos) (fun D σ H => tE g true (compF (own.map (·.2)) fw fi fe) σ H (fun x H1 => gName i x σ H1 D.nx)) :=
  PS.of (ps_setLc hc hN hy hyl hsw hi ok hg ht he hs) fun D σ H _ h => by
    have := comp_read (ne := ne) hpw h
    rw [← hK] at this ⊢
    exact this
theorem ds_setC {pw : Bool} (hpw : pw = true → (own.map (·.2)).length ≠ 1) (hK : X.K = g.K) (hc : X.calm = true) (hN : X.N.Nodup) (hy : X.N[i]? = some y) (hyl : X.env.scope.names.lookup y = some .local)
    (hsw : swapsWith (.ListComp elt [⟨tg, iter, ifs, 0⟩] scope pos) (some (.Name y py)) spos.line X.env = pure true) (hi : PI X tg iter (tIs g pw fw)) (ok : BlkOk X.N X.env.scope scope own)
    (hg : ∀ (s : Shared) (H : Hp) (C : Addr) (cl : List (PySem.Str × Addr)) (fp : List Addr), PG (X.blk s H scope (compEnvC scope cl C X.env) fp) tg (gOf g.K (own.map (·.2))))
    (ht : ∀ (s : Shared) (H : Hp) (C : Addr) (cl : List (PySem.Str × Addr)) (fp : List Addr), PTs (X.blk s H scope (compEnvC scope cl C X.env) fp) ifs (tTs g fi))
    (he : ∀ (s : Shared) (H : Hp) (C : Addr) (cl : List (PySem.Str × Addr)) (fp : List Addr), PE (X.blk s H scope (compEnvC scope cl C X.env) fp) elt (tE g ne fe))
    (hs : ∀ x, foldedSetIterable iter X.env x = pure x) (own? : Bool) : PS X (.Assign [.Name y py] (.ListComp elt [⟨tg, iter, ifs, 0⟩] scope pos) spos) (tS g [i] fun ρ => if own? = true then (do
    let (h, ρ) ← compF (own.map (·.2)) fw fi fe ρ
    match h with
    | .v (.lst ds) => some (.next, ρ.put i (.own ds))
    | _ => none) else do
    let (h, ρ) ← compF (own.map (·.2)) fw fi fe ρ
    let d ← h.val
    some (.next, ρ.put i (.val d))) :=
  PS.of (ps_setC hpw hK hc hN hy hyl hsw hi ok hg ht he hs) fun D σ H _ h => by
    cases own? with
    | true => exact new_read hK h
    | false => exact asg_read hK h
end
/-! ### two fors given to a name -/
section
variable {elt tg iter tg1 iter1 : Expr} {ifs ifs1 : List Expr} {scope : Scope} {own : List (PySem.Str × Nat)} {fw fw1 : EvI} {fi fi1 : EvB} {ne : Bool} {i : Nat} {y : PySem.Str} {py spos : Pos}
theorem ps_setC2 {pw pw1 : Bool} {vs vs1 : List Nat} (how : own.map (·.2) = vs ++ vs1) (hpw : pw = true → vs.length ≠ 1) (hpw1 : pw1 = true → vs1.length ≠ 1) (hK : X.K = g.K) (hc : X.calm = true) (hN : X.N.Nodup) (hy : X.N[i]? = some y) (hyl : X.env.scope.names.lookup y = some .local)
    (hsw : swapsWith (.ListComp elt [⟨tg, iter, ifs, 0⟩, ⟨tg1, iter1, ifs1, 0⟩] scope pos) (some (.Name y py)) spos.line X.env = pure true) (hi : PI X tg iter (tIs g pw fw)) (ok : BlkOk X.N X.env.scope scope own)
    (hg : ∀ (s : Shared) (H : Hp) (C : Addr) (cl : List (PySem.Str × Addr)) (fp : List Addr), PG (X.blk s H scope (compEnvC scope cl C X.env) fp) tg (gOf g.K vs))
    (ht : ∀ (s : Shared) (H : Hp) (C : Addr) (cl : List (PySem.Str × Addr)) (fp : List Addr), PTs (X.blk s H scope (compEnvC scope cl C X.env) fp) ifs (tTs g fi))
    (hi1 : ∀ (s : Shared) (H : Hp) (C : Addr) (cl : List (PySem.Str × Addr)) (fp : List Addr), PI (X.blk s H scope (compEnvC scope cl C X.env) fp) tg1 iter1 (tIs g pw1 fw1))
    (hg1 : ∀ (s : Shared) (H : Hp) (C : Addr) (cl : List (PySem.Str × Addr)) (fp : List Addr), PG (X.blk s H scope (compEnvC scope cl C X.env) fp) tg1 (gOf g.K vs1))
    (ht1 : ∀ (s : Shared) (H : Hp) (C : Addr) (cl : List (PySem.Str × Addr)) (fp : List Addr), PTs (X.blk s H scope (compEnvC scope cl C X.env) fp) ifs1 (tTs g fi1))
    (he : ∀ (s : Shared) (H : Hp) (C : Addr) (cl : List (PySem.Str × Addr)) (fp : List Addr), PE (X.blk s H scope (compEnvC scope cl C X.env) fp) elt (tE g ne fe))
    (hs : ∀ x, foldedSetIterable iter X.env x = pure x) (hs1 : ∀ env x, foldedSetIterable iter1 env x = pure x) : PS X (.Assign [.Name y py] (.ListComp elt [⟨tg, iter, ifs, 0⟩, ⟨tg1, iter1, ifs1, 0⟩] scope pos) spos) (fun D σ H => tE g true (comp2F vs fw fi vs1 fw1 fi1 fe) σ H (fun x H1 => gName i x σ H1 D.nx)) :=
  PS.of (ps_setLc2 hc hN hy hyl hsw hi ok (fun i hi => by rw [how]; exact List.mem_append_right _ hi) hg ht hi1 hg1 ht1 he hs hs1) fun D σ H _ h => by
    have := comp2_read (ne := ne) hpw hpw1 h
    show tLc2 _ _ _ _ _ _ _ (own.map (·.2)) vs1 σ H _
    rw [how]
    rw [← hK] at this ⊢
    exact this
theorem ds_setC2 {pw pw1 : Bool} {vs vs1 : List Nat} (how : own.map (·.2) = vs ++ vs1) (hpw : pw = true → vs.length ≠ 1) (hpw1 : pw1 = true → vs1.length ≠ 1) (hK : X.K = g.K) (hc : X.calm = true) (hN : X.N.Nodup) (hy : X.N[i]? = some y) (hyl : X.env.scope.names.lookup y = some .local)
    (hsw : swapsWith (.ListComp elt [⟨tg, iter, ifs, 0⟩, ⟨tg1, iter1, ifs1, 0⟩] scope pos) (some (.Name y py)) spos.line X.env = pure true) (hi : PI X tg iter (tIs g pw fw)) (ok : BlkOk X.N X.env.scope scope own)
    (hg : ∀ (s : Shared) (H : Hp) (C : Addr) (cl : List (PySem.Str × Addr)) (fp : List Addr), PG (X.blk s H scope (compEnvC scope cl C X.env) fp) tg (gOf g.K vs))
    (ht : ∀ (s : Shared) (H : Hp) (C : Addr) (cl : List (PySem.Str × Addr)) (fp : List Addr), PTs (X.blk s H scope (compEnvC scope cl C X.env) fp) ifs (tTs g fi))
    (hi1 : ∀ (s : Shared) (H : Hp) (C : Addr) (cl : List (PySem.Str × Addr)) (fp : List Addr), PI (X.blk s H scope (compEnvC scope cl C X.env) fp) tg1 iter1 (tIs g pw1 fw1))
    (hg1 : ∀ (s : Shared) (H : Hp) (C : Addr) (cl : List (PySem.Str × Addr)) (fp : List Addr), PG (X.blk s H scope (compEnvC scope cl C X.env) fp) tg1 (gOf g.K vs1))
    (ht1 : ∀ (s : Shared) (H : Hp) (C : Addr) (cl : List (PySem.Str × Addr)) (fp : List Addr), PTs (X.blk s H scope (compEnvC scope cl C X.env) fp) ifs1 (tTs g fi1))
    (he : ∀ (s : Shared) (H : Hp) (C : Addr) (cl : List (PySem.Str × Addr)) (fp : List Addr), PE (X.blk s H scope (compEnvC scope cl C X.env) fp) elt (tE g ne fe))
    (hs : ∀ x, foldedSetIterable iter X.env x = pure x) (hs1 : ∀ env x, foldedSetIterable iter1 env x = pure x) (own? : Bool) : PS X (.Assign [.Name y py] (.ListComp elt [⟨tg, iter, ifs, 0⟩, ⟨tg1, iter1, ifs1, 0⟩] scope pos) spos) (tS g [i] fun ρ => if own? = true then (do
    let (h, ρ) ← comp2F vs fw fi vs1 fw1 fi1 fe ρ
    match h with
    | .v (.lst ds) => some (.next, ρ.put i (.own ds))
    | _ => none) else do
    let (h, ρ) ← comp2F vs fw fi vs1 fw1 fi1 fe ρ
    let d ← h.val
    some (.next, ρ.put i (.val d))) :=
  PS.of (ps_setC2 how hpw hpw1 hK hc hN hy hyl hsw hi ok hg ht hi1 hg1 ht1 he hs hs1) fun D σ H _ h => by
    cases own? with
    | true => exact new_read hK h
    | false => exact asg_read hK h
end
/-! ### names bound to a tuple's parts -/
theorem ds_asgT {tg : Expr} {vs : List Nat} (hK : X.K = g.K) (he : PE X e (tE g n fe)) (hg : PG X tg (gOf g.K vs)) (hs : swapsWithSole [tg] e pos.line X.env = pure false) (hw : swappedStores [tg] e X.env = pure none) (h1 : (assignEach [tg] X.env).map (·.2) = [assign tg X.env]) :
    PS X (.Assign [tg] e pos) (tS g vs fun ρ => do
    let (h, ρ) ← fe ρ
    let d ← h.val
    let ρ ← setTg vs d ρ
    some (.next, ρ)) := PS.of (ps_asg he hg hs hw h1) fun D σ H _ ⟨Z, ow, ρ, fl, ρ', r, e, k⟩ => by
  simp only [bindS] at e
  obtain ⟨⟨hx, ρ1⟩, e1, d, e2, ρ2, e3, e4⟩ := e
  cases e4
  refine ⟨Z, ow, ρ, hx, ρ1, r, e1, fun v H1 l1 p1 => ?_⟩
  have p := pst_of p1
  exact setTg_ok (pw := false) rfl p.rel (.inl (p.rep.val e2)) (fun z => nomatch z) e3 fun σ' r' ag _ => k ow σ' H1 l1 (p.fr.stp p.rel) r' ag
theorem ds_ex (hK : X.K = g.K) (he : PE X e (tE g n fe)) (hs : swapsWith e none pos.line X.env = pure false) : PS X (.Expr e pos) (tS g [] fun ρ => do
    let (_, ρ) ← fe ρ
    some (.next, ρ)) := PS.of (ps_expr he hs) fun D σ H _ ⟨Z, ow, ρ, fl, ρ', r, e, k⟩ => by
  simp only [bindS] at e
  obtain ⟨⟨hx, ρ1⟩, e1, e4⟩ := e
  cases e4
  refine ⟨Z, ow, ρ, hx, _, r, e1, fun v H1 l1 p1 => ?_⟩
  have p := pst_of p1
  intro _
  exact k ow σ H1 l1 (p.fr.stp p.rel) p.rel fun j _ => rfl
theorem ds_ret (hK : X.K = g.K) (he : PE X e (tE g n fe)) : PS X (.Return (some e) pos) (tS g [] fun ρ => do
    let (h, ρ) ← fe ρ
    let d ← h.at ρ
    some (.ret d, ρ)) := PS.of (ps_ret he) fun D σ H _ ⟨Z, ow, ρ, fl, ρ', r, e, k⟩ => by
  simp only [bindS] at e
  obtain ⟨⟨hx, ρ1⟩, e1, d, e2, e4⟩ := e
  cases e4
  refine ⟨Z, ow, ρ, hx, _, r, e1, fun v H1 l1 p1 => ?_⟩
  have p := pst_of p1
  intro _
  have sm : Same (hid (Or2 Z ow) H1) (hid Z H1) := fun c o e => by
    obtain ⟨z, e⟩ := hid_some e
    simp only [Or2, Bool.or_eq_false_iff] at z
    exact hid_of z.1 e
  refine k ow σ H1 l1 (p.fr.stp p.rel) p.rel (fun j _ => rfl) v ?_
  match hx, e2, p with
  | .v d', e2, p =>
    cases e2
    have q : Rep g (hid (Or2 Z ow) H1) v d := p.rep
    exact q.mono sm
  | .p i, e2, p =>
    simp only [Hd.at] at e2
    split at e2
    · rename_i ds q
      cases e2
      obtain ⟨a, xs, f1, f2, f3, f4⟩ := p.rel.own i ds q
      have hs : σ[i]? = some (some v) := p.rep
      rw [hs] at f1; cases f1
      exact .lst (hid_of (p.rel.dis a f3) f2) (RepL.mono sm f4)
    · cases e2
theorem ds_brk (hK : X.K = g.K) : PS X (.Break pos) (tS g [] fun ρ => some (.brk, ρ)) := PS.of ps_break fun D σ H l ⟨Z, ow, ρ, fl, ρ', r, e, k⟩ => by
  cases e
  exact fun _ => k ow σ H (hK ▸ l) .refl r fun j _ => rfl
theorem ds_cnt (hK : X.K = g.K) : PS X (.Continue pos) (tS g [] fun ρ => some (.cnt, ρ)) := PS.of ps_continue fun D σ H l ⟨Z, ow, ρ, fl, ρ', r, e, k⟩ => by
  cases e
  exact fun _ => k ow σ H (hK ▸ l) .refl r fun j _ => rfl
theorem ds_pass (hK : X.K = g.K) : PS X (.Pass pos) (tS g [] fun ρ => some (.next, ρ)) := PS.of ps_pass fun D σ H l ⟨Z, ow, ρ, fl, ρ', r, e, k⟩ => by
  cases e
  exact fun _ => k ow σ H (hK ▸ l) .refl r fun j _ => rfl
/-! ### blocks -/
def seqF (f1 f2 : EvS) : EvS := fun ρ => do
    let (f, ρ) ← f1 ρ
    match f with
    | .next => f2 ρ
    | f => some (f, ρ)
theorem dss_nil (hK : X.K = g.K) : PSs X [] (tS g [] fun ρ => some (.next, ρ)) := PSs.of pss_nil fun D σ H l ⟨Z, ow, ρ, fl, ρ', r, e, k⟩ => by
  cases e
  exact fun _ => k ow σ H (hK ▸ l) .refl r fun j _ => rfl
theorem FlP.len {Z : Addr → Bool} {D : Ends} {σ : L2.St} {H : Hp} {fl : Fl} {K : PySem.W.Frag} (h : FlP g Z D σ H fl) : FlP g Z (lenD K D) σ H fl := by
  cases fl with
  | next => exact fun _ => h
  | brk => exact fun _ => h
  | cnt => exact fun _ => h
  | ret d => exact fun v r _ => h v r
theorem dss_cons {w1 w2 : List Nat} {f1 f2 : EvS} (hK : X.K = g.K) (h1 : PS X st (tS g w1 f1)) (h2 : PSs X sts (tS g w2 f2)) : PSs X (st :: sts) (tS g (w1 ++ w2) (seqF f1 f2)) :=
  PSs.of (pss_cons h1 h2) fun D σ H l ⟨Z, ow, ρ, fl, ρ', r, e, k⟩ => by
    simp only [seqF, bindS] at e
    obtain ⟨⟨f, ρ1⟩, e1, e2⟩ := e
    refine ⟨Z, ow, ρ, f, ρ1, r, e1, fun ow1 σ1 H1 l1 s1 r1 a1 => ?_⟩
    have ag : ∀ j, j ∉ w1 ++ w2 → σ1[j]? = σ[j]? := fun j hj => a1 j fun q => hj (by simp [q])
    match f, e2 with
    | .next, e2 => exact ⟨Z, ow1, ρ1, fl, ρ', r1, e2, fun ow2 σ2 H2 l2 s2 r2 a2 => FlP.len (k ow2 σ2 H2 l2 (s1.trans s2) r2 fun j hj => (a2 j fun q => hj (by simp [q])).trans (ag j hj))⟩
    | .brk, e2 => cases e2; exact fun _ => k ow1 σ1 H1 l1 s1 r1 ag
    | .cnt, e2 => cases e2; exact fun _ => k ow1 σ1 H1 l1 s1 r1 ag
    | .ret d, e2 => cases e2; exact fun v hv _ => k ow1 σ1 H1 l1 s1 r1 ag v hv
/-- a list given up, ahead of a block: no statement of the text -/
theorem dss_frz {w2 : List Nat} {f2 : EvS} {i : Nat} (hK : X.K = g.K) (h2 : PSs X sts (tS g w2 f2)) : PSs X sts (tS g ([] ++ w2) (seqF (fun ρ => match ρ.get i with | .own ds => some (.next, ρ.put i (.val (.lst ds))) | _ => none) f2)) :=
  PSs.of h2 fun D σ H l ⟨Z, ow, ρ, fl, ρ', r, e, k⟩ => by
    simp only [seqF, bindS] at e
    obtain ⟨⟨f, ρ1⟩, e1, e2⟩ := e
    split at e1
    · rename_i ds q
      cases e1
      obtain ⟨ow', r', s'⟩ := r.frz q
      exact ⟨Z, ow', _, fl, ρ', r', e2, fun ow2 σ2 H2 l2 s2 r2 a2 => FlP.len (k ow2 σ2 H2 l2 (s'.trans s2) r2 fun j hj => a2 j (by simpa using hj))⟩
    · cases e1
theorem ds_ite {sa sb : List Stmt} {w1 w2 : List Nat} {f1 f2 : EvS} {fc : Ev} (hK : X.K = g.K) (hc : PT X c (tTs g fun ρ => tstR (fc ρ))) (h1 : PSs X sa (tS g w1 f1)) (h2 : PSs X sb (tS g w2 f2)) :
    PS X (.If c sa sb pos) (tS g (w1 ++ w2) fun ρ => do
    let (t, ρ) ← tstR (fc ρ)
    match t with
    | true => f1 ρ
    | false => f2 ρ) := PS.of (ps_if hc h1 h2) fun D σ H l ⟨Z, ow, ρ, fl, ρ', r, e, k⟩ => by
  simp only [bindS] at e
  obtain ⟨⟨t, ρ1⟩, e1, e2⟩ := e
  refine ⟨Z, ow, ρ, t, ρ1, r, e1, fun H1 l1 fr1 r1 => ?_⟩
  cases t with
  | true => exact iteT ⟨Z, ow, ρ1, fl, ρ', r1, e2, fun ow2 σ2 H2 l2 s2 r2 a2 => FlP.len (k ow2 σ2 H2 l2 ((fr1.stp r1).trans s2) r2 fun j hj => a2 j fun q => hj (by simp [q]))⟩
  | false => exact iteF ⟨Z, ow, ρ1, fl, ρ', r1, e2, fun ow2 σ2 H2 l2 s2 r2 a2 => FlP.len (k ow2 σ2 H2 l2 ((fr1.stp r1).trans s2) r2 fun j hj => a2 j fun q => hj (by simp [q]))⟩
end
end PV

end
section
set_option Elab.async false
set_option linter.all false
set_option maxRecDepth 100000
set_option maxHeartbeats 1000000
/-! DP: loops; lists changed. -/
namespace PV
open PySem PySem.Spec PyProof.Rows L2
section
variable {X : Cx} {g : G} {st : Stmt} {body : List Stmt} {tg iter a b c e : Expr} {fa fb fe fc : Ev} {fw : EvI} {f2 : EvS} {na nb n : Bool} {pos : Pos} {vs wb : List Nat}
def forTurn (vs : List Nat) (f2 : EvS) (x : D) (ρ : Env) : Option (Fl × Env) := do
      let ρ ← setTg vs x ρ
      f2 ρ
theorem ds_for {pw : Bool} (hpw : pw = true → vs.length ≠ 1) (hK : X.K = g.K) (hp : PassesOwn (model X.prog X.w) X.A X.env X.xe) (hc : X.calm = true) (hi : PI X tg iter (tIs g pw fw)) (hg : PG X tg (gOf g.K vs)) (hb : PSs X body (tS g wb f2))
    (hs : ∀ x, foldedSetIterable iter X.env x = pure x) (hlv : ∀ ρ i ρ', fw ρ = some (.live i, ρ') → i ∉ vs ++ wb) : PS X (.For tg iter body [] pos) (tS g (vs ++ wb) fun ρ => do
    let (s, ρ) ← fw ρ
    match s with
    | .vals xs => forL (forTurn vs f2) xs ρ
    | .live i => forV (forTurn vs f2) i fuel 0 ρ) := PS.of (ps_for hp hc hi hg hb hs) fun Dn σ H l ⟨Z, ow, ρ, fl, ρ2, r, e, k⟩ => by
  simp only [bindS] at e
  obtain ⟨⟨s, ρ1⟩, e1, e2⟩ := e
  refine ⟨Z, ow, ρ, s, ρ1, r, e1, fun J H1 f1 r1 wk lv => ?_⟩
  have s1 := f1.stp r1
  -- a turn's end
  have turn : ∀ {ow' : Addr → Bool} {σ' : L2.St} {H' : Hp} {ρi ρ3 : Env} {x : V} {d : D} {f : Fl} {N : L2.St → Hp → Prop}, Rel g Z ow' σ' H' ρi → Stp g ow H1 ow' H' → (∀ j, j ∉ vs ++ wb → σ'[j]? = σ[j]?) → PRep g (Or2 Z ow') pw H' x d → forTurn vs f2 d ρi = some (f, ρ3) →
      (f = .next ∨ f = .cnt → ∀ ow3 σ3 H3, Rel g Z ow3 σ3 H3 ρ3 → Stp g ow H1 ow3 H3 → (∀ j, j ∉ vs ++ wb → σ3[j]? = σ[j]?) → N σ3 H3) →
      (f = .brk → fl = .next ∧ ρ3 = ρ2) → (∀ dd, f = .ret dd → fl = .ret dd ∧ ρ3 = ρ2) →
      gOf g.K vs x σ' H' fun σ2 H2 => tS g wb f2 { lenD X.K Dn with nx := N, ct := N, bk := (lenD X.K Dn).nx } σ2 H2 := by
    intro ow' σ' H' ρi ρ3 x d f N ri si ai rx et h1 h2 h3
    simp only [forTurn, bindS] at et
    obtain ⟨ρs, t1, t2⟩ := et
    refine setTg_ok rfl ri rx hpw t1 fun σ2 r2 a2 => ?_
    refine ⟨Z, ow', ρs, f, ρ3, r2, t2, fun ow3 σ3 H3 l3 s3 r3 a3 => ?_⟩
    have ag : ∀ j, j ∉ vs ++ wb → σ3[j]? = σ[j]? := fun j hj => ((a3 j fun q => hj (by simp [q])).trans (a2 j fun q => hj (by simp [q]))).trans (ai j hj)
    have st3 := si.trans s3
    cases f with
    | next => exact h1 (.inl rfl) ow3 σ3 H3 r3 st3 ag
    | cnt => exact h1 (.inr rfl) ow3 σ3 H3 r3 st3 ag
    | brk =>
      obtain ⟨q1, q2⟩ := h2 rfl
      subst q1 q2
      exact fun _ => k ow3 σ3 H3 l3 (s1.trans st3) r3 ag
    | ret dd =>
      obtain ⟨q1, q2⟩ := h3 dd rfl
      subst q1 q2
      exact fun v hv _ => k ow3 σ3 H3 l3 (s1.trans st3) r3 ag v hv
  cases s with
  | vals xs =>
    obtain ⟨hxl, wk⟩ := wk
    refine ⟨fun i m σ' H' => m = xs.length - i ∧ i ≤ xs.length ∧ ∃ ow' ρi, Rel g Z ow' σ' H' ρi ∧ Stp g ow H1 ow' H' ∧ (∀ j, j ∉ vs ++ wb → σ'[j]? = σ[j]?) ∧ forL (forTurn vs f2) (xs.drop i) ρi = some (fl, ρ2),
      ⟨xs.length, by simp, Nat.zero_le _, ow, ρ1, r1, .refl, fun j _ => rfl, by simpa using e2⟩, ?_⟩
    rintro i m σ' H' ⟨rfl, hi', ow', ρi, ri, si, ai, ei⟩
    cases hx : xs[i]? with
    | none =>
      have e0 : xs.drop i = [] := List.drop_eq_nil_of_le (List.getElem?_eq_none_iff.mp hx)
      rw [e0] at ei
      cases ei
      exact .inl ⟨(wk i _ _ (si.hid r.zb) ri.dom).2 hx, fun l' => k ow' σ' H' (hK ▸ l') (s1.trans si) ri ai⟩
    | some d =>
      have hlt : i < xs.length := (List.getElem?_eq_some_iff.mp hx).1
      have e0 : xs.drop i = d :: xs.drop (i + 1) := by
        rw [List.drop_eq_getElem_cons hlt]
        rw [(List.getElem?_eq_some_iff.mp hx).2]
      rw [e0] at ei
      simp only [forL, bindS] at ei
      obtain ⟨⟨f, ρ3⟩, g1, g2⟩ := ei
      obtain ⟨go, yl⟩ := (wk i _ _ (si.hid r.zb) ri.dom).1 d hx
      refine .inr ⟨go, fun σ' H' => i + 1 ≤ xs.length ∧ ∃ ow' ρi, Rel g Z ow' σ' H' ρi ∧ Stp g ow H1 ow' H' ∧ (∀ j, j ∉ vs ++ wb → σ'[j]? = σ[j]?) ∧ forL (forTurn vs f2) (xs.drop (i + 1)) ρi = some (fl, ρ2),
        fun σ' H' n => ⟨xs.length - (i + 1), by omega, rfl, n⟩, fun x H3 y => ?_⟩
      obtain ⟨s3, rx⟩ := yl x H3 y
      refine turn (ri.ext s3) (si.trans (Fr.stp (.of_same s3) (ri.ext s3))) ai rx g1 (fun hf ow3 σ3 H4 r4 st4 a4 => ?_) (fun hf => ?_) (fun dd hf => ?_)
      · refine ⟨hlt, ow3, ρ3, r4, st4, a4, ?_⟩
        rcases hf with rfl | rfl <;> exact g2
      · subst hf; cases g2; exact ⟨rfl, rfl⟩
      · subst hf; cases g2; exact ⟨rfl, rfl⟩
  | live i =>
    obtain ⟨a, ha, rfl⟩ := wk
    have hiv := hlv ρ i ρ1 e1
    refine ⟨fun kk m σ' H' => m + kk = fuel ∧ ∃ ow' ρi, Rel g Z ow' σ' H' ρi ∧ Stp g ow H1 ow' H' ∧ (∀ j, j ∉ vs ++ wb → σ'[j]? = σ[j]?) ∧ forV (forTurn vs f2) i m kk ρi = some (fl, ρ2),
      ⟨fuel, rfl, ow, ρ1, r1, .refl, fun j _ => rfl, e2⟩, ?_⟩
    rintro kk m σ' H' ⟨hm, ow', ρi, ri, si, ai, ei⟩
    match m, ei with
    | 0, ei => cases ei
    | m + 1, ei =>
      unfold forV at ei
      split at ei
      · rename_i ls hg'
        obtain ⟨b, ws, f1', f2', f3', f4'⟩ := ri.own i ls hg'
        rw [ai i hiv, ha] at f1'
        cases f1'
        have hq : SqL g.K H' a ws := SqL.of f2'
        split at ei
        · rename_i c1
          cases ei
          refine .inl ⟨⟨ws, hq, ?_⟩, fun l' => k ow' σ' H' (hK ▸ l') (s1.trans si) ri ai⟩
          rw [f4'.length]
          exact List.getElem?_eq_none_iff.mp c1
        · rename_i d c1
          simp only [bindS] at ei
          obtain ⟨⟨f, ρ3⟩, g1, g2⟩ := ei
          obtain ⟨v, e1', e2'⟩ := f4'.get c1
          refine .inr ⟨⟨ws, v, hq, e1'⟩, fun σ' H' => ∃ ow' ρi, Rel g Z ow' σ' H' ρi ∧ Stp g ow H1 ow' H' ∧ (∀ j, j ∉ vs ++ wb → σ'[j]? = σ[j]?) ∧ forV (forTurn vs f2) i m (kk + 1) ρi = some (fl, ρ2),
            fun σ' H' n => ⟨m, Nat.lt_succ_self _, by omega, n⟩, fun x H3 y => ?_⟩
          obtain ⟨rfl, y⟩ := y
          have := y ws hq
          rw [e1'] at this; cases this
          refine turn ri si ai (.inl e2') g1 (fun hf ow3 σ3 H4 r4 st4 a4 => ?_) (fun hf => ?_) (fun dd hf => ?_)
          · refine ⟨ow3, ρ3, r4, st4, a4, ?_⟩
            rcases hf with rfl | rfl <;> exact g2
          · subst hf; cases g2; exact ⟨rfl, rfl⟩
          · subst hf; cases g2; exact ⟨rfl, rfl⟩
      · cases ei
theorem ds_whl (hK : X.K = g.K) (hp : PassesOwn (model X.prog X.w) X.A X.env X.xe) (hc : PT X c (tTs g fun ρ => tstR (fc ρ))) (hb : PSs X body (tS g wb f2)) : PS X (.While c body [] pos) (tS g wb fun ρ => whlN (fun ρ => tstR (fc ρ)) f2 fuel ρ) :=
  PS.of (ps_while hp hc hb) fun Dn σ H l ⟨Z, ow, ρ, fl, ρ2, r, e, k⟩ => by
    refine ⟨fun m σ' H' => ∃ ow' ρi, Rel g Z ow' σ' H' ρi ∧ Stp g ow H ow' H' ∧ (∀ j, j ∉ wb → σ'[j]? = σ[j]?) ∧ whlN (fun ρ => tstR (fc ρ)) f2 m ρi = some (fl, ρ2), ⟨fuel, ow, ρ, r, .refl, fun j _ => rfl, e⟩, ?_⟩
    rintro m σ' H' ⟨ow', ρi, ri, si, ai, ei⟩
    match m, ei with
    | 0, ei => cases ei
    | m + 1, ei =>
      simp only [whlN, bindS] at ei
      obtain ⟨⟨b, ρ3⟩, g1, g2⟩ := ei
      refine ⟨Z, ow', ρi, b, ρ3, ri, g1, fun H3 l3 fr3 r3 => ?_⟩
      have s3 := si.trans (fr3.stp r3)
      cases b with
      | false =>
        cases g2
        exact iteF fun l' => k ow' σ' H3 (hK ▸ l') s3 r3 ai
      | true =>
        simp only [bindS] at g2
        obtain ⟨⟨f, ρ4⟩, g3, g4⟩ := g2
        refine iteT ⟨fun σ' H' => ∃ ow' ρi, Rel g Z ow' σ' H' ρi ∧ Stp g ow H ow' H' ∧ (∀ j, j ∉ wb → σ'[j]? = σ[j]?) ∧ whlN (fun ρ => tstR (fc ρ)) f2 m ρi = some (fl, ρ2), fun σ' H' n => ⟨m, Nat.lt_succ_self _, n⟩, ?_⟩
        refine ⟨Z, ow', ρ3, f, ρ4, r3, g3, fun ow5 σ5 H5 l5 s5 r5 a5 => ?_⟩
        have st5 := s3.trans s5
        have ag : ∀ j, j ∉ wb → σ5[j]? = σ[j]? := fun j hj => (a5 j hj).trans (ai j hj)
        cases f with
        | next => exact ⟨ow5, ρ4, r5, st5, ag, g4⟩
        | cnt => exact ⟨ow5, ρ4, r5, st5, ag, g4⟩
        | brk => cases g4; exact fun _ => k ow5 σ5 H5 l5 st5 r5 ag
        | ret d => cases g4; exact fun v hv _ => k ow5 σ5 H5 l5 st5 r5 ag v hv
/-! ### lists changed -/
variable {i : Nat} {x : PySem.Str} {px ap : Pos}
theorem few_plain {e : Expr} {env : PySem.Env} {cpos : Pos} (h : plain e = true) : ((backTo cpos (starEach [e] env)).all (fun x => !x.1) && (backToKw cpos (keywordEach [] env)).all (fun x => x.1.isSome)
      && decide (([e] : List Expr).length + ([] : List Keyword).length + (if ([] : List Keyword).isEmpty then 0 else 1) < 30)) = true := by
  rw [star_plain h]
  rfl
theorem own_val {Z ow : Addr → Bool} {σ : L2.St} {H : Hp} {ρ : Env} {ds : List D} (r : Rel g Z ow σ H ρ) (hi : ρ.get i = .own ds) : ∃ a xs, σ[i]? = some (some (.ref a)) ∧ H a = some (.lst xs) ∧ xs.length = ds.length ∧ RepL g (hid (Or2 Z ow) H) xs ds := by
  obtain ⟨a, xs, e1, e2, e3, e4⟩ := r.own i ds hi
  exact ⟨a, xs, e1, e2, e4.length, e4⟩
theorem own_of {s : Slot} (h : ¬ (!isOwn s) = true) : ∃ ds, s = .own ds := by
  cases s with
  | own ds => exact ⟨ds, rfl⟩
  | _ => exact absurd rfl h
theorem get_ref {Z ow : Addr → Bool} {σ : L2.St} {H : Hp} {ρ : Env} {ds : List D} {a : Addr} (r : Rel g Z ow σ H ρ) (hi : ρ.get i = .own ds) (hs : σ[i]? = some (some (.ref a))) : ∃ xs, H a = some (.lst xs) ∧ xs.length = ds.length ∧ RepL g (hid (Or2 Z ow) H) xs ds := by
  obtain ⟨b, xs, e1, e2, e3, e4⟩ := own_val r hi
  rw [hs] at e1; cases e1
  exact ⟨xs, e2, e3, e4⟩
/-- xs.append(e) -/
theorem ds_app {c' : Pos} (hK : X.K = g.K) (hN : X.N[i]? = some x) (hv : Vis X.env.scope x) (hd : (x == ("__debug__" : PySem.Str)) = false) (hcd : (x == ("__classdict__" : PySem.Str)) = false) (he : PE X e (tE g n fe)) (hpl : plain e = true) (hline : (ap.endLine == pos.line) = true) :
    PS X (.Expr (.Call (.Attribute (.Name x px) "append" ap) [e] [] pos) c') (tS g [] fun ρ => if !isOwn (ρ.get i) then none else do
    let (h, ρ) ← fe ρ
    let d ← h.val
    match ρ.get i with
    | .own ds => if ds.length < line then some (.next, ρ.put i (.own (ds ++ [d]))) else none
    | _ => none) := PS.of (ps_expr (pe_bm PySem.F.plainAttrs_list PySem.F.slot_list_append PySem.F.type_list_append mt_append (pe_var hN hv hd hcd) (da_cons hK he (da_nil hK) hpl) rfl (few_plain hpl) hline (star_plain hpl) rfl) rfl) fun Dn σ H l ⟨Z, ow, ρ, fl, ρ2, r, e, k⟩ => by
  dsimp only at e
  split at e
  · cases e
  rename_i ho
  obtain ⟨ds0, ho⟩ := own_of ho
  simp only [bindS] at e
  obtain ⟨⟨h, ρ1⟩, e1, d, e2, e3⟩ := e
  obtain ⟨a, xs, q1, q2, _, _⟩ := own_val r ho
  refine ⟨.ref a, q1, .inl ⟨rfl, xs, SqL.of q2⟩, Z, ow, ρ, [h], ρ1, r, by simp only [bindS]; exact ⟨_, e1, _, rfl, rfl⟩, fun vs H1 l1 f1 r1 p1 => ?_⟩
  cases p1 with
  | @cons v _ _ _ p p' =>
    cases p'
    split at e3
    · rename_i ds hg
      split at e3
      · rename_i hl
        cases e3
        obtain ⟨ys, g1, g2, g3⟩ := get_ref r1 hg q1
        obtain ⟨r2, f2, _⟩ := r1.chg hg q1 (g3.append (.cons (p.val e2) .nil))
        refine ⟨a, ys, v, rfl, rfl, g1, by rw [g2]; exact hl, ?_⟩
        intro l2
        exact k ow σ _ (hK ▸ l2) ((f1.stp r1).trans (f2.stp r2)) r2 fun j _ => rfl
      · cases e3
    · cases e3
/-- xs.extend(e) -/
theorem ds_ext {c' : Pos} (hK : X.K = g.K) (hN : X.N[i]? = some x) (hv : Vis X.env.scope x) (hd : (x == ("__debug__" : PySem.Str)) = false) (hcd : (x == ("__classdict__" : PySem.Str)) = false) (he : PE X e (tE g n fe)) (hpl : plain e = true) (hline : (ap.endLine == pos.line) = true) :
    PS X (.Expr (.Call (.Attribute (.Name x px) "extend" ap) [e] [] pos) c') (tS g [] fun ρ => if !isOwn (ρ.get i) then none else do
    let (h, ρ) ← fe ρ
    let d ← h.val
    match ρ.get i, d with
    | .own ds, .lst es => if ds.length + es.length ≤ line then some (.next, ρ.put i (.own (ds ++ es))) else none
    | _, _ => none) := PS.of (ps_expr (pe_bm PySem.F.plainAttrs_list PySem.F.slot_list_extend PySem.F.type_list_extend mt_extend (pe_var hN hv hd hcd) (da_cons hK he (da_nil hK) hpl) rfl (few_plain hpl) hline (star_plain hpl) rfl) rfl) fun Dn σ H l ⟨Z, ow, ρ, fl, ρ2, r, e, k⟩ => by
  dsimp only at e
  split at e
  · cases e
  rename_i ho
  obtain ⟨ds0, ho⟩ := own_of ho
  simp only [bindS] at e
  obtain ⟨⟨h, ρ1⟩, e1, d, e2, e3⟩ := e
  obtain ⟨a, xs, q1, q2, _, _⟩ := own_val r ho
  refine ⟨.ref a, q1, .inl ⟨rfl, xs, SqL.of q2⟩, Z, ow, ρ, [h], ρ1, r, by simp only [bindS]; exact ⟨_, e1, _, rfl, rfl⟩, fun vs H1 l1 f1 r1 p1 => ?_⟩
  cases p1 with
  | @cons v _ _ _ p p' =>
    cases p'
    have p := p.val e2
    split at e3
    · rename_i ds es hg
      split at e3
      · rename_i hl
        cases e3
        obtain ⟨ys, g1, g2, g3⟩ := get_ref r1 hg q1
        cases p with
        | @lst b zs _ b1 b2 =>
          obtain ⟨r2, f2, _⟩ := r1.chg hg q1 (g3.append b2)
          refine ⟨a, b, ys, zs, rfl, rfl, g1, (hid_some b1).2, by rw [g2, b2.length]; exact hl, ?_⟩
          intro l2
          exact k ow σ _ (hK ▸ l2) ((f1.stp r1).trans (f2.stp r2)) r2 fun j _ => rfl
      · cases e3
    · cases e3
/-- xs.pop() -/
theorem de_pop0 (hK : X.K = g.K) (hN : X.N[i]? = some x) (hv : Vis X.env.scope x) (hd : (x == ("__debug__" : PySem.Str)) = false) (hcd : (x == ("__classdict__" : PySem.Str)) = false) (hline : (ap.endLine == pos.line) = true) :
    PE X (.Call (.Attribute (.Name x px) "pop" ap) [] [] pos) (tE g false fun ρ => if !isOwn (ρ.get i) then none else
    match ρ.get i with
    | .own ds => match ds[ds.length - 1]? with
      | some d => some (.v d, ρ.put i (.own ds.dropLast))
      | none => none
    | _ => none) := PE.of (pe_bm0 PySem.F.plainAttrs_list PySem.F.slot_list_pop PySem.F.type_list_pop mt_pop (pe_var hN hv hd hcd) rfl hline) fun σ H Q l ⟨Z, ow, ρ, h, ρ2, r, e, k⟩ => by
  dsimp only at e
  split at e
  · cases e
  rename_i ho
  obtain ⟨ds, ho⟩ := own_of ho
  rw [ho] at e
  simp only at e
  obtain ⟨a, xs, q1, q2, q3, q4⟩ := own_val r ho
  split at e
  · rename_i d hd'
    cases e
    obtain ⟨v, e1, e2⟩ := q4.get hd'
    obtain ⟨r2, f2, _⟩ := r.chg ho q1 q4.dropLast
    refine ⟨.ref a, q1, .inl ⟨rfl, xs, SqL.of q2⟩, a, xs, v, rfl, rfl, q2, by rw [q3]; exact e1, fun l2 => k _ _ (hK ▸ l2) ?_⟩
    rw [if_neg (by decide)]
    exact ⟨f2, r2, e2.mono (f2.hid r.zb)⟩
  · cases e
/-- xs.pop(e) -/
theorem de_pop1 (hK : X.K = g.K) (hN : X.N[i]? = some x) (hv : Vis X.env.scope x) (hd : (x == ("__debug__" : PySem.Str)) = false) (hcd : (x == ("__classdict__" : PySem.Str)) = false) (he : PE X e (tE g n fe)) (hpl : plain e = true) (hline : (ap.endLine == pos.line) = true) :
    PE X (.Call (.Attribute (.Name x px) "pop" ap) [e] [] pos) (tE g false fun ρ => if !isOwn (ρ.get i) then none else do
    let (h, ρ) ← fe ρ
    match ρ.get i, h with
    | .own ds, .v (.int k) => match ixN ds.length k with
      | some j => match ds[j]? with
        | some d => some (.v d, ρ.put i (.own (ds.eraseIdx j)))
        | none => none
      | none => none
    | _, _ => none) := PE.of (pe_bm PySem.F.plainAttrs_list PySem.F.slot_list_pop PySem.F.type_list_pop mt_popAt (pe_var hN hv hd hcd) (da_cons hK he (da_nil hK) hpl) rfl (few_plain hpl) hline (star_plain hpl) rfl) fun σ H Q l ⟨Z, ow, ρ, h, ρ2, r, e, k⟩ => by
  dsimp only at e
  split at e
  · cases e
  rename_i ho
  obtain ⟨ds0, ho⟩ := own_of ho
  simp only [bindS] at e
  obtain ⟨⟨h, ρ1⟩, e1, e3⟩ := e
  obtain ⟨a, xs, q1, q2, _, _⟩ := own_val r ho
  refine ⟨.ref a, q1, .inl ⟨rfl, xs, SqL.of q2⟩, Z, ow, ρ, [h], ρ1, r, by simp only [bindS]; exact ⟨_, e1, _, rfl, rfl⟩, fun vs H1 l1 f1 r1 p1 => ?_⟩
  cases p1 with
  | @cons v _ _ _ p p' =>
    cases p'
    split at e3
    · rename_i ds kk hg hh
      dsimp only at hg hh
      subst hh
      split at e3
      · rename_i j hj
        split at e3
        · rename_i d hd'
          cases e3
          cases p
          obtain ⟨ys, g1, g2, g3⟩ := get_ref r1 hg q1
          obtain ⟨w, e1, e2⟩ := g3.get hd'
          obtain ⟨r2, f2, _⟩ := r1.chg hg q1 (g3.eraseIdx j)
          obtain ⟨b1, b2, b3, b4⟩ := ixN_seq hj
          have hz : ds.length ≤ sizeLine := by rw [← g2]; exact l1.l a ys (SqL.of g1)
          have hz2 : sizeLine = 16777216 := sizeLine_eq
          refine ⟨a, ys, kk, j, w, rfl, rfl, g1, by omega, by omega, by rw [g2]; exact b1, e1, fun l2 => k _ _ (hK ▸ l2) ?_⟩
          rw [if_neg (by decide)]
          exact ⟨f1.trans f2, r2, e2.mono (f2.hid r.zb)⟩
        · cases e3
      · cases e3
    · cases e3
/-- xs[k] = e -/
theorem ds_set {ix : Expr} {fx : Ev} {nx : Bool} {tp : Pos} (hK : X.K = g.K) (hN : X.N[i]? = some x) (hv : Vis X.env.scope x) (hd : (x == ("__debug__" : PySem.Str)) = false) (hcd : (x == ("__classdict__" : PySem.Str)) = false) (he : PE X e (tE g n fe)) (hx : PE X ix (tE g nx fx))
    (ha : ∀ v, assign (.Subscript (.Name x px) ix tp) X.env v = (do
      let ov ← holding [v] (eval (.Name x px) X.env)
      let iv ← holding [v, ov] (eval ix X.env)
      standAt tp
      holding [v, ov, iv] (setItem ov iv v)
      release [v, ov, iv] []))
    (hs : swapsWithSole [.Subscript (.Name x px) ix tp] e pos.line X.env = pure false) (hw : swappedStores [.Subscript (.Name x px) ix tp] e X.env = pure none) (h1 : (assignEach [.Subscript (.Name x px) ix tp] X.env).map (·.2) = [assign (.Subscript (.Name x px) ix tp) X.env]) :
    PS X (.Assign [.Subscript (.Name x px) ix tp] e pos) (tS g [] fun ρ => do
    let (h, ρ) ← fe ρ
    let d ← h.val
    if !isOwn (ρ.get i) then none else do
    let (k, ρ) ← fx ρ
    match ρ.get i, k with
    | .own ds, .v (.int k) => match ixN ds.length k with
      | some j => some (.next, ρ.put i (.own (ds.set j d)))
      | none => none
    | _, _ => none) := PS.of (ps_asg he (pg_sub (pe_var hN hv hd hcd) hx set_list ha) hs hw h1) fun Dn σ H l ⟨Z, ow, ρ, fl, ρ2, r, e, k⟩ => by
  simp only [bindS] at e
  obtain ⟨⟨h, ρ1⟩, e1, d, e2, e3⟩ := e
  split at e3
  · cases e3
  rename_i ho
  obtain ⟨ds0, ho⟩ := own_of ho
  simp only [bindS] at e3
  obtain ⟨⟨hk, ρ3⟩, e4, e5⟩ := e3
  refine ⟨Z, ow, ρ, h, ρ1, r, e1, fun v H1 l1 p1 => ?_⟩
  have p := pst_of p1
  have ho' : ρ1.get i = .own ds0 := ho
  obtain ⟨a, xs, q1, q2, _, _⟩ := own_val p.rel ho'
  refine ⟨.ref a, q1, Z, ow, ρ1, hk, ρ3, p.rel, e4, fun v2 H2 l2 p2' => ?_⟩
  have p2 := pst_of p2'
  split at e5
  · rename_i ds kk hg hh
    dsimp only at hg hh
    subst hh
    split at e5
    · rename_i j hj
      cases e5
      have q := p2.rep
      cases q
      have hg' : ρ3.get i = .own ds := hg
      obtain ⟨ys, g1, g2, g3⟩ := get_ref p2.rel hg' q1
      obtain ⟨r2, f2, _⟩ := p2.rel.chg hg' q1 (g3.set j ((p.rep.fr p2.fr r.zb).val e2))
      refine ⟨a, ys, kk, j, rfl, rfl, g1, by rw [g2]; exact hj, fun l3 => ?_⟩
      exact k ow σ _ (hK ▸ l3) ((p.fr.stp p.rel).trans ((p2.fr.stp p2.rel).trans (f2.stp r2))) r2 fun j _ => rfl
    · cases e5
  · cases e5
end
end PV

end
section
set_option Elab.async false
set_option linter.all false
set_option maxRecDepth 100000
set_option maxHeartbeats 1000000
/-! DE: op=, two names at once. -/
namespace PV
open PySem PySem.Spec PyProof.Rows L2
section
variable {X : Cx} {g : G} {a b c e : Expr} {fa fb fe fc : Ev} {na nb n : Bool} {pos : Pos} {i j : Nat} {x y : PySem.Str} {px py : Pos}
/-- x op= y, of ints -/
def rAug (o : Op2) : TIp := fun x y H Q => ∃ i j d, x = .int i ∧ y = .int j ∧ aug2 o (.int i) (.int j) = some (.int d) ∧ Q (.int d) H
theorem aug2_int {o : Op2} {x y d : D} (e : aug2 o x y = some d) : ∃ i j k, x = .int i ∧ y = .int j ∧ d = .int k := by
  unfold aug2 at e
  split at e
  · cases e; exact ⟨_, _, _, rfl, rfl, rfl⟩
  · cases e; exact ⟨_, _, _, rfl, rfl, rfl⟩
  · split at e
    · cases e; exact ⟨_, _, _, rfl, rfl, rfl⟩
    · cases e
  · cases e
def augOp : Op2 → Operator
  | .add => .Add
  | .sub => .Sub
  | _ => .Mult
theorem ip_aug (o : Op2) : PIp X (augOp o) (rAug o) := by
  intro pins s σ H x y v u Q I r1 r2 ⟨i, j, d, e1, e2, e, q⟩
  subst e1 e2
  obtain ⟨t, rfl⟩ := r1
  obtain ⟨t', rfl⟩ := r2
  cases o with
  | add => cases e; exact PyProof.Rows.iadd_int ⟨.int _, H, I.tok _, ⟨_, rfl⟩, q⟩
  | sub => cases e; exact PyProof.Rows.isub_int ⟨.int _, H, I.tok _, ⟨_, rfl⟩, q⟩
  | mul =>
    simp only [aug2] at e
    split at e
    · rename_i hc
      cases e
      have hm : CMul i j := by unfold CMul; unfold big at hc; omega
      exact PyProof.Rows.imul_int ⟨.int _, H, I.tok _, ⟨_, rfl⟩, q⟩ hm.ok
    · cases e
  | _ => cases e
theorem ds_aug {o : Op2} (hK : X.K = g.K) (hN : X.N.Nodup) (hi : X.N[i]? = some x) (hx : Loc X.env.scope x) (hf : X.fn x = true) (he : PE X e (tE g n fe)) : PS X (.AugAssign (.Name x px) (augOp o) e pos) (tS g [i] fun ρ => match ρ.get i with
    | .val x => do
      let (y, ρ) ← fe ρ
      let y ← y.val
      let d ← aug2 o x y
      some (.next, ρ.put i (.val d))
    | _ => none) := PS.of (ps_aug hN hi hx he (ip_aug o) (.inl hf)) fun Dn σ H l ⟨Z, ow, ρ, fl, ρ2, r, e, k⟩ => by
  dsimp only at e
  split at e
  · rename_i x0 hg
    simp only [bindS] at e
    obtain ⟨⟨hy, ρ1⟩, e1, y0, e2, d, e3, e4⟩ := e
    cases e4
    obtain ⟨i1, j1, k1, rfl, rfl, rfl⟩ := aug2_int e3
    obtain ⟨v, q1, q2⟩ := r.val i _ hg
    cases q2
    refine ⟨_, q1, Z, ow, ρ, hy, ρ1, r, e1, fun w H1 l1 p1 => ?_⟩
    have p := pst_of p1
    have pv := p.rep.val e2
    cases pv
    refine ⟨i1, j1, k1, rfl, rfl, e3, fun l2 => ?_⟩
    exact k ow _ H1 (hK ▸ l2) (p.fr.stp p.rel) (p.rel.put (.int _)) fun j hj => by rw [List.getElem?_set_ne (by rintro rfl; exact hj (by simp))]
  · cases e
def rGet : V → V → Hp → VK → Prop := fun o i H Q => ∃ p xs k v, o = .ref p ∧ i = .int k ∧ H p = some (.lst xs) ∧ atI xs k = some v ∧ Q v H
theorem get_list : PGet X rGet := by
  intro pins s σ H o i ov iv Q I ro ri ⟨p, xs, k, z, e1, e2, hq, he, q⟩
  subst e1 e2
  cases ro
  obtain ⟨t, rfl⟩ := ri
  obtain ⟨its, r, pl, hz⟩ := I.list (SqL.of (K := X.K) hq)
  obtain ⟨j, h1, h2, h3, h4, h5⟩ := L2.atI_get he
  obtain ⟨w, ew, rw'⟩ := r.get h2
  have hl := r.length
  have hn := line63
  have fin : EP X pins σ Q w s := ⟨z, H, I, rw', q⟩
  by_cases h0 : 0 ≤ k
  · have hj : k.toNat = j := by
      rw [seqIndex_of h0 h5] at h1
      exact Option.some.inj h1
    exact wpAny_getItem_list pl.isList h0 (by omega) (by rw [hj]; simpa using ew) fin
  · have hj : (k + (its.toArray.size : Int)).toNat = j := by
      rw [seqIndex_neg (by omega) h4] at h1
      rw [List.size_toArray, ← hl]
      exact Option.some.inj h1
    exact wpAny_getItem_list_neg pl.isList (by omega) (by rw [List.size_toArray] <;> omega) (by omega) (by rw [hj]; simpa using ew) fin
theorem ds_augs {o : Op2} {ix : Expr} {fx : Ev} {nx : Bool} {tp : Pos} (hK : X.K = g.K) (hN : X.N[i]? = some x) (hv : Vis X.env.scope x) (hd : (x == ("__debug__" : PySem.Str)) = false) (hcd : (x == ("__classdict__" : PySem.Str)) = false) (he : PE X e (tE g n fe)) (hx : PE X ix (tE g nx fx))
    (ha : ∀ ov iv new, augStore ix ov iv new = (do holding [new, ov, iv] (setItem ov iv new); release [new, ov, iv] []; pure .next)) :
    PS X (.AugAssign (.Subscript (.Name x px) ix tp) (augOp o) e pos) (tS g [] fun ρ => if !isOwn (ρ.get i) then none else do
    let (k, ρ) ← fx ρ
    match ρ.get i, k with
    | .own ds, .v (.int k) => do
      let x ← atI ds k
      let (y, ρ) ← fe ρ
      let y ← y.val
      let d ← aug2 o x y
      match ρ.get i with
      | .own ds => match ixN ds.length k with
        | some j => some (.next, ρ.put i (.own (ds.set j d)))
        | none => none
      | _ => none
    | _, _ => none) := PS.of (ps_augS (pe_var hN hv hd hcd) hx get_list he (ip_aug o) set_list ha) fun Dn σ H l ⟨Z, ow, ρ, fl, ρ2, r, e, k⟩ => by
  dsimp only at e
  split at e
  · cases e
  rename_i ho
  obtain ⟨ds0, ho⟩ := own_of ho
  simp only [bindS] at e
  obtain ⟨⟨hk, ρ1⟩, e1, e3⟩ := e
  obtain ⟨a, xs, q1, q2, _, _⟩ := own_val r ho
  refine ⟨.ref a, q1, Z, ow, ρ, hk, ρ1, r, e1, fun v1 H1 l1 p1' => ?_⟩
  have p1 := pst_of p1'
  split at e3
  · rename_i ds kk hg hh
    dsimp only at hg hh
    subst hh
    simp only [bindS] at e3
    obtain ⟨x0, e4, ⟨hy, ρ3⟩, e5, y0, e6, d, e7, e8⟩ := e3
    have q := p1.rep
    cases q
    obtain ⟨ys, g1, g2, g3⟩ := get_ref p1.rel hg q1
    obtain ⟨i1, j1, k1, rfl, rfl, rfl⟩ := aug2_int e7
    obtain ⟨w, f1, f2⟩ := atI_get g3 e4
    cases f2
    refine ⟨a, ys, kk, _, rfl, rfl, g1, f1, Z, ow, ρ1, hy, ρ3, p1.rel, e5, fun v2 H2 l2 p2' => ?_⟩
    have p2 := pst_of p2'
    have pv := p2.rep.val e6
    cases pv
    refine ⟨i1, j1, k1, rfl, rfl, e7, ?_⟩
    split at e8
    · rename_i ds2 hg2
      split at e8
      · rename_i j hj
        cases e8
        have hg2' : ρ3.get i = .own ds2 := hg2
        obtain ⟨zs, b1, b2, b3⟩ := get_ref p2.rel hg2' q1
        obtain ⟨r2, f2, _⟩ := p2.rel.chg hg2' q1 (b3.set j (.int k1))
        refine ⟨a, zs, kk, j, rfl, rfl, b1, by rw [b2]; exact hj, fun l3 => ?_⟩
        exact k ow σ _ (hK ▸ l3) ((p1.fr.stp p1.rel).trans ((p2.fr.stp p2.rel).trans (f2.stp r2))) r2 fun j _ => rfl
      · cases e8
    · cases e8
  · cases e3
/-! ### a, b = x, y -/
def parB (sc : Scope) (x y : PySem.Str) (px py : Pos) (a b : Expr) : Bool :=
  (sc.kind == .function) && decide (sc.names.lookup x = some .local) && decide (sc.names.lookup y = some .local) && (px.line == py.line) && decide (x ≠ y) && plain a && plain b && !(foldedForSure 8 a && foldedForSure 8 b) && !(constantsAlone 8 a && constantsAlone 8 b)
theorem star_no : ∀ a : Expr, plain a = true → (match a with | .Starred .. => true | _ => false) = false := fun a h => by cases a <;> first | rfl | cases h
theorem par_swap {env : PySem.Env} {px py pt : Pos} {kt k2 : Nat} {pt2 : Pos} (h : parB env.scope x y px py a b = true) : swappedStores [.Tuple [.Name x px, .Name y py] kt pt] (.Tuple [a, b] k2 pt2) env = pure (some [x, y]) := by
  unfold parB at h
  simp only [Bool.and_eq_true, decide_eq_true_eq, beq_iff_eq, Bool.not_eq_true'] at h
  obtain ⟨⟨⟨⟨⟨⟨⟨⟨h1, h2⟩, h3⟩, h4⟩, h5⟩, h6⟩, h7⟩, h8⟩, h9⟩ := h
  have h1 : env.scope.kind = .function := by
    cases q : env.scope.kind <;> rw [q] at h1 <;> first | rfl | cases h1
  have hb : env.blockKind = .function := by unfold Env.blockKind; rw [h1]; rfl
  have kx : env.kindOf x = some .local := h2
  have ky : env.kindOf y = some .local := h3
  have pa := star_no a h6
  have pb := star_no b h7
  have ed : ([x, y] : List PySem.Str).eraseDups.length = 2 := by
    have : (y == x) = false := by simp; exact fun q => h5 q.symm
    simp [List.eraseDups_cons, this, h5, Ne.symm h5]
  have kk : ((some NameKind.local : Option NameKind) == some .local) = true := by decide
  unfold swappedStores
  simp only [List.length_cons, List.length_nil, hb, List.any_cons, List.any_nil, pa, pb, List.head?_cons, Option.map_some, Option.getD_some, Expr.pos, List.filterMap_cons, List.filterMap_nil, kx, ky, kk, beq_self_eq_true, h4, Bool.and_self, if_true, ed, List.all_cons, List.all_nil, Bool.and_true, h8, h9]
  clear h8 h9 pa pb
  cases a <;> first | (cases h6; done) | (cases b <;> first | (cases h7; done) | rfl)
theorem or2_add {Z ow : Addr → Bool} {p : Addr} : Or2 (add Z p) ow = Or2 Z (add ow p) := by
  funext c
  simp only [Or2, add]
  cases Z c <;> cases ow c <;> simp
/-- a hidden list is given to slot i -/
theorem Rel.claim {Z ow : Addr → Bool} {σ : L2.St} {H : Hp} {ρ : Env} {p : Addr} {xs : List V} {ds : List D} (r : Rel g (add Z p) ow σ H ρ) (hp : H p = some (.lst xs)) (zb : Z g.ba = true ∧ Z g.bc = true) (zp : Z p = false) (op : ow p = false) (h : RepL g (hid (Or2 (add Z p) ow) H) xs ds) (i : Nat) :
    Rel g Z (add ow p) (σ.set i (some (.ref p))) H (ρ.put i (.own ds)) := by
  have no : ∀ k' es' b', ρ.get k' = Slot.own es' → σ[k']? = some (some (.ref b')) → b' ≠ p := fun k' es' b' q' e' => by
    obtain ⟨c, zs, e1, e2, e3, _⟩ := r.own k' es' q'
    rw [e'] at e1; cases e1
    rintro rfl
    rw [op] at e3; cases e3
  rw [or2_add] at h
  refine ⟨by rw [List.length_set, put_len]; exact r.len, fun j e q => ?_, fun j es q => ?_, fun j k es fs b q1 q2 q3 q4 => ?_, by rw [← or2_add]; exact r.dom, fun c z => ?_, r.box, zb⟩
  · rw [get_put] at q
    split at q
    · cases q
    · rename_i c
      obtain ⟨w, e1, e2⟩ := r.val j e q
      refine ⟨w, ?_, by rw [← or2_add]; exact e2⟩
      rw [List.getElem?_set_ne]
      · exact e1
      · rintro rfl; exact c ⟨rfl, get_lt (by rw [q]; intro z; cases z)⟩
  · rw [get_put] at q
    split at q
    · rename_i c
      cases q
      obtain ⟨rfl, c⟩ := c
      exact ⟨p, xs, by rw [List.getElem?_set_self (by rw [r.len]; exact c)], hp, by simp [add], h⟩
    · rename_i c
      obtain ⟨b, zs, e1, e2, e3, e4⟩ := r.own j es q
      refine ⟨b, zs, ?_, e2, by simp [add, e3], by rw [← or2_add]; exact e4⟩
      rw [List.getElem?_set_ne]
      · exact e1
      · rintro rfl; exact c ⟨rfl, get_lt (by rw [q]; intro z; cases z)⟩
  · rw [get_put] at q1 q2
    by_cases c1 : i = j ∧ i < ρ.sl.length
    · by_cases c2 : i = k ∧ i < ρ.sl.length
      · exact c1.1.symm.trans c2.1
      · rw [if_neg c2] at q2
        have n2 : i ≠ k := by rintro rfl; exact c2 ⟨rfl, c1.2⟩
        rw [List.getElem?_set_ne n2] at q4
        obtain ⟨rfl, c1⟩ := c1
        rw [List.getElem?_set_self (by rw [r.len]; exact c1)] at q3
        cases q3
        exact absurd rfl (no _ _ _ q2 q4)
    · rw [if_neg c1] at q1
      have n1 : i ≠ j := by rintro rfl; exact c1 ⟨rfl, get_lt (by rw [q1]; intro z; cases z)⟩
      rw [List.getElem?_set_ne n1] at q3
      by_cases c2 : i = k ∧ i < ρ.sl.length
      · obtain ⟨rfl, c2⟩ := c2
        rw [List.getElem?_set_self (by rw [r.len]; exact c2)] at q4
        cases q4
        exact absurd rfl (no _ _ _ q1 q3)
      · rw [if_neg c2] at q2
        have n2 : i ≠ k := by rintro rfl; exact c2 ⟨rfl, get_lt (by rw [q2]; intro z; cases z)⟩
        rw [List.getElem?_set_ne n2] at q4
        exact r.sep j k es fs b q1 q2 q3 q4
  · by_cases e : c = p
    · subst e; exact zp
    · have := r.dis c (by simpa [add, e] using z)
      simpa [add, e] using this
/-- a value made, its place hidden if it is a new list that a slot is to own -/
theorem half {n nw : Bool} {fe : Ev} {σ : L2.St} {H : Hp} {Z ow : Addr → Bool} {ρ ρ1 : Env} {h : Hd} {d : D} {Q : V → Hp → Prop} (hn : nw = true → n = true) (r : Rel g Z ow σ H ρ) (e : fe ρ = some (h, ρ1)) (ed : h.val = some d)
    (k : ∀ v H1 Z1 ow1, LenOk g.K H1 → Stp g ow H ow1 H1 → Rel g Z1 ow σ H1 ρ1 → (nw = false → Z1 = Z ∧ ow1 = ow ∧ Rep g (hid (Or2 Z ow) H1) v d) →
      (nw = true → ∃ p xs ds, d = .lst ds ∧ v = .ref p ∧ H1 p = some (.lst xs) ∧ Z1 = add Z p ∧ ow1 = add ow p ∧ H p = none ∧ Z p = false ∧ ow p = false ∧ p ≠ g.ba ∧ p ≠ g.bc ∧ RepL g (hid (Or2 Z1 ow) H1) xs ds) → Q v H1) : tE g n fe σ H Q := by
  refine ⟨Z, ow, ρ, h, ρ1, r, e, fun v H1 l1 p1 => ?_⟩
  cases nw with
  | false =>
    have p := pst_of p1
    exact k v H1 Z ow l1 (p.fr.stp p.rel) p.rel (fun _ => ⟨rfl, rfl, p.rep.val ed⟩) fun z => nomatch z
  | true =>
    obtain rfl := hn rfl
    rw [if_pos rfl] at p1
    obtain ⟨H0, p, xs, ds, rfl, rfl, hp, rfl, r0, q, f⟩ := p1.ex
    cases ed
    have dm := r0.dom.not hp
    simp only [Or2, Bool.or_eq_false_iff] at dm
    have hp0 : H p = none := by
      cases c : H p with
      | none => rfl
      | some o =>
        by_cases z : ow p = true
        · rw [dm.2] at z; cases z
        · by_cases z1 : p = g.ba
          · rw [z1, r0.box.1] at hp; cases hp
          · by_cases z2 : p = g.bc
            · rw [z2, r0.box.2.1] at hp; cases hp
            · rw [f p o c (by simpa using z) z1 z2] at hp; cases hp
    have n1 : p ≠ g.ba := by rintro rfl; rw [r0.box.1] at hp; cases hp
    have n2 : p ≠ g.bc := by rintro rfl; rw [r0.box.2.1] at hp; cases hp
    obtain ⟨_, s2⟩ := r0.new hp q 0
    refine k _ _ (add Z p) (add ow p) l1 ((f.stp r0).trans s2) (r0.hide hp xs) (fun z => nomatch z) fun _ => ⟨p, xs, ds, rfl, rfl, upd_same, rfl, rfl, hp0, dm.1, dm.2, n1, n2, ?_⟩
    rw [hid_upd (by simp [Or2, add])]
    refine RepL.mono (fun c o e => ?_) q
    obtain ⟨z, e⟩ := hid_some e
    have nc : c ≠ p := ne_of_none e hp
    exact hid_of (by simpa [Or2, add, nc] using z) e
theorem Rel.len_eq {Z ow : Addr → Bool} {σ : L2.St} {H : Hp} {ρ : Env} (r : Rel g Z ow σ H ρ) : σ.length = ρ.sl.length := r.len
theorem put_same {ρ : Env} {s : Slot} : (ρ.put i s).bx = ρ.bx := rfl
/-- where slot i takes what half has made -/
theorem take_half {nw : Bool} {σ : L2.St} {H1 : Hp} {Z ow Z1 ow1 : Addr → Bool} {ρ ρ2 : Env} {d : D} {v : V} (hi : newPut nw i d ρ = some ρ2) (r : Rel g Z1 ow σ H1 ρ) (zb : Z g.ba = true ∧ Z g.bc = true)
    (h1 : nw = false → Z1 = Z ∧ ow1 = ow ∧ Rep g (hid (Or2 Z ow) H1) v d)
    (h2 : nw = true → ∃ p xs ds, d = .lst ds ∧ v = .ref p ∧ H1 p = some (.lst xs) ∧ Z1 = add Z p ∧ ow1 = add ow p ∧ Z p = false ∧ ow p = false ∧ RepL g (hid (Or2 Z1 ow) H1) xs ds) : Rel g Z ow1 (σ.set i (some v)) H1 ρ2 := by
  cases nw with
  | false =>
    cases hi
    obtain ⟨rfl, rfl, h⟩ := h1 rfl
    exact r.put h
  | true =>
    obtain ⟨p, xs, ds, rfl, rfl, a1, rfl, rfl, a2, a3, a4⟩ := h2 rfl
    cases hi
    exact r.claim a1 zb a2 a3 a4 i
theorem put_comm {ρ : Env} {s t : Slot} {i j : Nat} (h : i ≠ j) : (ρ.put i s).put j t = (ρ.put j t).put i s := by
  unfold Env.put
  simp only [Env.mk.injEq, and_true]
  exact List.set_comm _ _ h
theorem newPut_swap {ni nj : Bool} {dx dy : D} {ρ3 ρ4 ρ5 : Env} (h : i ≠ j) (e5 : newPut ni i dx ρ3 = some ρ4) (e6 : newPut nj j dy ρ4 = some ρ5) : ∃ ρj, newPut nj j dy ρ3 = some ρj ∧ ∃ ρij, newPut ni i dx ρj = some ρij ∧ ρij = ρ5 := by
  cases ni with
  | false =>
    cases e5
    cases nj with
    | false => cases e6; exact ⟨_, rfl, _, rfl, (put_comm h).symm⟩
    | true => cases dy <;> cases e6; exact ⟨_, rfl, _, rfl, (put_comm h).symm⟩
  | true =>
    cases dx <;> cases e5
    cases nj with
    | false => cases e6; exact ⟨_, rfl, _, rfl, (put_comm h).symm⟩
    | true => cases dy <;> cases e6; exact ⟨_, rfl, _, rfl, (put_comm h).symm⟩
theorem ds_par {ni nj : Bool} {pt : Pos} {kt k2 : Nat} {pt2 : Pos} (hK : X.K = g.K) (hc : X.calm = true) (hN : X.N.Nodup) (hi : X.N[i]? = some x) (hj : X.N[j]? = some y) (hij : i ≠ j) (hb : parB X.env.scope x y px py a b = true) (hn : ni = true → na = true) (hm : nj = true → nb = true)
    (ha : PE X a (tE g na fa)) (hbb : PE X b (tE g nb fb)) : PS X (.Assign [.Tuple [.Name x px, .Name y py] kt pt] (.Tuple [a, b] k2 pt2) pos) (tS g [i, j] fun ρ => do
    let (x, ρ) ← fa ρ
    let (y, ρ) ← fb ρ
    let x ← x.val
    let y ← y.val
    let ρ ← newPut ni i x ρ
    let ρ ← newPut nj j y ρ
    some (.next, ρ)) := by
  have hb' := hb
  unfold parB at hb'
  simp only [Bool.and_eq_true, decide_eq_true_eq] at hb'
  obtain ⟨⟨⟨⟨⟨⟨⟨⟨_, h2⟩, h3⟩, _⟩, _⟩, h6⟩, h7⟩, _⟩, _⟩ := hb'
  refine PS.of (ps_par hc hN hi hj hij h2 h3 (pa_cons ha (pa_cons hbb pa_nil (star_plain h7)) (star_plain h6)) (par_swap hb)) fun Dn σ H l ⟨Z, ow, ρ, fl, ρ2, r, e, k⟩ => ?_
  simp only [bindS] at e
  obtain ⟨⟨hx, ρ1⟩, e1, ⟨hy, ρ3⟩, e2, dx, e3, dy, e4, ρ4, e5, ρ5, e6, e7⟩ := e
  cases e7
  refine half (nw := ni) (fe := fa) hn r e1 e3 fun v1 H1 Z1 ow1 l1 s1 r1 a1 a2 => ?_
  have zb1 : Z1 g.ba = true ∧ Z1 g.bc = true := r1.zb
  refine half (nw := nj) (fe := fb) hm r1 e2 e4 fun v2 H2 Z2 ow2 l2 s2 r2 b1 b2 => ?_
  refine ⟨v1, v2, rfl, fun l3 => ?_⟩
  have see := s2.hid zb1
  -- the second half is given to slot j
  obtain ⟨ρj, ej, ρij, eij, hρ⟩ := newPut_swap hij e5 e6
  have t1 : Rel g Z1 ow2 (σ.set j (some v2)) H2 ρj := take_half ej r2 zb1 (fun z => b1 z) fun z => by
    obtain ⟨p, xs, ds, q1, q2, q3, q4, q5, q6, q7, q8, q9, q10, q11⟩ := b2 z
    exact ⟨p, xs, ds, q1, q2, q3, q4, q5, q7, q8, q11⟩
  have base : ∀ {ow'}, (ni = false → ow' = ow2) → (ni = true → ∃ p, ow' = add ow2 p ∧ H p = none) → Stp g ow H ow' H2 := fun {ow'} g1 g2 => by
    refine ⟨fun c o e z n1 n2 => s2.fr c o (s1.fr c o e z n1 n2) z n1 n2, fun bb h => ?_, fun bb h => s2.tr bb (s1.tr bb h)⟩
    have old : ow2 bb = true → ow bb = true ∨ H bb = none := fun h => by
      rcases s2.gr bb h with z | z
      · exact .inl z
      · cases q : H bb with
        | none => exact .inr rfl
        | some o => exact absurd z (s1.tr bb (by rw [q]; intro z; cases z))
    cases ni with
    | false => rw [g1 rfl] at h; exact old h
    | true =>
      obtain ⟨p, q1, q2⟩ := g2 rfl
      rw [q1] at h
      by_cases e : bb = p
      · subst e; exact .inr q2
      · exact old (by simpa [add, e] using h)
  have ag : ∀ j', j' ∉ [i, j] → ((σ.set i (some v1)).set j (some v2))[j']? = σ[j']? := fun j' hj' => by
    simp only [List.mem_cons, List.not_mem_nil, or_false, not_or] at hj'
    rw [List.getElem?_set_ne (fun q => hj'.2 q.symm), List.getElem?_set_ne (fun q => hj'.1 q.symm)]
  have fin : ∃ ow', Rel g Z ow' ((σ.set j (some v2)).set i (some v1)) H2 ρij ∧ Stp g ow H ow' H2 := by
    cases ni with
    | false =>
      obtain ⟨rfl, rfl, q3⟩ := a1 rfl
      exact ⟨ow2, take_half (nw := false) eij t1 r.zb (fun _ => ⟨rfl, rfl, q3.mono see⟩) (fun z => nomatch z), base (fun _ => rfl) fun z => nomatch z⟩
    | true =>
      obtain ⟨p, xs, ds, rfl, rfl, q3, rfl, rfl, q6, q7, q8, q9, q10, q11⟩ := a2 rfl
      have p2 : ow2 p = false := by
        cases q : ow2 p with
        | false => rfl
        | true =>
          rcases s2.gr p q with z | z
          · rw [q8] at z; cases z
          · rw [q3] at z; cases z
      exact ⟨add ow2 p, take_half (nw := true) (Z := Z) eij t1 r.zb (fun z => nomatch z) (fun _ => ⟨p, xs, ds, rfl, rfl, s2.fr p _ q3 q8 q9 q10, rfl, rfl, q7, p2, RepL.mono see q11⟩), base (fun z => nomatch z) fun _ => ⟨p, rfl, q6⟩⟩
  obtain ⟨ow', f1, f2⟩ := fin
  rw [hρ] at f1
  rw [List.set_comm _ _ (fun q => hij q.symm)] at f1
  exact k ow' _ H2 l2 f2 f1 ag
/-! ### a, b, c = x, y, z -/
def parB3 (sc : Scope) (x y z : PySem.Str) (px py pz : Pos) (a b c : Expr) : Bool :=
  (sc.kind == .function) && decide (sc.names.lookup x = some .local) && decide (sc.names.lookup y = some .local) && decide (sc.names.lookup z = some .local) && (px.line == py.line) && (px.line == pz.line) && decide (x ≠ y) && decide (x ≠ z) && decide (y ≠ z) && plain a && plain b && plain c && !(foldedForSure 8 a && foldedForSure 8 b && foldedForSure 8 c) && !(constantsAlone 8 a && constantsAlone 8 b && constantsAlone 8 c)
theorem par_swap3 {env : PySem.Env} {z : PySem.Str} {px py pz pt : Pos} {kt k2 : Nat} {pt2 : Pos} (h : parB3 env.scope x y z px py pz a b c = true) : swappedStores [.Tuple [.Name x px, .Name y py, .Name z pz] kt pt] (.Tuple [a, b, c] k2 pt2) env = pure (some [x, y, z]) := by
  unfold parB3 at h
  simp only [Bool.and_eq_true, decide_eq_true_eq, beq_iff_eq, Bool.not_eq_true'] at h
  obtain ⟨⟨⟨⟨⟨⟨⟨⟨⟨⟨⟨⟨⟨h1, h2⟩, h3⟩, h3'⟩, h4⟩, h4'⟩, h5⟩, h5'⟩, h5''⟩, h6⟩, h7⟩, h7'⟩, h8⟩, h9⟩ := h
  have h1 : env.scope.kind = .function := by
    cases q : env.scope.kind <;> rw [q] at h1 <;> first | rfl | cases h1
  have hb : env.blockKind = .function := by unfold Env.blockKind; rw [h1]; rfl
  have kx : env.kindOf x = some .local := h2
  have ky : env.kindOf y = some .local := h3
  have kz : env.kindOf z = some .local := h3'
  have pa := star_no a h6
  have pb := star_no b h7
  have pc := star_no c h7'
  have ed : ([x, y, z] : List PySem.Str).eraseDups.length = 3 := by
    have n1 : (y == x) = false := by simp; exact fun q => h5 q.symm
    have n2 : (z == x) = false := by simp; exact fun q => h5' q.symm
    have n3 : (z == y) = false := by simp; exact fun q => h5'' q.symm
    simp [List.eraseDups_cons, n1, n2, n3, h5, h5', h5'', Ne.symm h5, Ne.symm h5', Ne.symm h5'']
  have kk : ((some NameKind.local : Option NameKind) == some .local) = true := by decide
  have l1 : (py.line == px.line) = true := by rw [← h4]; exact beq_self_eq_true _
  have l2 : (pz.line == px.line) = true := by rw [← h4']; exact beq_self_eq_true _
  unfold swappedStores
  simp only [List.length_cons, List.length_nil, hb, List.any_cons, List.any_nil, pa, pb, pc, List.head?_cons, Option.map_some, Option.getD_some, Expr.pos, List.filterMap_cons, List.filterMap_nil, kx, ky, kz, kk, beq_self_eq_true, l1, l2, ← h4, ← h4', Bool.and_self, if_true, ed, List.all_cons, List.all_nil, Bool.and_true]
  rw [Bool.and_assoc] at h8 h9
  simp only [h8, h9]
  clear h8 h9 pa pb pc
  cases a <;> first | (cases h6; done) | (cases b <;> first | (cases h7; done) | (cases c <;> first | (cases h7'; done) | rfl))
/-- where slot i takes what half has made, some steps later -/
theorem take_late {nw : Bool} {σ : L2.St} {H0 H1 H2 : Hp} {Z ow Z1 ow1 owc : Addr → Bool} {ρ ρ2 : Env} {d : D} {v : V} (hi : newPut nw i d ρ = some ρ2) (r : Rel g Z1 owc σ H2 ρ) (zb : Z g.ba = true ∧ Z g.bc = true)
    (fr : Fr g ow H1 H2) (gr : ∀ b, owc b = true → ow b = true ∨ H1 b = none)
    (h1 : nw = false → Z1 = Z ∧ ow1 = ow ∧ Rep g (hid (Or2 Z ow) H1) v d)
    (h2 : nw = true → ∃ p xs ds, d = .lst ds ∧ v = .ref p ∧ H1 p = some (.lst xs) ∧ Z1 = add Z p ∧ ow1 = add ow p ∧ H0 p = none ∧ Z p = false ∧ ow p = false ∧ p ≠ g.ba ∧ p ≠ g.bc ∧ RepL g (hid (Or2 Z1 ow) H1) xs ds) :
    ∃ owc', Rel g Z owc' (σ.set i (some v)) H2 ρ2 ∧ (owc' = owc ∨ ∃ p, owc' = add owc p ∧ H0 p = none) := by
  have see : ∀ Y : Addr → Bool, (Y g.ba = true ∧ Y g.bc = true) → Same (hid (Or2 Y ow) H1) (hid (Or2 Y owc) H2) := fun Y yb c o e => by
    obtain ⟨z, e⟩ := hid_some e
    have z' : Y c = false ∧ ow c = false := by simpa [Or2] using z
    have w : owc c = false := by
      cases q : owc c with
      | false => rfl
      | true =>
        rcases gr c q with k | k
        · rw [k] at z'; cases z'.2
        · rw [k] at e; cases e
    refine hid_of (by simp [Or2, z'.1, w]) (fr c o e z'.2 ?_ ?_)
    · rintro rfl; rw [yb.1] at z'; cases z'.1
    · rintro rfl; rw [yb.2] at z'; cases z'.1
  cases nw with
  | false =>
    obtain ⟨rfl, rfl, q3⟩ := h1 rfl
    cases hi
    exact ⟨owc, r.put (q3.mono (see _ zb)), .inl rfl⟩
  | true =>
    obtain ⟨p, xs, ds, rfl, rfl, q3, rfl, rfl, q6, q7, q8, q9, q10, q11⟩ := h2 rfl
    cases hi
    have p2 : owc p = false := by
      cases q : owc p with
      | false => rfl
      | true =>
        rcases gr p q with z | z
        · rw [q8] at z; cases z
        · rw [q3] at z; cases z
    have yb : (add Z p) g.ba = true ∧ (add Z p) g.bc = true := ⟨by simp [add, zb.1], by simp [add, zb.2]⟩
    exact ⟨add owc p, r.claim (fr p _ q3 q8 q9 q10) zb q7 p2 (RepL.mono (see _ yb) q11) i, .inr ⟨p, rfl, q6⟩⟩
theorem newPut_put {nw : Bool} {d : D} {ρ ρ2 : Env} {i : Nat} (h : newPut nw i d ρ = some ρ2) : ∃ s, ρ2 = ρ.put i s ∧ ∀ ρ', newPut nw i d ρ' = some (ρ'.put i s) := by
  cases nw with
  | false => cases h; exact ⟨_, rfl, fun _ => rfl⟩
  | true => cases d <;> cases h; exact ⟨_, rfl, fun _ => rfl⟩
theorem ds_par3 {l : Nat} {z : PySem.Str} {pz : Pos} {nc ni nj nl : Bool} {pt : Pos} {kt k2 : Nat} {pt2 : Pos} (hK : X.K = g.K) (hc : X.calm = true) (hN : X.N.Nodup) (hi : X.N[i]? = some x) (hj : X.N[j]? = some y) (hl : X.N[l]? = some z) (hij : i ≠ j) (hil : i ≠ l) (hjl : j ≠ l) (hb : parB3 X.env.scope x y z px py pz a b c = true) (hn : ni = true → na = true) (hm : nj = true → nb = true) (ho : nl = true → nc = true)
    (ha : PE X a (tE g na fa)) (hbb : PE X b (tE g nb fb)) (hcc : PE X c (tE g nc fc)) : PS X (.Assign [.Tuple [.Name x px, .Name y py, .Name z pz] kt pt] (.Tuple [a, b, c] k2 pt2) pos) (tS g [i, j, l] fun ρ => do
    let (x, ρ) ← fa ρ
    let (y, ρ) ← fb ρ
    let (z, ρ) ← fc ρ
    let x ← x.val
    let y ← y.val
    let z ← z.val
    let ρ ← newPut ni i x ρ
    let ρ ← newPut nj j y ρ
    let ρ ← newPut nl l z ρ
    some (.next, ρ)) := by
  have hb' := hb
  unfold parB3 at hb'
  simp only [Bool.and_eq_true, decide_eq_true_eq] at hb'
  obtain ⟨⟨⟨⟨⟨⟨⟨⟨⟨⟨⟨⟨⟨_, h2⟩, h3⟩, h4⟩, _⟩, _⟩, _⟩, _⟩, _⟩, h6⟩, h7⟩, h8⟩, _⟩, _⟩ := hb'
  refine PS.of (ps_par3 hc hN hi hj hl hij hil hjl h2 h3 h4 (pa_cons ha (pa_cons hbb (pa_cons hcc pa_nil (star_plain h8)) (star_plain h7)) (star_plain h6)) (par_swap3 hb)) fun Dn σ H le ⟨Z, ow, ρ, fl, ρ2, r, e, k⟩ => ?_
  simp only [bindS] at e
  obtain ⟨⟨hx, ρ1⟩, e1, ⟨hy, ρ3⟩, e2, ⟨hz, ρ4⟩, e3, dx, e4, dy, e5, dz, e6, ρ5, e7, ρ6, e8, ρ7, e9, e10⟩ := e
  cases e10
  refine half (nw := ni) (fe := fa) hn r e1 e4 fun v1 H1 Z1 ow1 l1 s1 r1 a1 a2 => ?_
  have zb1 : Z1 g.ba = true ∧ Z1 g.bc = true := r1.zb
  refine half (nw := nj) (fe := fb) hm r1 e2 e5 fun v2 H2 Z2 ow2 l2 s2 r2 b1 b2 => ?_
  have zb2 : Z2 g.ba = true ∧ Z2 g.bc = true := r2.zb
  refine half (nw := nl) (fe := fc) ho r2 e3 e6 fun v3 H3 Z3 ow3 l3 s3 r3 c1 c2 => ?_
  refine ⟨v1, v2, v3, rfl, fun l4 => ?_⟩
  obtain ⟨t1, q1, p1⟩ := newPut_put e7
  obtain ⟨t2, q2, p2⟩ := newPut_put e8
  obtain ⟨t3, q3, p3⟩ := newPut_put e9
  have hfin : ((ρ4.put l t3).put j t2).put i t1 = ρ2 := by
    rw [q3, q2, q1]
    rw [put_comm (Ne.symm hjl), put_comm (Ne.symm hil), put_comm (Ne.symm hij)]
  obtain ⟨owl, w1, w2⟩ := take_late (owc := ow) (H2 := H3) (p3 ρ4) r3 zb2 .refl (fun b h => .inl h) c1 c2
  have gl : ∀ b, owl b = true → ow b = true ∨ H2 b = none := fun b h => by
    rcases w2 with rfl | ⟨p, rfl, hp⟩
    · exact .inl h
    · by_cases q : b = p
      · subst q; exact .inr hp
      · exact .inl (by simpa [add, q] using h)
  obtain ⟨owj, w3, w4⟩ := take_late (owc := owl) (H2 := H3) (p2 _) w1 zb1 s3.fr gl b1 b2
  have g2 : ∀ b, owl b = true → ow b = true ∨ H1 b = none := fun b h => (gl b h).imp id fun z => Classical.byContradiction fun q => s2.tr b q z
  have gj : ∀ b, owj b = true → ow b = true ∨ H1 b = none := fun b h => by
    rcases w4 with rfl | ⟨p, rfl, hp⟩
    · exact g2 b h
    · by_cases q : b = p
      · subst q; exact .inr hp
      · exact g2 b (by simpa [add, q] using h)
  obtain ⟨owi, w5, w6⟩ := take_late (owc := owj) (H2 := H3) (p1 _) w3 r.zb (s2.fr.trans s3.fr) gj a1 a2
  have g3 : ∀ b, owj b = true → ow b = true ∨ H b = none := fun b h => (gj b h).imp id fun z => Classical.byContradiction fun q => s1.tr b q z
  have gi : ∀ b, owi b = true → ow b = true ∨ H b = none := fun b h => by
    rcases w6 with rfl | ⟨p, rfl, hp⟩
    · exact g3 b h
    · by_cases q : b = p
      · subst q; exact .inr hp
      · exact g3 b (by simpa [add, q] using h)
  rw [hfin] at w5
  rw [List.set_comm _ _ (Ne.symm hjl), List.set_comm _ _ (Ne.symm hil), List.set_comm _ _ (Ne.symm hij)] at w5
  refine k owi _ H3 l3 ⟨(s1.fr.trans s2.fr).trans s3.fr, gi, fun b h => s3.tr b (s2.tr b (s1.tr b h))⟩ w5 fun j' hj' => ?_
  simp only [List.mem_cons, List.not_mem_nil, or_false, not_or] at hj'
  rw [List.getElem?_set_ne (fun q => hj'.2.2 q.symm), List.getElem?_set_ne (fun q => hj'.2.1 q.symm), List.getElem?_set_ne (fun q => hj'.1 q.symm)]
/-! ### dead code -/
theorem de_no {n : Bool} : PE X e (tE g n fun _ => none) := ⟨fun pins s σ H Q I ⟨Z, ow, ρ, h, ρ', r, e, k⟩ => nomatch e⟩
theorem dt_no : PT X e (tTs g fun _ => none) := ⟨fun pins s σ H Q I ⟨Z, ow, ρ, h, ρ', r, e, k⟩ => nomatch e⟩
theorem dw_no : PW X e (tTs g fun _ => none) := ⟨fun whole pins s σ H Q I ⟨Z, ow, ρ, h, ρ', r, e, k⟩ => nomatch e⟩
theorem ds_no {st : Stmt} {vs : List Nat} : PS X st (tS g vs fun _ => none) := ⟨fun pins s σ H Dn I ⟨Z, ow, ρ, fl, ρ2, r, e, k⟩ => nomatch e⟩
/-! ### [..] * n -/
theorem de_rep {es : List Expr} {fs : Env → Option (List Hd × Env)} {p1 : Pos} (hK : X.K = g.K) (hs : PA X es (tAs g fs)) (hb : PE X b (tE g nb fb)) (hz : es.length ≤ 1000) (hl : ∀ ρ hs ρ', fs ρ = some (hs, ρ') → hs.length = es.length) : PE X (.BinOp (.List es p1) .Mult b pos) (tE g true fun ρ => do
    let (hs, ρ) ← fs ρ
    let ds ← valL hs
    let (y, ρ) ← fb ρ
    match y with
    | .v (.int k) => if -(2 ^ 63) ≤ k ∧ k < 2 ^ 63 ∧ ds.length * k.toNat ≤ line then some (.v (.lst (List.replicate k.toNat ds).flatten), ρ) else none
    | _ => none) := PE.of (pe_op op_rep (pe_lst hs) (de_old hb)) fun σ H Q l ⟨Z, ow, ρ, h, ρ', r, e, k⟩ => by
  simp only [bindS] at e
  obtain ⟨⟨hs', ρ1⟩, e1, ds, e2, ⟨y, ρ2⟩, e3, e4⟩ := e
  refine ⟨Z, ow, ρ, hs', ρ1, r, e1, fun vs H1 l1 f1 r1 q1 => ?_⟩
  have q := q1.val e2
  have hlen : vs.length = hs'.length := q1.length
  have h1 := hl _ _ _ e1
  have h2 : (1000 : Nat) < sizeLine := by rw [sizeLine_eq]; decide
  refine ⟨by omega, fun p hp => ?_⟩
  have s1 := same_upd (o := .lst vs) hp
  refine ⟨Z, ow, ρ1, y, ρ2, r1.ext s1, e3, fun v2 H2 l2 p2 => ?_⟩
  rw [if_neg (by decide)] at p2
  have n1 : p ≠ g.ba := by rintro rfl; rw [r1.box.1] at hp; cases hp
  have n2 : p ≠ g.bc := by rintro rfl; rw [r1.box.2.1] at hp; cases hp
  have po : ow p = false := by
    cases z : ow p with
    | false => rfl
    | true => exact absurd hp (r1.dom p (by simp [Or2, z]))
  have hp2 : H2 p = some (.lst vs) := p2.fr p _ upd_same po n1 n2
  have q2 : RepL g (hid (Or2 Z ow) H2) vs ds := RepL.mono (((Fr.of_same s1).trans p2.fr).hid r.zb) q
  match y, e4, p2 with
  | .v (.int n), e4, p2 =>
    dsimp only at e4
    split at e4
    · rename_i hn
      cases e4
      have p3 := p2.rep
      cases p3
      refine ⟨p, n, vs, rfl, rfl, hp2, hn.1, hn.2.1, by rw [q2.length]; exact hn.2.2, fun t ht lt => k _ _ (hK ▸ lt) ?_⟩
      rw [if_pos rfl]
      exact ⟨⟨H2, t, _, _, rfl, rfl, ht, rfl, p2.rel, q2.rep _, (f1.trans (.of_same s1)).trans p2.fr⟩⟩
    · cases e4
/-! ### index, count -/
theorem pyL_findIdx {a : D} (ha : a.pl = true) : ∀ {ys : List D}, D.plL ys = true → (D.pyL ys).findIdx? (fun z => PyData.eqv z a.py) = ys.findIdx? fun y => y.eqv a
  | [], _ => rfl
  | y :: ys, h => by
    simp only [D.plL, Bool.and_eq_true] at h
    show List.findIdx? _ (y.py :: D.pyL ys) = _
    rw [List.findIdx?_cons, List.findIdx?_cons, eqv_py y a h.1 ha, pyL_findIdx ha h.2]
theorem pyL_countP {a : D} (ha : a.pl = true) : ∀ {ys : List D}, D.plL ys = true → (D.pyL ys).countP (fun z => PyData.eqv z a.py) = ys.countP fun y => y.eqv a
  | [], _ => rfl
  | y :: ys, h => by
    simp only [D.plL, Bool.and_eq_true] at h
    show List.countP _ (y.py :: D.pyL ys) = _
    rw [List.countP_cons, List.countP_cons, eqv_py y a h.1 ha, pyL_countP ha h.2]
theorem mf_end {m : Mf} (hm : mfOk m = true) {tup : Bool} {p : Addr} {ws : List V} {y : V} {xs : List D} {b d : D} {H : Hp} {Y : Addr → Bool} {Q : VK} {K : PySem.W.Frag} (hK : K = g.K) (hq : if tup = true then SqT K H p ws else SqL K H p ws) (hr : RepL g (hid Y H) ws xs) (hy : RepP g Y H y b)
    (e : mfn m (if tup = true then .tup xs else .lst xs) [b] = some d) (k : ∀ i : Int, d = .int i → Q (.int i) H) : rMf K tup m (.ref p) [y] H Q := by
  subst hK
  have hc : ((D.lst xs).cmpb && b.cmpb) = true := by
    cases m <;> first | (cases hm; done) | skip
    all_goals
      cases tup <;> simp [mfn] at e <;> simp [e.1]
  simp only [Bool.and_eq_true] at hc
  obtain ⟨p1, s1⟩ := shaped_py hc.1
  obtain ⟨p2, s2⟩ := shaped_py hc.2
  have p1' : D.plL xs = true := p1
  have da : DpAll g.K H ws (D.pyL xs) := RepL.dp (RepL.mono hid_le hr) p1'
  have dy := hy.dp p2
  cases m <;> first | (cases hm; done) | skip
  · have e' : (xs.findIdx? fun y => y.eqv b).map (fun j : Nat => D.int (j : Int)) = some d := by
      cases tup <;> simp [mfn, hc] at e ⊢ <;> exact e
    simp only [Option.map_eq_some_iff] at e'
    obtain ⟨j, e1, rfl⟩ := e'
    exact ⟨p, ws, y, _, _, j, rfl, rfl, hq, da, dy, s1, s2, by rw [pyL_findIdx p2 p1']; exact e1, k _ rfl⟩
  · have e' : some (D.int (xs.countP fun y => y.eqv b : Nat)) = some d := by
      cases tup <;> simp [mfn, hc] at e ⊢ <;> exact e
    cases e'
    refine ⟨p, ws, y, _, _, rfl, rfl, hq, da, dy, s1, s2, ?_⟩
    rw [pyL_countP p2 p1']
    exact k _ rfl
theorem de_mf {m : Mf} {apos cpos : Pos} (hK : X.K = g.K) (hm : mfOk m = true) (hu : X.A.units + 65 < cLine) (ha : PE X a (tE g na fa)) (hb : PE X b (tE g nb fb)) (hp : plain b = true)
    (hbase : attributeBase a (mfName m) X.env (eval a X.env) = eval a X.env) (hline : (apos.endLine == cpos.line) = true) : PE X (.Call (.Attribute a (mfName m) apos) [b] [] cpos) (tE g false fun ρ => do
    let (x, ρ) ← fa ρ
    let _ ← x.at ρ
    let (y, ρ) ← fb ρ
    let x ← x.at ρ
    let y ← y.at ρ
    let d ← mfn m x [y]
    some (.v d, ρ)) := PE.of (pe_mf hm hu (de_old ha) (da_cons hK hb (da_nil hK) hp) hbase (few_plain hp) hline (star_plain hp)) fun σ H Q l ⟨Z, ow, ρ, h, ρ', r, e, k⟩ => by
  simp only [bindS] at e
  obtain ⟨⟨hx, ρ1⟩, e1, d0, e2, ⟨hy, ρ2⟩, e3, x, e4, y, e5, d, e6, e7⟩ := e
  cases e7
  refine ⟨Z, ow, ρ, hx, ρ1, r, e1, fun v1 H1 l1 p1 => ?_⟩
  rw [if_neg (by decide)] at p1
  have q1 := p1.rep.at p1.rel e2
  have kind : (∃ xs0 xs, d0 = .lst xs0 ∧ x = .lst xs) ∨ ∃ xs, d0 = .tup xs ∧ x = .tup xs := by
    have hx2 : (∃ xs, x = .lst xs) ∨ ∃ xs, x = .tup xs := by
      cases m <;> first | (cases hm; done) | skip
      all_goals
        cases x <;> first | exact .inl ⟨_, rfl⟩ | exact .inr ⟨_, rfl⟩ | (cases e6; done)
    cases hx with
    | v dd =>
      cases e2; cases e4
      rcases hx2 with ⟨xs, rfl⟩ | ⟨xs, rfl⟩
      · exact .inl ⟨_, _, rfl, rfl⟩
      · exact .inr ⟨_, rfl, rfl⟩
    | p i =>
      simp only [Hd.at] at e2 e4
      split at e2
      · split at e4
        · cases e2; cases e4; exact .inl ⟨_, _, rfl, rfl⟩
        · cases e4
      · cases e2
  have args : ∀ {Q' : List V → Hp → Prop}, (∀ v2 H2, LenOk g.K H2 → Fr g ow H1 H2 → Rel g Z ow σ H2 ρ2 → HRep g Z ow σ H2 v2 hy → Q' [v2] H2) → tAs g (fun ρ => do
      let (h, ρ) ← fb ρ
      let (hs, ρ) ← (fun ρ => some ([], ρ)) ρ
      some (h :: hs, ρ)) σ H1 Q' := by
    intro Q' kk
    refine ⟨Z, ow, ρ1, [hy], ρ2, p1.rel, by simp only [bindS]; exact ⟨_, e3, _, rfl, rfl⟩, fun vs H2 l2 f2 r2 q2 => ?_⟩
    cases q2 with
    | cons q q' => cases q'; exact kk _ _ l2 f2 r2 q
  rcases kind with ⟨xs0, xs, rfl, rfl⟩ | ⟨xs, rfl, rfl⟩
  · obtain ⟨p, ws0, rfl, h1, h2⟩ := q1.lst
    refine ⟨false, p, ws0, rfl, by rw [if_neg (by decide)]; exact SqL.of h1, args fun v2 H2 l2 f2 r2 q2 => ?_⟩
    obtain ⟨p', ws, ep, g1, g2⟩ := ((p1.rep.fr f2 r.zb).at r2 e4).lst
    cases ep
    refine mf_end (xs := xs) hm hK (by rw [if_neg (by decide)]; exact SqL.of g1) g2 (q2.at r2 e5) (by rw [if_neg (by decide)]; exact e6) fun i ei l3 => ?_
    subst ei
    exact k _ _ l2 (by rw [if_neg (by decide)]; exact ⟨p1.fr.trans f2, r2, .int _⟩)
  · obtain ⟨p, ws0, rfl, h1, h2⟩ := q1.tup
    refine ⟨true, p, ws0, rfl, by rw [if_pos rfl]; rw [hK]; exact Same.tupS hid_le h1, args fun v2 H2 l2 f2 r2 q2 => ?_⟩
    obtain ⟨p', ws, ep, g1, g2⟩ := ((p1.rep.fr f2 r.zb).at r2 e4).tup
    cases ep
    refine mf_end (xs := xs) hm hK (by rw [if_pos rfl]; exact hK ▸ sqT_hid g1) g2 (q2.at r2 e5) (by rw [if_pos rfl]; exact e6) fun i ei l3 => ?_
    subst ei
    exact k _ _ l2 (by rw [if_neg (by decide)]; exact ⟨p1.fr.trans f2, r2, .int _⟩)
/-! ### a, b = x, [] where the names are no fast ones: through the tuple -/
theorem ds_parT {tg : Expr} {x1 : Nat} {pos1 : Pos} (hK : X.K = g.K) (hij : i ≠ j) (hpa : plain a = true) (hpb : plain b = true) (ha : PE X a (tE g na fa)) (hbb : PE X b (tE g true fb)) (hg : PG X tg (gOf g.K [i, j]))
    (hs : swapsWithSole [tg] (.Tuple [a, b] x1 pos1) pos.line X.env = pure false) (hw : swappedStores [tg] (.Tuple [a, b] x1 pos1) X.env = pure none) (h1 : (assignEach [tg] X.env).map (·.2) = [assign tg X.env]) :
    PS X (.Assign [tg] (.Tuple [a, b] x1 pos1) pos) (tS g [i, j] fun ρ => do
    let (x, ρ) ← fa ρ
    let (y, ρ) ← fb ρ
    let x ← x.val
    let y ← y.val
    let ρ ← newPut false i x ρ
    let ρ ← newPut true j y ρ
    some (.next, ρ)) := by
  refine PS.of (ps_asg (st_tup (pa_cons ha (pa_cons hbb pa_nil (star_plain hpb)) (star_plain hpa))) hg hs hw h1) fun Dn σ H l ⟨Z, ow, ρ, fl, ρ2, r, e, k⟩ => ?_
  simp only [bindS] at e
  obtain ⟨⟨hx, ρ1⟩, e1, ⟨hy, ρ3⟩, e2, dx, e3, dy, e4, ρ4, e5, ρ5, e6, e7⟩ := e
  cases e7
  refine half (nw := false) (n := na) (fe := fa) (fun z => nomatch z) r e1 e3 fun v1 H1 Z1 ow1 l1 s1 r1 a1 a2 => ?_
  obtain ⟨rfl, rfl, q1⟩ := a1 rfl
  have zb1 : Z1 g.ba = true ∧ Z1 g.bc = true := r1.zb
  refine half (nw := true) (fe := fb) (fun _ => rfl) r1 e2 e4 fun v2 H2 Z2 ow2 l2 s2 r2 b1 b2 => ?_
  refine ⟨by show 2 ≤ _; rw [sizeLine_eq]; decide, fun p o hp ho => ?_⟩
  have see := s2.hid zb1
  obtain ⟨ρj, ej, ρij, eij, hρ⟩ := newPut_swap hij e5 e6
  have hs3 : Same H2 (upd H2 p (.frz o (.tup [v1, v2]))) := same_upd hp
  have t1 : Rel g Z1 ow2 (σ.set j (some v2)) (upd H2 p (.frz o (.tup [v1, v2]))) ρj := take_half ej (r2.ext hs3) zb1 (fun z => nomatch z) fun z => by
    obtain ⟨p', xs, ds, q1, q2, q3, q4, q5, q6, q7, q8, q9, q10, q11⟩ := b2 z
    exact ⟨p', xs, ds, q1, q2, hs3 _ _ q3, q4, q5, q7, q8, RepL.mono (hid_mono hs3) q11⟩
  cases eij
  have t2 := t1.put (i := i) ((q1.mono see).mono (hid_mono hs3))
  rw [List.set_comm _ _ (fun q => hij q.symm), hρ] at t2
  have ag : ∀ j', j' ∉ [i, j] → ((σ.set i (some v1)).set j (some v2))[j']? = σ[j']? := fun j' hj' => by
    simp only [List.mem_cons, List.not_mem_nil, or_false, not_or] at hj'
    rw [List.getElem?_set_ne (fun q => hj'.2 q.symm), List.getElem?_set_ne (fun q => hj'.1 q.symm)]
  have base : Stp g ow1 H ow2 (upd H2 p (.frz o (.tup [v1, v2]))) := (s1.trans s2).trans ⟨.of_same hs3, fun b h => .inl h, fun b h => by
    cases q : H2 b with
    | none => exact absurd q h
    | some o' => rw [hs3 _ _ q]; intro z; cases z⟩
  exact ⟨_, _, rfl, hK ▸ .inl (.inr ⟨o, upd_same⟩), rfl, v1, _, rfl, v2, _, rfl, rfl, fun l3 => k ow2 _ _ (hK ▸ l3) base t2 ag⟩
theorem ds_parT3 {tg : Expr} {l x1 : Nat} {pos1 : Pos} (hK : X.K = g.K) (hij : i ≠ j) (hil : i ≠ l) (hjl : j ≠ l) (hpa : plain a = true) (hpb : plain b = true) (hpc : plain c = true) (ha : PE X a (tE g na fa)) (hbb : PE X b (tE g nb fb)) (hcc : PE X c (tE g true fc)) (hg : PG X tg (gOf g.K [i, j, l]))
    (hs : swapsWithSole [tg] (.Tuple [a, b, c] x1 pos1) pos.line X.env = pure false) (hw : swappedStores [tg] (.Tuple [a, b, c] x1 pos1) X.env = pure none) (h1 : (assignEach [tg] X.env).map (·.2) = [assign tg X.env]) :
    PS X (.Assign [tg] (.Tuple [a, b, c] x1 pos1) pos) (tS g [i, j, l] fun ρ => do
    let (x, ρ) ← fa ρ
    let (y, ρ) ← fb ρ
    let (z, ρ) ← fc ρ
    let x ← x.val
    let y ← y.val
    let z ← z.val
    let ρ ← newPut false i x ρ
    let ρ ← newPut false j y ρ
    let ρ ← newPut true l z ρ
    some (.next, ρ)) := by
  refine PS.of (ps_asg (st_tup (pa_cons ha (pa_cons hbb (pa_cons hcc pa_nil (star_plain hpc)) (star_plain hpb)) (star_plain hpa))) hg hs hw h1) fun Dn σ H le ⟨Z, ow, ρ, fl, ρ2, r, e, k⟩ => ?_
  simp only [bindS] at e
  obtain ⟨⟨hx, ρ1⟩, e1, ⟨hy, ρ3⟩, e2, ⟨hz, ρ4⟩, e3, dx, e4, dy, e5, dz, e6, ρ5, e7, ρ6, e8, ρ7, e9, e10⟩ := e
  cases e10
  refine half (nw := false) (n := na) (fe := fa) (fun z => nomatch z) r e1 e4 fun v1 H1 Z1 ow1 l1 s1 r1 a1 a2 => ?_
  obtain ⟨rfl, rfl, q1⟩ := a1 rfl
  refine half (nw := false) (n := nb) (fe := fb) (fun z => nomatch z) r1 e2 e5 fun v2 H2 Z2 ow2 l2 s2 r2 b1 b2 => ?_
  obtain ⟨rfl, rfl, q2⟩ := b1 rfl
  have zb1 : Z2 g.ba = true ∧ Z2 g.bc = true := r1.zb
  refine half (nw := true) (fe := fc) (fun _ => rfl) r2 e3 e6 fun v3 H3 Z3 ow3 l3 s3 r3 c1 c2 => ?_
  refine ⟨by show 3 ≤ _; rw [sizeLine_eq]; decide, fun p o hp ho => ?_⟩
  have see1 := s2.hid zb1
  have see2 := s3.hid zb1
  have hs3 : Same H3 (upd H3 p (.frz o (.tup [v1, v2, v3]))) := same_upd hp
  obtain ⟨t, qt, pt⟩ := newPut_put e9
  have t1 : Rel g Z2 ow3 (σ.set l (some v3)) (upd H3 p (.frz o (.tup [v1, v2, v3]))) (ρ4.put l t) := take_half (pt ρ4) (r3.ext hs3) zb1 (fun z => nomatch z) fun z => by
    obtain ⟨p', xs, ds, q1, q2, q3, q4, q5, q6, q7, q8, q9, q10, q11⟩ := c2 z
    exact ⟨p', xs, ds, q1, q2, hs3 _ _ q3, q4, q5, q7, q8, RepL.mono (hid_mono hs3) q11⟩
  cases e7
  cases e8
  have t2 := t1.put (i := j) ((q2.mono see2).mono (hid_mono hs3))
  have t3 := t2.put (i := i) (((q1.mono see1).mono see2).mono (hid_mono hs3))
  rw [put_comm (Ne.symm hjl), put_comm (Ne.symm hil), put_comm (Ne.symm hij), ← qt, List.set_comm _ _ (Ne.symm hjl), List.set_comm _ _ (Ne.symm hil), List.set_comm _ _ (Ne.symm hij)] at t3
  have ag : ∀ j', j' ∉ [i, j, l] → (((σ.set i (some v1)).set j (some v2)).set l (some v3))[j']? = σ[j']? := fun j' hj' => by
    simp only [List.mem_cons, List.not_mem_nil, or_false, not_or] at hj'
    rw [List.getElem?_set_ne (fun q => hj'.2.2 q.symm), List.getElem?_set_ne (fun q => hj'.2.1 q.symm), List.getElem?_set_ne (fun q => hj'.1 q.symm)]
  have base : Stp g ow2 H ow3 (upd H3 p (.frz o (.tup [v1, v2, v3]))) := ((s1.trans s2).trans s3).trans ⟨.of_same hs3, fun b h => .inl h, fun b h => by
    cases q : H3 b with
    | none => exact absurd q h
    | some o' => rw [hs3 _ _ q]; intro z; cases z⟩
  exact ⟨_, _, rfl, hK ▸ .inl (.inr ⟨o, upd_same⟩), rfl, v1, _, rfl, v2, _, rfl, v3, _, rfl, rfl, fun l3 => k ow3 _ _ (hK ▸ l3) base t3 ag⟩
end
end PV

end
section
set_option Elab.async false
set_option linter.all false
set_option maxRecDepth 100000
set_option maxHeartbeats 1000000
/-! DK: which text a word of the small language stands for. -/
namespace PV
open PySem PySem.Spec PyProof.Rows L2
mutual
def D.beq : D → D → Bool
  | .non, .non => true
  | .bl a, .bl b => decide (a = b)
  | .int a, .int b => decide (a = b)
  | .str a, .str b => decide (a = b)
  | .tup a, .tup b => D.beqL a b
  | .lst a, .lst b => D.beqL a b
  | _, _ => false
def D.beqL : List D → List D → Bool
  | [], [] => true
  | x :: xs, y :: ys => D.beq x y && D.beqL xs ys
  | _, _ => false
end
mutual
theorem beq_eq : ∀ a b : D, D.beq a b = true → a = b
  | .non, b, h => by cases b <;> first | rfl | cases h
  | .bl x, b, h => by cases b <;> first | (exact congrArg _ (of_decide_eq_true h)) | cases h
  | .int x, b, h => by cases b <;> first | (exact congrArg _ (of_decide_eq_true h)) | cases h
  | .str x, b, h => by cases b <;> first | (exact congrArg _ (of_decide_eq_true h)) | cases h
  | .tup x, b, h => by cases b <;> first | (exact congrArg _ (beq_eqL x _ h)) | cases h
  | .lst x, b, h => by cases b <;> first | (exact congrArg _ (beq_eqL x _ h)) | cases h
  | .box, b, h => by cases b <;> cases h
theorem beq_eqL : ∀ a b : List D, D.beqL a b = true → a = b
  | [], b, h => by cases b <;> first | rfl | cases h
  | x :: xs, b, h => by
    cases b with
    | nil => cases h
    | cons y ys =>
      have h : (D.beq x y && D.beqL xs ys) = true := h
      simp only [Bool.and_eq_true] at h
      rw [beq_eq x y h.1, beq_eqL xs ys h.2]
end
/-- a def of the text -/
structure FI where
  name : PySem.Str
  np : Nat
  N : List PySem.Str
  st : Stmt
  body : Ss
structure Tab where
  dn : PySem.Str
  fs : List FI
  cs : List (PySem.Str × D)
/-- 0: the drawing def; then the defs of the table -/
def Tab.fname (T : Tab) : Nat → Option PySem.Str
  | 0 => some T.dn
  | i + 1 => (T.fs[i]?).map (·.name)
def Tab.arity (T : Tab) : Nat → Nat
  | 0 => 2
  | i + 1 => ((T.fs[i]?).map (·.np)).getD 0

def nmOk (x : PySem.Str) : Bool := !(x == ("__debug__" : PySem.Str)) && !(x == ("__classdict__" : PySem.Str))
def visB (sc : Scope) (x : PySem.Str) : Bool := match sc.names.lookup x with
  | some .local => true
  | some .cell => true
  | some .free => true
  | _ => false
def glB (sc : Scope) (x : PySem.Str) : Bool := match sc.names.lookup x with
  | some .globalImplicit => true
  | _ => false
def locB (sc : Scope) (x : PySem.Str) : Bool := match sc.names.lookup x with
  | some .local => true
  | some .cell => true
  | _ => false
def varB (N : List PySem.Str) (sc : Scope) (i : Nat) (x : PySem.Str) : Bool := decide (N[i]? = some x) && visB sc x && nmOk x
def binB : Op2 → Operator → Bool
  | .add, .Add => true
  | .sub, .Sub => true
  | .mul, .Mult => true
  | .fdiv, .FloorDiv => true
  | .mod, .Mod => true
  | .pow, .Pow => true
  | _, _ => false
def cmpB : Op2 → CmpOp → Bool
  | .eq, .Eq => true
  | .ne, .NotEq => true
  | .lt, .Lt => true
  | .le, .LtE => true
  | .gt, .Gt => true
  | .ge, .GtE => true
  | .isin, .In => true
  | .notin, .NotIn => true
  | .is_, .Is => true
  | .isnot, .IsNot => true
  | _, _ => false
def bfName : Bf → PySem.Str
  | .len => "len"
  | .sum => "sum"
  | .min => "min"
  | .max => "max"
  | .all => "all"
  | .any => "any"
  | .sorted => "sorted"
  | .tuple => "tuple"
  | .list => "list"
  | .abs => "abs"
  | .int => "int"
  | .str => "str"
  | .setlen => "set"
  | .setsort => "set"
/-- built-in functions served -/
def bfOk : Bf → Bool
  | .setlen => false
  | .setsort => false
  | _ => true
def tyStr (t : Ty) : PySem.Str := PySem.Str.ofString (tyN t)
def tgB (N : List PySem.Str) (sc : Scope) : List Nat → Expr → Bool
  | [i], .Name x _ => decide (N[i]? = some x) && locB sc x
  | [i, j], .Tuple [.Name x _, .Name y _] _ _ => decide (N[i]? = some x) && locB sc x && decide (N[j]? = some y) && locB sc y
  | [i, j, k], .Tuple [.Name x _, .Name y _, .Name z _] _ _ => decide (N[i]? = some x) && locB sc x && decide (N[j]? = some y) && locB sc y && decide (N[k]? = some z) && locB sc z
  | _, _ => false
def ownOf (N : List PySem.Str) (vs : List Nat) : List (PySem.Str × Nat) := vs.map fun i => (N.getD i Str.empty, i)
def isTupE : Expr → Bool
  | .Tuple .. => true
  | _ => false
mutual
def mE (T : Tab) (N : List PySem.Str) : E → Scope → Expr → Bool
  | .var i, sc, e => match e with
    | .Name x _ => varB N sc i x
    | _ => false
  | .pk i, sc, e => match e with
    | .Name x _ => varB N sc i x
    | _ => false
  | .kint i, _, e => match e with
    | .Constant (.int j) _ _ => decide (i = j)
    | _ => false
  | .kbl i, _, e => match e with
    | .Constant (.bool j) _ _ => decide (i = j)
    | _ => false
  | .kstr i, _, e => match e with
    | .Constant (.str j) _ _ => decide (i = j)
    | _ => false
  | .knon, _, e => match e with
    | .Constant .none _ _ => true
    | _ => false
  | .gl x d, sc, e => match e with
    | .Name y _ => decide (x = y) && glB sc y && nmOk y && T.cs.any fun p => decide (p.1 = y) && D.beq p.2 d
    | _ => false
  | .op o a b, sc, e => match e with
    | .BinOp x p y _ => binB o p && mE T N a sc x && mE T N b sc y
    | .Compare x [p] [y] _ => cmpB o p && plain y && mE T N a sc x && mE T N b sc y
    | _ => false
  | .chain o1 o2 a b c, sc, e => match e with
    | .Compare x [p, q] [y, z] _ => cmpB o1 p && cmpB o2 q && plain z && mE T N a sc x && mE T N b sc y && mE T N c sc z
    | _ => false
  | .neg a, sc, e => match e with
    | .UnaryOp .USub x _ => mE T N a sc x
    | _ => false
  | .not a, sc, e => match e with
    | .UnaryOp .Not x _ => mE T N a sc x
    | _ => false
  | .and a r, sc, e => match e with
    | .BoolOp .And (x :: y :: rest) pos => mE T N a sc x && mE T N r sc (match rest with | [] => y | _ :: _ => .BoolOp .And (y :: rest) pos)
    | _ => false
  | .or a r, sc, e => match e with
    | .BoolOp .Or (x :: y :: rest) pos => mE T N a sc x && mE T N r sc (match rest with | [] => y | _ :: _ => .BoolOp .Or (y :: rest) pos)
    | _ => false
  | .ite t a b, sc, e => match e with
    | .IfExp x y z _ => mE T N t sc x && mE T N a sc y && mE T N b sc z
    | _ => false
  | .tup es, sc, e => match e with
    | .Tuple xs _ _ => mEs T N es sc xs && decide (xs.length ≤ 1000)
    | _ => false
  | .lst es, sc, e => match e with
    | .List xs _ => mEs T N es sc xs && decide (xs.length ≤ 1000)
    | _ => false
  | .ix a i, sc, e => match e with
    | .Subscript x y _ => ixOk y && mE T N a sc x && mE T N i sc y
    | _ => false
  | .sl a lo hi, sc, e => match e with
    | .Subscript x (.Slice l h none _) _ => mE T N a sc x && mO T N lo sc l && mO T N hi sc h
    | _ => false
  | .rev a, sc, e => match e with
    | .Subscript x (.Slice none none (some (.UnaryOp .USub (.Constant (.int 1) _ _) _)) _) _ => mE T N a sc x
    | _ => false
  | .comp vs it ifs elt, sc, e => match e with
    | .ListComp pe [⟨tg, iter, pifs, 0⟩] scope _ => plain iter && blkC N sc scope (ownOf N vs) && tgB N scope vs tg && mW T N it sc tg iter && mIfs T N ifs (relS scope sc) pifs && mE T N elt (relS scope sc) pe
    | _ => false
  | .comp2 vs it ifs vs2 it2 ifs2 elt, sc, e => match e with
    | .ListComp pe [⟨tg, iter, pifs, 0⟩, ⟨tg2, iter2, pifs2, 0⟩] scope _ => plain iter && plain iter2 && blkC N sc scope (ownOf N (vs ++ vs2)) && tgB N scope vs tg && tgB N scope vs2 tg2 && mW T N it sc tg iter && mIfs T N ifs (relS scope sc) pifs && mW T N it2 (relS scope sc) tg2 iter2 && mIfs T N ifs2 (relS scope sc) pifs2 && mE T N elt (relS scope sc) pe
    | _ => false
  | .no, _, _ => true
  | .call f args, sc, e => match e with
    | .Call (.Name x _) (y :: ys) [] _ => glB sc x && nmOk x && decide (T.fname f = some x) && mEs T N args sc (y :: ys)
    | _ => false
  | .bi f args, sc, e => match e with
    | .Call (.Name x _) (y :: ys) [] _ => bfOk f && glB sc x && decide (x = bfName f) && mEs T N args sc (y :: ys)
    | _ => false
  | .rngl t lo hi, sc, e => match e with
    | .Call (.Name x _) [.Call (.Name y _) args [] _] [] _ => glB sc x && decide (x = if t then "tuple" else "list") && glB sc y && decide (y = "range") && (match args with
      | [b] => (match lo with | .kint 0 => true | _ => false) && plain b && mE T N hi sc b
      | [a, b] => plain a && plain b && mE T N lo sc a && mE T N hi sc b
      | _ => false)
    | _ => false
  | .isi t a, sc, e => match e with
    | .Call (.Name x _) [y, .Name z _] [] _ => glB sc x && decide (x = "isinstance") && plain y && glB sc z && decide (z = tyStr t) && mE T N a sc y
    | _ => false
  | .mt m r a, sc, e => match e with
    | .Call (.Attribute (.Name x xp) n ap) [y] [] pos => mfOk m && decide (n = mfName m) && (ap.endLine == pos.line) && plain y && mE T N r sc (.Name x xp) && mE T N a sc y
    | _ => false
  | .rep es a, sc, e => match e with
    | .BinOp (.List xs _) .Mult y _ => mEs T N es sc xs && decide (xs.length ≤ 1000) && mE T N a sc y
    | _ => false
  | .pop i args, sc, e => match e with
    | .Call (.Attribute (.Name x _) m ap) ys [] pos => decide (m = "pop") && varB N sc i x && (ap.endLine == pos.line) && mEs T N args sc ys && decide (ys.length ≤ 1)
    | _ => false
  | .rngs lo hi st, sc, e => match e with
    | .Call (.Name x _) [.Call (.Name y _) [a, b, c] [] _] [] _ => glB sc x && decide (x = "tuple") && glB sc y && decide (y = "range") && plain a && plain b && plain c && mE T N lo sc a && mE T N hi sc b && mE T N st sc c
    | _ => false
  | .srt r, sc, e => match e with
    | .Call (.Name x _) [.Call (.Name y _) [a] [] _] [] _ => glB sc x && decide (x = "sorted") && glB sc y && decide (y = "set") && plain a && mE T N r sc a
    | _ => false
  | .cnt r, sc, e => match e with
    | .Call (.Name x _) [.Call (.Name y _) [a] [] _] [] _ => glB sc x && decide (x = "len") && glB sc y && decide (y = "set") && plain a && mE T N r sc a
    | _ => false
termination_by structural e => e
def mEs (T : Tab) (N : List PySem.Str) : Es → Scope → List Expr → Bool
  | .nil, _, es => match es with
    | [] => true
    | _ => false
  | .cons a as, sc, es => match es with
    | e :: es => plain e && mE T N a sc e && mEs T N as sc es
    | _ => false
termination_by structural e => e
def mIfs (T : Tab) (N : List PySem.Str) : Es → Scope → List Expr → Bool
  | .nil, _, es => match es with
    | [] => true
    | _ => false
  | .cons a .nil, sc, es => match es with
    | [e] => mE T N a sc e
    | _ => false
  | .cons _ (.cons _ _), _, _ => false
termination_by structural e => e
def mO (T : Tab) (N : List PySem.Str) : Es → Scope → Option Expr → Bool
  | .nil, _, o => match o with
    | none => true
    | _ => false
  | .cons a .nil, sc, o => match o with
    | some e => mE T N a sc e
    | _ => false
  | .cons _ (.cons _ _), _, _ => false
termination_by structural e => e
def mW (T : Tab) (N : List PySem.Str) : Wk → Scope → Expr → Expr → Bool
  | .of e, sc, _, pe => mE T N e sc pe
  | .rng1 hi, sc, _, pe => match pe with
    | .Call (.Name x _) [b] [] _ => glB sc x && decide (x = "range") && plain b && mE T N hi sc b
    | _ => false
  | .rng lo hi, sc, _, pe => match pe with
    | .Call (.Name x _) [a, b] [] _ => glB sc x && decide (x = "range") && plain a && plain b && mE T N lo sc a && mE T N hi sc b
    | _ => false
  | .enum e, sc, tg, pe => match pe with
    | .Call (.Name x _) [b] [] _ => isTupE tg && glB sc x && decide (x = "enumerate") && plain b && mE T N e sc b
    | _ => false
  | .zip a b, sc, tg, pe => match pe with
    | .Call (.Name x _) [y, z] [] _ => isTupE tg && glB sc x && decide (x = "zip") && plain y && plain z && mE T N a sc y && mE T N b sc z
    | _ => false
termination_by structural e => e
end
end PV

end
section
set_option Elab.async false
set_option linter.all false
set_option maxRecDepth 100000
set_option maxHeartbeats 4000000
/-! DL: what the matcher lets through does what the small language says: expressions. -/
namespace PV
open PySem PySem.Spec PyProof.Rows L2
/-- the built-in names that are used -/
def bNames : List PySem.Str := ["len", "sum", "min", "max", "all", "any", "sorted", "tuple", "list", "abs", "int", "bool", "str", "range", "enumerate", "zip", "isinstance", "set"]
structure Good (T : Tab) (g : G) (cl : Call) (n : Nat) (N : List PySem.Str) (X : Cx) : Prop where
  K : X.K = g.K
  calm : X.calm = true
  nm : X.N = N
  nd : N.Nodup
  room : Room n X.A
  units : X.A.units + 100 < cLine
  bu : ∀ x ∈ bNames, X.mg x = none
  cs : ∀ p ∈ T.cs, ∃ v u, X.mg p.1 = some u ∧ RelV v u ∧ ∀ H, Rep g H v p.2
  fn : ∀ i x, T.fname i = some x → ∃ f fd ps, FnOk X.prog X.w X.K X.mg X.base CX0 n f fd ps (spD g cl i) ∧ X.mg x = some (.ref f) ∧ PySem.W.keepIn X.K (.ref f) = true ∧ Binds X.K fd ps []
section
variable {T : Tab} {g : G} {cl : Call} {n : Nat} {N : List PySem.Str} {X : Cx}
theorem Good.blk (h : Good T g cl n N X) (s : Shared) (H : Hp) (scope : Scope) (C : Addr) (cs : List (PySem.Str × Addr)) (fp : List Addr) : Good T g cl n N (X.blk s H scope (compEnvC scope cs C X.env) fp) :=
  ⟨h.K, h.calm, h.nm, h.nd, h.room, h.units, h.bu, h.cs, h.fn⟩
theorem nmOk_ok {x : PySem.Str} (h : nmOk x = true) : (x == ("__debug__" : PySem.Str)) = false ∧ (x == ("__classdict__" : PySem.Str)) = false := by
  simpa [nmOk] using h
theorem visB_ok {sc : Scope} {x : PySem.Str} (h : visB sc x = true) : Vis sc x := by
  unfold visB at h
  split at h
  · exact .inl ‹_›
  · exact .inr (.inl ‹_›)
  · exact .inr (.inr ‹_›)
  · cases h
theorem glB_ok {x : PySem.Str} (h : glB X.env.scope x = true) : Gl X x := by
  unfold glB at h
  split at h
  · assumption
  · cases h
theorem locB_ok {sc : Scope} {x : PySem.Str} (h : locB sc x = true) : Loc sc x := by
  unfold locB at h
  split at h
  · exact .inl ‹_›
  · exact .inr ‹_›
  · cases h
theorem varB_ok {sc : Scope} {x : PySem.Str} {i : Nat} (h : varB N sc i x = true) : N[i]? = some x ∧ Vis sc x ∧ (x == ("__debug__" : PySem.Str)) = false ∧ (x == ("__classdict__" : PySem.Str)) = false := by
  simp only [varB, Bool.and_eq_true, decide_eq_true_eq] at h
  exact ⟨h.1.1, visB_ok h.1.2, nmOk_ok h.2⟩
theorem binR {o : Op2} {p : Operator} (hK : X.K = g.K) (h : binB o p = true) : OpR X (binaryOp p) (rB g (op2 o)) := by
  cases o <;> cases p <;> first | (cases h; done) | exact opd_add hK | exact opd_sub hK | exact opd_mul hK | exact opd_fdiv hK | exact opd_mod hK | exact opd_pow hK
theorem cmpR {o : Op2} {p : CmpOp} (hK : X.K = g.K) (hu : X.A.units + 100 < cLine) (h : cmpB o p = true) : OpR X (compareOp p) (rB g (op2 o)) := by
  cases o <;> cases p <;> first | (cases h; done) | exact opd_eq hK (by omega) | exact opd_ne hK (by omega) | exact opd_lt hK | exact opd_le hK | exact opd_gt hK | exact opd_ge hK | exact opd_in hK (by omega) | exact opd_notin hK (by omega) | exact opd_is hK | exact opd_isnot hK
theorem mapbl {o : Option Bool} {f : Bool → Bool} {d : D} (h : o.map (fun r => D.bl (f r)) = some d) : ∃ k, d = .bl k := by
  cases o with
  | none => cases h
  | some r => cases h; exact ⟨_, rfl⟩
theorem cmpBl {o : Op2} {p : CmpOp} (h : cmpB o p = true) : ∀ a b d, op2 o a b = some d → ∃ k, d = .bl k := by
  intro a b d e
  cases o <;> cases p <;> first | (cases h; done) | exact mapbl (f := fun x => x) e | exact mapbl (f := fun x => !x) e
theorem bfR (Go : Good T g cl n N X) {f : Bf} (h : bfOk f = true) : (∃ id, CallR X (.builtin id) (rC g (bfNew f) (bfn f)) ∧ bootBuiltins (bfName f) = some (.builtin id)) ∨ (∃ id, CallR X (.type id) (rC g (bfNew f) (bfn f)) ∧ bootBuiltins (bfName f) = some (.type id)) := by
  have hu := Go.units
  cases f with
  | len => exact .inl ⟨_, call_len Go.K, rfl⟩
  | sum => exact .inl ⟨_, call_sum Go.K Go.calm, rfl⟩
  | min => exact .inl ⟨_, call_min Go.K Go.calm hu, rfl⟩
  | max => exact .inl ⟨_, call_max Go.K Go.calm hu, rfl⟩
  | all => exact .inl ⟨_, call_all Go.K Go.calm, rfl⟩
  | any => exact .inl ⟨_, call_any Go.K Go.calm, rfl⟩
  | sorted => exact .inl ⟨_, call_sorted Go.K hu, rfl⟩
  | tuple => exact .inr ⟨_, call_tuple Go.K, rfl⟩
  | list => exact .inr ⟨_, call_list Go.K, rfl⟩
  | abs => exact .inl ⟨_, call_abs' Go.K, rfl⟩
  | int => exact .inr ⟨_, call_int' Go.K, rfl⟩
  | str => exact .inr ⟨_, call_str' Go.K, rfl⟩
  | setlen => cases h
  | setsort => cases h
theorem bfName_in {f : Bf} (h : bfOk f = true) : bfName f ∈ bNames ∧ bfName f ≠ "__name__" ∧ (bfName f == ("__debug__" : PySem.Str)) = false := by
  cases f <;> first | (cases h; done) | decide
theorem tyStr_in (t : Ty) : tyStr t ∈ bNames := by cases t <;> decide
theorem fold_plain {e : Expr} {env : PySem.Env} (h : plain e = true) : ∀ x, foldedSetIterable e env x = pure x := by
  intro x
  cases e <;> first | rfl | cases h
theorem own_snd {vs : List Nat} : (ownOf N vs).map (·.2) = vs := by
  unfold ownOf
  rw [List.map_map]
  show vs.map (fun i => i) = vs
  exact List.map_id' vs
theorem tgOk {sc : Scope} {vs : List Nat} {tg : Expr} (Go : Good T g cl n N X) (hl : ∀ x, locB sc x = true → Loc X.env.scope x ∧ (X.fn x = true ∨ X.env.scope.names.lookup x = some .local)) (h : tgB N sc vs tg = true) : PG X tg (gOf g.K vs) := by
  have nd : X.N.Nodup := Go.nm ▸ Go.nd
  have e := Go.nm
  unfold tgB at h
  split at h
  · rename_i i x _
    simp only [Bool.and_eq_true, decide_eq_true_eq] at h
    obtain ⟨a, b⟩ := hl _ h.2
    exact pg_name nd (by rw [e]; exact h.1) a b
  · rename_i i j x _ y _ _ _
    simp only [Bool.and_eq_true, decide_eq_true_eq] at h
    obtain ⟨a, b⟩ := hl _ h.1.1.2
    obtain ⟨a2, b2⟩ := hl _ h.2
    rw [← Go.K]
    exact pg_tup (n := 2) Go.calm (pgs_cons (pg_name nd (by rw [e]; exact h.1.1.1) a b) (pgs_cons (pg_name nd (by rw [e]; exact h.1.2) a2 b2) pgs_nil))
  · rename_i i j k x _ y _ z _ _ _
    simp only [Bool.and_eq_true, decide_eq_true_eq] at h
    obtain ⟨a, b⟩ := hl _ h.1.1.1.1.2
    obtain ⟨a2, b2⟩ := hl _ h.1.1.2
    obtain ⟨a3, b3⟩ := hl _ h.2
    rw [← Go.K]
    exact pg_tup (n := 3) Go.calm (pgs_cons (pg_name nd (by rw [e]; exact h.1.1.1.1.1) a b) (pgs_cons (pg_name nd (by rw [e]; exact h.1.1.1.2) a2 b2) (pgs_cons (pg_name nd (by rw [e]; exact h.1.2) a3 b3) pgs_nil)))
  · cases h
theorem pe_and1 {b : Expr} {pos : Pos} {t : TE} (h : PE X b t) : PE X (.BoolOp .And [b] pos) t := ⟨h.run⟩
theorem pe_or1 {b : Expr} {pos : Pos} {t : TE} (h : PE X b t) : PE X (.BoolOp .Or [b] pos) t := ⟨h.run⟩
end
/-- makes a new list -/
def fr : E → Bool
  | .lst _ => true
  | .comp .. => true
  | .comp2 .. => true
  | .rep _ _ => true
  | .bi f _ => bfNew f
  | .rngl t _ _ => !t
  | .srt _ => true
  | .ite _ a b => fr a && fr b
  | _ => false
def isBo : Expr → Bool
  | .BoolOp .. => true
  | _ => false
abbrev SE (X : Cx) (g : G) (cl : Call) (a : E) (e : Expr) : Prop := PE X e (tE g (fr a) (ev cl a)) ∧ PT X e (tTs g fun ρ => tstR (ev cl a ρ)) ∧ (isBo e = true → PW X e (tTs g fun ρ => tstR (ev cl a ρ)))
end PV

end
section
set_option Elab.async false
set_option linter.all false
set_option maxRecDepth 100000
set_option maxHeartbeats 4000000
/-! DL2: soundness of the matcher for expressions. -/
namespace PV
open PySem PySem.Spec PyProof.Rows L2
section
variable {T : Tab} {g : G} {cl : Call} {n : Nat} {N : List PySem.Str}
theorem se_gen {X : Cx} {a : E} {e : Expr} (hK : X.K = g.K) (h : PE X e (tE g (fr a) (ev cl a))) (hb : isBo e = false) (he : ∀ whole, isTrue e X.env whole = (do let v ← whole; standAt e.pos; holding [v] (truthy v))) : SE X g cl a e :=
  ⟨h, dt_truth hK h he, fun q => by rw [hb] at q; cases q⟩
theorem evs_len : ∀ {es : Es} {xs : List Expr} {sc : Scope}, mEs T N es sc xs = true → ∀ ρ hs ρ', evs cl es ρ = some (hs, ρ') → hs.length = xs.length
  | .nil, xs, sc, h, ρ, hs, ρ', e => by
    simp only [mEs] at h
    split at h
    · simp only [evs] at e; cases e; rfl
    · cases h
  | .cons a as, xs, sc, h, ρ, hs, ρ', e => by
    simp only [mEs] at h
    split at h
    · rename_i y ys
      simp only [Bool.and_eq_true] at h
      simp only [evs, bindS] at e
      obtain ⟨⟨x, ρ1⟩, e1, ⟨zs, ρ2⟩, e2, e3⟩ := e
      cases e3
      simp [evs_len h.2 _ _ _ e2]
    · cases h
theorem mEs_plain : ∀ {es : Es} {xs : List Expr} {sc : Scope}, mEs T N es sc xs = true → xs.all plain = true
  | .nil, xs, sc, h => by
    simp only [mEs] at h
    split at h
    · rfl
    · cases h
  | .cons a as, xs, sc, h => by
    simp only [mEs] at h
    split at h
    · simp only [Bool.and_eq_true] at h
      simp [h.1.1, mEs_plain h.2]
    · cases h
theorem ev_pop0 {i : Nat} : (fun ρ : Env => if !isOwn (ρ.get i) then none else
    match ρ.get i with
    | .own ds => match ds[ds.length - 1]? with
      | some d => some (Hd.v d, ρ.put i (.own ds.dropLast))
      | none => none
    | _ => none) = ev cl (.pop i .nil) := by
  funext ρ
  simp only [ev, evs]
  split
  · rfl
  · cases q : ρ.get i with
    | own xs =>
      simp [q] <;> cases xs[xs.length - 1]? <;> rfl
    | _ => simp [q]
theorem ev_pop1 {i : Nat} {a : E} : (fun ρ : Env => if !isOwn (ρ.get i) then none else do
    let (h, ρ) ← ev cl a ρ
    match ρ.get i, h with
    | .own ds, .v (.int k) => match ixN ds.length k with
      | some j => match ds[j]? with
        | some d => some (Hd.v d, ρ.put i (.own (ds.eraseIdx j)))
        | none => none
      | none => none
    | _, _ => none) = ev cl (.pop i (.cons a .nil)) := by
  funext ρ
  simp only [ev, evs]
  split
  · rfl
  · cases ev cl a ρ with
    | none => rfl
    | some r =>
      obtain ⟨h, ρ1⟩ := r
      show (match ρ1.get i, h with
        | .own ds, .v (.int k) => match ixN ds.length k with
          | some j => match ds[j]? with
            | some d => some (Hd.v d, ρ1.put i (.own (ds.eraseIdx j)))
            | none => none
          | none => none
        | _, _ => none) = (match ρ1.get i, [h] with
        | .own ds, [] => match ds[ds.length - 1]? with
          | some d => some (Hd.v d, ρ1.put i (.own ds.dropLast))
          | none => none
        | .own ds, [.v (.int k)] => match ixN ds.length k with
          | some j => match ds[j]? with
            | some d => some (.v d, ρ1.put i (.own (ds.eraseIdx j)))
            | none => none
          | none => none
        | _, _ => none)
      cases ρ1.get i with
      | own ds =>
        cases h with
        | v d => cases d <;> rfl
        | p j => rfl
      | _ => rfl
/-- a walk that hands out pairs of its own -/
def pwOf : Wk → Bool
  | .enum _ => true
  | .zip _ _ => true
  | _ => false
theorem pw_len {w : Wk} {sc sc' : Scope} {tg e : Expr} {vs : List Nat} (h : mW T N w sc tg e = true) (ht : tgB N sc' vs tg = true) : pwOf w = true → vs.length ≠ 1 := by
  intro hp
  have tup : isTupE tg = true := by
    cases w with
    | enum a => simp only [mW] at h; split at h <;> simp_all
    | zip a b => simp only [mW] at h; split at h <;> simp_all
    | _ => cases hp
  intro hl
  match vs, hl with
  | [i], _ =>
    cases tg <;> first | (cases tup; done) | (simp [tgB] at ht; done)
abbrev SC (X : Cx) (sc : Scope) : Prop := X.env.scope = sc
mutual
theorem sE : ∀ (a : E) (X : Cx) (sc : Scope) (e : Expr), Good T g cl n N X → X.env.scope = sc → mE T N a sc e = true → SE X g cl a e
  | .var i, X, sc, e, Go, hs, h => by
    simp only [mE] at h
    split at h
    · subst hs
      obtain ⟨h1, h2, h3, h4⟩ := varB_ok h
      exact se_gen Go.K (de_var (Go.nm ▸ h1) h2 h3 h4 Go.K cl) rfl fun _ => rfl
    · cases h
  | .pk i, X, sc, e, Go, hs, h => by
    simp only [mE] at h
    split at h
    · subst hs
      obtain ⟨h1, h2, h3, h4⟩ := varB_ok h
      exact se_gen Go.K (de_pk (Go.nm ▸ h1) h2 h3 h4 Go.K cl) rfl fun _ => rfl
    · cases h
  | .kint i, X, sc, e, Go, hs, h => by
    simp only [mE] at h
    split at h
    · obtain rfl := of_decide_eq_true h
      exact se_gen Go.K (de_const Go.K pe_int fun _ => .int _) rfl fun _ => rfl
    · cases h
  | .kbl i, X, sc, e, Go, hs, h => by
    simp only [mE] at h
    split at h
    · obtain rfl := of_decide_eq_true h
      exact se_gen Go.K (de_const Go.K pe_bl fun _ => .bl _) rfl fun _ => rfl
    · cases h
  | .kstr i, X, sc, e, Go, hs, h => by
    simp only [mE] at h
    split at h
    · obtain rfl := of_decide_eq_true h
      exact se_gen Go.K (de_const Go.K pe_str fun _ => .str _) rfl fun _ => rfl
    · cases h
  | .knon, X, sc, e, Go, hs, h => by
    simp only [mE] at h
    split at h
    · exact se_gen Go.K (de_const Go.K pe_non fun _ => .non) rfl fun _ => rfl
    · cases h
  | .gl x d, X, sc, e, Go, hs, h => by
    simp only [mE] at h
    split at h
    · simp only [Bool.and_eq_true, decide_eq_true_eq, List.any_eq_true] at h
      obtain ⟨⟨⟨h1, h2⟩, h3⟩, p, hp, h4, h5⟩ := h
      subst hs
      subst h1
      have h5 := beq_eq _ _ h5
      obtain ⟨v, u, k1, k2, k3⟩ := Go.cs p hp
      rw [h4] at k1
      rw [h5] at k3
      exact se_gen Go.K (de_const Go.K (pe_glob (glB_ok h2) k1 k2 (nmOk_ok h3).1) k3) rfl fun _ => rfl
    · cases h
  | .op o a b, X, sc, e, Go, hs, h => by
    simp only [mE] at h
    split at h
    · simp only [Bool.and_eq_true] at h
      exact se_gen Go.K (de_op Go.K (binR Go.K h.1.1) (sE a X sc _ Go hs h.1.2).1 (sE b X sc _ Go hs h.2).1) rfl fun _ => rfl
    · simp only [Bool.and_eq_true] at h
      have m := mark_plain (op := ‹CmpOp›) h.1.1.2
      exact ⟨de_cmp Go.K (cmpR Go.K Go.units h.1.1.1) (sE a X sc _ Go hs h.1.2).1 (sE b X sc _ Go hs h.2).1 m, dt_cmp Go.K (cmpBl h.1.1.1) (cmpR Go.K Go.units h.1.1.1) (sE a X sc _ Go hs h.1.2).1 (sE b X sc _ Go hs h.2).1 m, fun q => by cases q⟩
    · cases h
  | .chain o1 o2 a b c, X, sc, e, Go, hs, h => by
    simp only [mE] at h
    split at h
    · simp only [Bool.and_eq_true] at h
      obtain ⟨⟨⟨⟨⟨h1, h2⟩, h3⟩, h4⟩, h5⟩, h6⟩ := h
      have m := marks_plain (b := ‹Expr›) (o1 := ‹CmpOp›) (o2 := ‹CmpOp›) h3
      exact ⟨de_chain Go.K (cmpBl h1) (cmpR Go.K Go.units h1) (cmpR Go.K Go.units h2) (sE a X sc _ Go hs h4).1 (sE b X sc _ Go hs h5).1 (sE c X sc _ Go hs h6).1 (marks_plain h3),
        dt_chain Go.K (cmpBl h1) (cmpBl h2) (cmpR Go.K Go.units h1) (cmpR Go.K Go.units h2) (sE a X sc _ Go hs h4).1 (sE b X sc _ Go hs h5).1 (sE c X sc _ Go hs h6).1 (marks_plain h3), fun q => by cases q⟩
    · cases h
  | .neg a, X, sc, e, Go, hs, h => by
    simp only [mE] at h
    split at h
    · exact se_gen Go.K (de_neg Go.K (sE a X sc _ Go hs h).1) rfl fun _ => rfl
    · cases h
  | .not a, X, sc, e, Go, hs, h => by
    simp only [mE] at h
    split at h
    · exact ⟨de_not Go.K (sE a X sc _ Go hs h).1, dt_not Go.K (sE a X sc _ Go hs h).2.1, fun q => by cases q⟩
    · cases h
  | .and a r, X, sc, e, Go, hs, h => by
    simp only [mE] at h
    split at h
    · rename_i x y rest pos
      simp only [Bool.and_eq_true] at h
      have s1 := sE a X sc _ Go hs h.1
      cases rest with
      | nil =>
        have s2 := sE r X sc _ Go hs h.2
        have w := dw_and (pos := pos) Go.K s1.2.1 (pw_and1 (pos := pos) s2.2.1)
        exact ⟨de_and Go.K s1.1 (pe_and1 s2.1), w.pt, fun _ => w⟩
      | cons z zs =>
        have s2 := sE r X sc _ Go hs h.2
        have w := dw_and (pos := pos) Go.K s1.2.1 (s2.2.2 rfl)
        exact ⟨de_and Go.K s1.1 s2.1, w.pt, fun _ => w⟩
    · cases h
  | .or a r, X, sc, e, Go, hs, h => by
    simp only [mE] at h
    split at h
    · rename_i x y rest pos
      simp only [Bool.and_eq_true] at h
      have s1 := sE a X sc _ Go hs h.1
      cases rest with
      | nil =>
        have s2 := sE r X sc _ Go hs h.2
        have w := dw_or (pos := pos) Go.K s1.2.1 (pw_or1 (pos := pos) s2.2.1)
        exact ⟨de_or Go.K s1.1 (pe_or1 s2.1), w.pt, fun _ => w⟩
      | cons z zs =>
        have s2 := sE r X sc _ Go hs h.2
        have w := dw_or (pos := pos) Go.K s1.2.1 (s2.2.2 rfl)
        exact ⟨de_or Go.K s1.1 s2.1, w.pt, fun _ => w⟩
    · cases h
  | .ite t a b, X, sc, e, Go, hs, h => by
    simp only [mE] at h
    split at h
    · simp only [Bool.and_eq_true] at h
      have s1 := sE t X sc _ Go hs h.1.1
      have s2 := sE a X sc _ Go hs h.1.2
      have s3 := sE b X sc _ Go hs h.2
      refine ⟨?_, dt_ite Go.K s1.2.1 s2.2.1 s3.2.1, fun q => by cases q⟩
      show PE X _ (tE g (fr a && fr b) _)
      cases qa : fr a with
      | false => exact de_ite Go.K s1.2.1 (de_old s2.1) (de_old s3.1)
      | true =>
        cases qb : fr b with
        | false => exact de_ite Go.K s1.2.1 (de_old s2.1) (de_old s3.1)
        | true => exact de_ite Go.K s1.2.1 (by have := s2.1; rw [qa] at this; exact this) (by have := s3.1; rw [qb] at this; exact this)
    · cases h
  | .tup es, X, sc, e, Go, hs, h => by
    simp only [mE] at h
    split at h
    · simp only [Bool.and_eq_true, decide_eq_true_eq] at h
      exact se_gen Go.K (de_tup Go.K (sEs es X sc _ Go hs h.1) h.2 (evs_len h.1)) rfl fun _ => rfl
    · cases h
  | .lst es, X, sc, e, Go, hs, h => by
    simp only [mE] at h
    split at h
    · simp only [Bool.and_eq_true, decide_eq_true_eq] at h
      exact se_gen Go.K (de_lst Go.K (sEs es X sc _ Go hs h.1) h.2 (evs_len h.1)) rfl fun _ => rfl
    · cases h
  | .ix a i, X, sc, e, Go, hs, h => by
    simp only [mE] at h
    split at h
    · simp only [Bool.and_eq_true] at h
      exact se_gen Go.K (de_ix Go.K (sE a X sc _ Go hs h.1.2).1 (sE i X sc _ Go hs h.2).1 (plainIx_of h.1.1)) rfl fun _ => rfl
    · cases h
  | .sl a lo hi, X, sc, e, Go, hs, h => by
    simp only [mE] at h
    split at h
    · simp only [Bool.and_eq_true] at h
      exact se_gen Go.K (de_sl Go.K (sE a X sc _ Go hs h.1.1).1 (sO lo X sc _ Go hs h.1.2) (sO hi X sc _ Go hs h.2)) rfl fun _ => rfl
    · cases h
  | .rev a, X, sc, e, Go, hs, h => by
    simp only [mE] at h
    split at h
    · exact se_gen Go.K (de_rev Go.K (sE a X sc _ Go hs h).1) rfl fun _ => rfl
    · cases h
  | .comp vs it ifs elt, X, sc, e, Go, hs, h => by
    simp only [mE] at h
    split at h
    · rename_i pe tg iter pifs scope pos
      simp only [Bool.and_eq_true] at h
      obtain ⟨⟨⟨⟨⟨h1, h2⟩, h3⟩, h4⟩, h5⟩, h6⟩ := h
      refine se_gen Go.K ?_ rfl fun _ => rfl
      have := de_comp (own := ownOf N vs) (pos := pos) (by rw [own_snd]; exact pw_len h4 h3) Go.K Go.calm (Go.nm ▸ Go.nd) (sW it X sc tg iter Go hs h4) (by rw [Go.nm, hs]; exact blkOk_by h2)
        (fun s H C cl' fp => by
          rw [own_snd]
          refine tgOk (Go.blk s H scope C cl' fp) (fun x hx => ?_) h3
          have hl : scope.names.lookup x = some .local ∨ scope.names.lookup x = some .cell := locB_ok hx
          rcases hl with q | q
          · exact ⟨.inl (lookup_relS_keep (by decide) q), .inr (lookup_relS_keep (by decide) q)⟩
          · exact ⟨.inr (lookup_relS_keep (by decide) q), .inl (by show (scope.names.lookup x == some .cell) = true; rw [q]; rfl)⟩)
        (fun s H C cl' fp => sIfs ifs _ _ _ (Go.blk s H scope C cl' fp) (by subst hs; rfl) h5)
        (fun s H C cl' fp => (sE elt _ _ _ (Go.blk s H scope C cl' fp) (by subst hs; rfl) h6).1) (fold_plain h1)
      rw [own_snd] at this
      exact this
    · cases h
  | .comp2 vs it ifs vs2 it2 ifs2 elt, X, sc, e, Go, hs, h => by
    simp only [mE] at h
    split at h
    · rename_i pe tg iter pifs tg2 iter2 pifs2 scope pos
      simp only [Bool.and_eq_true] at h
      obtain ⟨⟨⟨⟨⟨⟨⟨⟨⟨h1, h1'⟩, h2⟩, h3⟩, h3'⟩, h4⟩, h5⟩, h6⟩, h7⟩, h8⟩ := h
      have tgk : ∀ (ws : List Nat) (tg : Expr), tgB N scope ws tg = true → ∀ (s : Shared) (H : Hp) (C : Addr) (cl' : List (PySem.Str × Addr)) (fp : List Addr), PG (X.blk s H scope (compEnvC scope cl' C X.env) fp) tg (gOf g.K ws) := fun ws tg h3 s H C cl' fp => by
        refine tgOk (Go.blk s H scope C cl' fp) (fun x hx => ?_) h3
        have hl : scope.names.lookup x = some .local ∨ scope.names.lookup x = some .cell := locB_ok hx
        rcases hl with q | q
        · exact ⟨.inl (lookup_relS_keep (by decide) q), .inr (lookup_relS_keep (by decide) q)⟩
        · exact ⟨.inr (lookup_relS_keep (by decide) q), .inl (by show (scope.names.lookup x == some .cell) = true; rw [q]; rfl)⟩
      refine se_gen Go.K ?_ rfl fun _ => rfl
      exact de_comp2 (own := ownOf N (vs ++ vs2)) (pos := pos) own_snd (pw_len h4 h3) (pw_len h6 h3') Go.K Go.calm (Go.nm ▸ Go.nd) (sW it X sc tg iter Go hs h4) (by rw [Go.nm, hs]; exact blkOk_by h2)
        (tgk vs tg h3)
        (fun s H C cl' fp => sIfs ifs _ _ _ (Go.blk s H scope C cl' fp) (by subst hs; rfl) h5)
        (fun s H C cl' fp => sW it2 _ _ _ _ (Go.blk s H scope C cl' fp) (by subst hs; rfl) h6)
        (tgk vs2 tg2 h3')
        (fun s H C cl' fp => sIfs ifs2 _ _ _ (Go.blk s H scope C cl' fp) (by subst hs; rfl) h7)
        (fun s H C cl' fp => (sE elt _ _ _ (Go.blk s H scope C cl' fp) (by subst hs; rfl) h8).1) (fold_plain h1) (fun env => fold_plain h1')
    · cases h
  | .no, X, sc, e, Go, hs, h => ⟨de_no, dt_no, fun _ => dw_no⟩
  | .call f args, X, sc, e, Go, hs, h => by
    simp only [mE] at h
    split at h
    · simp only [Bool.and_eq_true, decide_eq_true_eq] at h
      subst hs
      obtain ⟨fa, fd, ps, F, e1, e2, e3⟩ := Go.fn _ _ h.1.2
      exact se_gen Go.K (de_call Go.K F Go.room (glB_ok h.1.1.1) e1 e2 e3 (sEs args X _ _ Go rfl h.2) (nmOk_ok h.1.1.2).1 (mEs_plain h.2)) rfl fun _ => rfl
    · cases h
  | .bi f args, X, sc, e, Go, hs, h => by
    simp only [mE] at h
    split at h
    · simp only [Bool.and_eq_true, decide_eq_true_eq] at h
      subst hs
      obtain ⟨⟨⟨h1, h2⟩, h3⟩, h4⟩ := h
      subst h3
      obtain ⟨k1, k2, k3⟩ := bfName_in h1
      rcases bfR Go h1 with ⟨id, r, q⟩ | ⟨id, r, q⟩
      · exact se_gen Go.K (de_bi Go.K r (glB_ok h2) (Go.bu _ k1) q (sEs args X _ _ Go rfl h4) k2 k3 (mEs_plain h4)) rfl fun _ => rfl
      · exact se_gen Go.K (de_biT Go.K r (glB_ok h2) (Go.bu _ k1) q (sEs args X _ _ Go rfl h4) k2 k3 (mEs_plain h4)) rfl fun _ => rfl
    · cases h
  | .rngl t lo hi, X, sc, e, Go, hs, h => by
    simp only [mE] at h
    split at h
    · rename_i x p y p2 args pos2 pos
      simp only [Bool.and_eq_true, decide_eq_true_eq] at h
      subst hs
      obtain ⟨⟨⟨⟨h1, h2⟩, h3⟩, h4⟩, h5⟩ := h
      subst h4
      split at h5
      · simp only [Bool.and_eq_true] at h5
        obtain ⟨⟨h5, h6⟩, h7⟩ := h5
        split at h5
        · have s := (sE hi X _ _ Go rfl h7).1
          cases t with
          | true =>
            subst h2
            exact se_gen Go.K (de_trg1 Go.K Go.calm (glB_ok h1) (Go.bu _ (by decide)) (glB_ok h3) (Go.bu _ (by decide)) s h6) rfl fun _ => rfl
          | false =>
            subst h2
            exact se_gen Go.K (de_lrg1 Go.K Go.calm (glB_ok h1) (Go.bu _ (by decide)) (glB_ok h3) (Go.bu _ (by decide)) s h6) rfl fun _ => rfl
        · cases h5
      · simp only [Bool.and_eq_true] at h5
        obtain ⟨⟨⟨h5, h6⟩, h7⟩, h8⟩ := h5
        have s := (sE lo X _ _ Go rfl h7).1
        have s2 := (sE hi X _ _ Go rfl h8).1
        cases t with
        | true =>
          subst h2
          exact se_gen Go.K (de_trg2 Go.K Go.calm (glB_ok h1) (Go.bu _ (by decide)) (glB_ok h3) (Go.bu _ (by decide)) s s2 h5 h6) rfl fun _ => rfl
        | false =>
          subst h2
          exact se_gen Go.K (de_lrg2 Go.K Go.calm (glB_ok h1) (Go.bu _ (by decide)) (glB_ok h3) (Go.bu _ (by decide)) s s2 h5 h6) rfl fun _ => rfl
      · cases h5
    · cases h
  | .isi t a, X, sc, e, Go, hs, h => by
    simp only [mE] at h
    split at h
    · simp only [Bool.and_eq_true, decide_eq_true_eq] at h
      subst hs
      obtain ⟨⟨⟨⟨⟨h1, h2⟩, h3⟩, h4⟩, h5⟩, h6⟩ := h
      subst h2
      subst h5
      exact se_gen Go.K (de_isi Go.K (sE a X _ _ Go rfl h6).1 h3 (glB_ok h1) (Go.bu _ (by decide)) rfl (glB_ok h4) (Go.bu _ (tyStr_in t))) rfl fun _ => rfl
    · cases h
  | .mt m r a, X, sc, e, Go, hs, h => by
    simp only [mE] at h
    split at h
    · simp only [Bool.and_eq_true, decide_eq_true_eq] at h
      obtain ⟨⟨⟨⟨⟨h1, h2⟩, h3⟩, h4⟩, h5⟩, h6⟩ := h
      subst h2
      exact se_gen Go.K (de_mf Go.K h1 (by have := Go.units; omega) (sE r X sc _ Go hs h5).1 (sE a X sc _ Go hs h6).1 h4 rfl h3) rfl fun _ => rfl
    · cases h
  | .rep es a, X, sc, e, Go, hs, h => by
    simp only [mE] at h
    split at h
    · simp only [Bool.and_eq_true, decide_eq_true_eq] at h
      exact se_gen Go.K (de_rep Go.K (sEs es X sc _ Go hs h.1.1) (sE a X sc _ Go hs h.2).1 h.1.2 (evs_len h.1.1)) rfl fun _ => rfl
    · cases h
  | .pop i args, X, sc, e, Go, hs, h => by
    simp only [mE] at h
    split at h
    · rename_i x p m ap ys pos
      simp only [Bool.and_eq_true, decide_eq_true_eq] at h
      subst hs
      obtain ⟨⟨⟨⟨h1, h2⟩, h3⟩, h4⟩, h5⟩ := h
      subst h1
      obtain ⟨k1, k2, k3, k4⟩ := varB_ok h2
      exact sPop args X p ap ys pos i x Go h4 h5 (Go.nm ▸ k1) k2 k3 k4 h3
    · cases h
  | .rngs lo hi st, X, sc, e, Go, hs, h => by
    simp only [mE] at h
    split at h
    · simp only [Bool.and_eq_true, decide_eq_true_eq] at h
      subst hs
      obtain ⟨⟨⟨⟨⟨⟨⟨⟨⟨h1, h2⟩, h3⟩, h4⟩, h5⟩, h6⟩, h7⟩, h8⟩, h9⟩, h10⟩ := h
      subst h2
      subst h4
      exact se_gen Go.K (de_rngs Go.K Go.calm (glB_ok h1) (Go.bu _ (by decide)) (glB_ok h3) (Go.bu _ (by decide)) (sE lo X _ _ Go rfl h8).1 (sE hi X _ _ Go rfl h9).1 (sE st X _ _ Go rfl h10).1 h5 h6 h7) rfl fun _ => rfl
    · cases h
  | .srt a, X, sc, e, Go, hs, h => by
    simp only [mE] at h
    split at h
    · simp only [Bool.and_eq_true, decide_eq_true_eq] at h
      subst hs
      obtain ⟨⟨⟨⟨⟨h1, h2⟩, h3⟩, h4⟩, h5⟩, h6⟩ := h
      subst h2
      subst h4
      exact se_gen Go.K (de_srt Go.K Go.calm (glB_ok h1) (Go.bu _ (by decide)) (glB_ok h3) (Go.bu _ (by decide)) (sE a X _ _ Go rfl h6).1 h5) rfl fun _ => rfl
    · cases h
  | .cnt a, X, sc, e, Go, hs, h => by
    simp only [mE] at h
    split at h
    · simp only [Bool.and_eq_true, decide_eq_true_eq] at h
      subst hs
      obtain ⟨⟨⟨⟨⟨h1, h2⟩, h3⟩, h4⟩, h5⟩, h6⟩ := h
      subst h2
      subst h4
      exact se_gen Go.K (de_cnt Go.K Go.calm (glB_ok h1) (Go.bu _ (by decide)) (glB_ok h3) (Go.bu _ (by decide)) (sE a X _ _ Go rfl h6).1 h5) rfl fun _ => rfl
    · cases h
theorem sPop : ∀ (args : Es) (X : Cx) (p ap : Pos) (ys : List Expr) (pos : Pos) (i : Nat) (x : PySem.Str), Good T g cl n N X → mEs T N args X.env.scope ys = true → ys.length ≤ 1 → X.N[i]? = some x → Vis X.env.scope x → (x == ("__debug__" : PySem.Str)) = false → (x == ("__classdict__" : PySem.Str)) = false → (ap.endLine == pos.line) = true →
    SE X g cl (.pop i args) (.Call (.Attribute (.Name x p) "pop" ap) ys [] pos)
  | .nil, X, p, ap, ys, pos, i, x, Go, h4, h5, k1, k2, k3, k4, h3 => by
    simp only [mEs] at h4
    split at h4
    · exact se_gen Go.K (by rw [← ev_pop0]; exact de_pop0 Go.K k1 k2 k3 k4 h3) rfl fun _ => rfl
    · cases h4
  | .cons a .nil, X, p, ap, ys, pos, i, x, Go, h4, h5, k1, k2, k3, k4, h3 => by
    simp only [mEs] at h4
    split at h4
    · simp only [Bool.and_eq_true] at h4
      obtain ⟨⟨h6, h7⟩, h8⟩ := h4
      split at h8
      · exact se_gen Go.K (by rw [← ev_pop1]; exact de_pop1 Go.K k1 k2 k3 k4 (sE a X _ _ Go rfl h7).1 h6 h3) rfl fun _ => rfl
      · cases h8
    · cases h4
  | .cons a (.cons b c), X, p, ap, ys, pos, i, x, Go, h4, h5, k1, k2, k3, k4, h3 => by
    simp only [mEs] at h4
    split at h4
    · simp only [Bool.and_eq_true] at h4
      obtain ⟨⟨h6, h7⟩, h8⟩ := h4
      split at h8
      · simp at h5
      · cases h8
    · cases h4
theorem sEs : ∀ (es : Es) (X : Cx) (sc : Scope) (xs : List Expr), Good T g cl n N X → X.env.scope = sc → mEs T N es sc xs = true → PA X xs (tAs g (evs cl es))
  | .nil, X, sc, xs, Go, hs, h => by
    simp only [mEs] at h
    split at h
    · exact da_nil Go.K
    · cases h
  | .cons a as, X, sc, xs, Go, hs, h => by
    simp only [mEs] at h
    split at h
    · simp only [Bool.and_eq_true] at h
      exact da_cons Go.K (sE a X sc _ Go hs h.1.2).1 (sEs as X sc _ Go hs h.2) h.1.1
    · cases h
theorem sIfs : ∀ (es : Es) (X : Cx) (sc : Scope) (xs : List Expr), Good T g cl n N X → X.env.scope = sc → mIfs T N es sc xs = true → PTs X xs (tTs g (evIfs cl es))
  | .nil, X, sc, xs, Go, hs, h => by
    simp only [mIfs] at h
    split at h
    · exact dts_nil Go.K
    · cases h
  | .cons a .nil, X, sc, xs, Go, hs, h => by
    simp only [mIfs] at h
    split at h
    · exact pts_one (sE a X sc _ Go hs h).2.1
    · cases h
  | .cons a (.cons b c), X, sc, xs, Go, hs, h => by
    simp only [mIfs] at h
    cases h
theorem sO : ∀ (es : Es) (X : Cx) (sc : Scope) (o : Option Expr), Good T g cl n N X → X.env.scope = sc → mO T N es sc o = true → PO X o (tOs g (evO cl es))
  | .nil, X, sc, xs, Go, hs, h => by
    simp only [mO] at h
    split at h
    · exact do_none Go.K
    · cases h
  | .cons a .nil, X, sc, xs, Go, hs, h => by
    simp only [mO] at h
    split at h
    · exact do_some Go.K (sE a X sc _ Go hs h).1
    · cases h
  | .cons a (.cons b c), X, sc, xs, Go, hs, h => by
    simp only [mO] at h
    cases h
theorem sW : ∀ (w : Wk) (X : Cx) (sc : Scope) (tg e : Expr), Good T g cl n N X → X.env.scope = sc → mW T N w sc tg e = true → PI X tg e (tIs g (pwOf w) (evIt cl w))
  | .of a, X, sc, tg, e, Go, hs, h => by
    simp only [mW] at h
    exact di_of Go.K (sE a X sc _ Go hs h).1
  | .rng1 a, X, sc, tg, e, Go, hs, h => by
    simp only [mW] at h
    split at h
    · simp only [Bool.and_eq_true, decide_eq_true_eq] at h
      subst hs
      obtain ⟨⟨⟨h1, h2⟩, h3⟩, h4⟩ := h
      subst h2
      exact di_rng1 Go.K (glB_ok h1) (Go.bu _ (by decide)) (sE a X _ _ Go rfl h4).1 h3
    · cases h
  | .rng a b, X, sc, tg, e, Go, hs, h => by
    simp only [mW] at h
    split at h
    · simp only [Bool.and_eq_true, decide_eq_true_eq] at h
      subst hs
      obtain ⟨⟨⟨⟨⟨h1, h2⟩, h3⟩, h4⟩, h5⟩, h6⟩ := h
      subst h2
      exact di_rng Go.K (glB_ok h1) (Go.bu _ (by decide)) (sE a X _ _ Go rfl h5).1 (sE b X _ _ Go rfl h6).1 h3 h4
    · cases h
  | .enum a, X, sc, tg, e, Go, hs, h => by
    simp only [mW] at h
    split at h
    · simp only [Bool.and_eq_true, decide_eq_true_eq] at h
      subst hs
      obtain ⟨⟨⟨⟨h0, h1⟩, h2⟩, h3⟩, h4⟩ := h
      subst h2
      cases tg with
      | Tuple elts kk tpos => exact di_enum Go.K (glB_ok h1) (Go.bu _ (by decide)) (sE a X _ _ Go rfl h4).1 h3
      | _ => cases h0
    · cases h
  | .zip a b, X, sc, tg, e, Go, hs, h => by
    simp only [mW] at h
    split at h
    · simp only [Bool.and_eq_true, decide_eq_true_eq] at h
      subst hs
      obtain ⟨⟨⟨⟨⟨⟨h0, h1⟩, h2⟩, h3⟩, h4⟩, h5⟩, h6⟩ := h
      subst h2
      cases tg with
      | Tuple elts kk tpos => exact di_zip Go.K (glB_ok h1) (Go.bu _ (by decide)) (sE a X _ _ Go rfl h5).1 (sE b X _ _ Go rfl h6).1 h3 h4
      | _ => cases h0
    · cases h
end
end
end PV

end
section
set_option Elab.async false
set_option linter.all false
set_option maxRecDepth 100000
set_option maxHeartbeats 4000000
/-! DN: the matcher for statements, and its soundness. -/
namespace PV
open PySem PySem.Spec PyProof.Rows L2
mutual
/-- the slots that may be bound to other values -/
def wrS : S → List Nat
  | .asg i _ => [i]
  | .new i _ => [i]
  | .asgT is _ => is
  | .par i _ _ j _ _ => [i, j]
  | .par3 i _ _ j _ _ l _ _ => [i, j, l]
  | .aug _ i _ => [i]
  | .ite _ a b => wrSs a ++ wrSs b
  | .for_ vs _ body => vs ++ wrSs body
  | .whl _ body => wrSs body
  | _ => []
def wrSs : Ss → List Nat
  | .nil => []
  | .cons s ss => wrS s ++ wrSs ss
end
/-- hands on a value, never a name's own list -/
def noP : E → Bool
  | .pk _ => false
  | .and _ _ => false
  | .or _ _ => false
  | .ite _ _ _ => false
  | _ => true
def lvB : Wk → List Nat → Bool
  | .of (.pk i), w => decide (i ∉ w)
  | .of e, _ => noP e
  | _, _ => true
def IsV (o : Option (Hd × Env)) : Prop := ∀ h ρ', o = some (h, ρ') → ∃ d, h = .v d
theorem isV_none : IsV none := fun _ _ e => nomatch e
theorem isV_some {d : D} {ρ : Env} : IsV (some (.v d, ρ)) := fun _ _ e => by cases e; exact ⟨_, rfl⟩
theorem isV_bind {α : Type} {o : Option α} {f : α → Option (Hd × Env)} (h : ∀ x, IsV (f x)) : IsV (o >>= f) := by
  cases o with
  | none => exact isV_none
  | some x => exact h x
theorem noP_v {c : Call} {ρ : Env} : ∀ {e : E}, noP e = true → IsV (ev c e ρ) := by
  intro e h
  cases e <;> first
    | (cases h; done)
    | (simp only [ev]
       repeat' (first | exact isV_none | exact isV_some | refine isV_bind fun _ => ?_ | split))
def IsW (o : Option (Src × Env)) : Prop := ∀ s ρ', o = some (s, ρ') → ∃ xs, s = .vals xs
theorem isW_none : IsW none := fun _ _ e => nomatch e
theorem isW_some {d : List D} {ρ : Env} : IsW (some (.vals d, ρ)) := fun _ _ e => by cases e; exact ⟨_, rfl⟩
theorem isW_bind {α : Type} {o : Option α} {f : α → Option (Src × Env)} (h : ∀ x, o = some x → IsW (f x)) : IsW (o >>= f) := by
  cases o with
  | none => exact isW_none
  | some x => exact h x rfl
theorem zipS_vals {x y : D} {s : Src} (h : zipS x y = some s) : ∃ xs, s = .vals xs := by
  unfold zipS at h
  split at h <;> cases h <;> exact ⟨_, rfl⟩
theorem lv_ok {c : Call} {w : Wk} {ws : List Nat} (h : lvB w ws = true) : ∀ ρ i ρ', evIt c w ρ = some (.live i, ρ') → i ∉ ws := by
  intro ρ i ρ' e
  have no : ¬ IsW (evIt c w ρ) := fun q => by obtain ⟨_, z⟩ := q _ _ e; cases z
  have of_v : ∀ a : E, w = .of a → noP a = true → False := fun a hw hn => by
    subst hw
    refine no ?_
    simp only [evIt]
    refine isW_bind fun r hr => ?_
    obtain ⟨d, hd⟩ := noP_v hn _ _ hr
    obtain ⟨r1, r2⟩ := r
    dsimp only at hd ⊢
    subst hd
    refine isW_bind fun s hs => ?_
    cases d with
    | str x =>
      simp only [srcOf] at hs
      split at hs
      · cases hs; exact isW_some
      · cases hs
    | _ => first | (cases hs; done) | (cases hs; exact isW_some)
  cases w with
  | of a =>
    cases a with
    | pk j =>
      have h : decide (j ∉ ws) = true := h
      simp only [evIt, ev, bindS] at e
      obtain ⟨⟨x, ρ1⟩, e1, s, e2, e3⟩ := e
      cases e3
      split at e1
      · cases e1
        simp only [srcOf] at e2
        split at e2
        · cases e2; exact of_decide_eq_true h
        · cases e2
      · cases e1
    | _ => exact (of_v _ rfl h).elim
  | rng1 a =>
    refine (no ?_).elim
    simp only [evIt]
    refine isW_bind fun r _ => ?_
    split
    · split
      · exact isW_some
      · exact isW_none
    · exact isW_none
  | rng a b =>
    refine (no ?_).elim
    simp only [evIt]
    refine isW_bind fun r _ => isW_bind fun r2 _ => ?_
    split
    · split
      · exact isW_some
      · exact isW_none
    · exact isW_none
  | enum a =>
    refine (no ?_).elim
    simp only [evIt]
    exact isW_bind fun r _ => isW_bind fun r2 _ => isW_bind fun r3 _ => isW_some
  | zip a b =>
    refine (no ?_).elim
    simp only [evIt]
    refine isW_bind fun r _ => isW_bind fun r2 _ => isW_bind fun r3 _ => isW_bind fun r4 _ => isW_bind fun s hs => ?_
    obtain ⟨xs, rfl⟩ := zipS_vals hs
    exact isW_some
def isFn (sc : Scope) : Bool := match sc.kind with
  | .function => true
  | _ => false
def swB (sc : Scope) (x : PySem.Str) (px : Pos) : Expr → Bool
  | .ListComp _ _ s p => decide (sc.names.lookup x = some .local) && px.line == p.line && !(s.names.any fun (n, k) => n == x && (k == .local || k == .cell))
  | _ => false
def isLc : Expr → Bool
  | .ListComp .. => true
  | .SetComp .. => true
  | .DictComp .. => true
  | _ => false
def isC2 : E → Bool
  | .comp2 .. => true
  | _ => false
/-- some name of it is no plain local -/
def notLoc (sc : Scope) : Expr → Bool
  | .Tuple ts _ _ => ts.any fun t => match t with | .Name x _ => !decide (sc.names.lookup x = some .local) | _ => false
  | _ => false
theorem filterMap_short {α β : Type} (f : α → Option β) : ∀ l : List α, (l.filterMap f).length ≤ l.length ∧ ((∃ x ∈ l, f x = none) → (l.filterMap f).length < l.length)
  | [] => ⟨Nat.le_refl _, fun ⟨_, h, _⟩ => nomatch h⟩
  | a :: l => by
    obtain ⟨h1, h2⟩ := filterMap_short f l
    cases q : f a with
    | none =>
      rw [List.filterMap_cons_none q]
      exact ⟨by simp only [List.length_cons]; omega, fun _ => by simp only [List.length_cons]; omega⟩
    | some b =>
      rw [List.filterMap_cons_some q]
      refine ⟨by simp only [List.length_cons]; omega, fun ⟨x, hx, e⟩ => ?_⟩
      rcases List.mem_cons.mp hx with rfl | hx
      · rw [q] at e; cases e
      · have := h2 ⟨x, hx, e⟩
        simp only [List.length_cons]; omega
theorem notLoc_ok {sc : Scope} {env : PySem.Env} {ts vs : List Expr} {k1 k2 : Nat} {p1 p2 : Pos} (hs : env.scope = sc) (h : notLoc sc (.Tuple ts k1 p1) = true) (hv : (vs.any fun | .Starred .. => true | _ => false) = false) : swappedStores [.Tuple ts k1 p1] (.Tuple vs k2 p2) env = pure none := by
  subst hs
  unfold swappedStores
  dsimp only
  by_cases c : (!(ts.length == 2 || ts.length == 3) || vs.length != ts.length || env.blockKind != .function) = true
  · exact if_pos c
  · refine (if_neg c).trans ?_
    refine (if_neg (Bool.eq_false_iff.mp hv)).trans ?_
    have hlen : ((ts.filterMap fun t => match t with
      | .Name id pos => if env.kindOf id == some .local && pos.line == (ts.head?.map (·.pos.line)).getD 0 then some id else none
      | _ => none).length != ts.length) = true := by
      have := (filterMap_short (fun t : Expr => match t with
        | .Name id pos => if env.kindOf id == some .local && pos.line == (ts.head?.map (·.pos.line)).getD 0 then some id else none
        | _ => none) ts).2 (by
          obtain ⟨t, ht, e⟩ := List.any_eq_true.mp h
          refine ⟨t, ht, ?_⟩
          cases t with
          | Name x px =>
            have e : (!decide (env.scope.names.lookup x = some .local)) = true := e
            have e2 : (env.kindOf x == some NameKind.local) = false := by
              show (env.scope.names.lookup x == some NameKind.local) = false
              cases q : env.scope.names.lookup x with
              | none => rfl
              | some k => rw [q] at e; cases k <;> first | rfl | (simp at e)
            show (if env.kindOf x == some .local && px.line == (ts.head?.map (·.pos.line)).getD 0 then some x else none) = none
            rw [e2]; rfl
          | _ => cases e)
      simp only [bne_iff_ne, ne_eq]
      omega
    refine if_pos (Bool.or_eq_true_iff.mpr (.inl hlen))
/-- a tuple of constants, told at once -/
def foldAll : Expr → Bool
  | .Tuple vs _ _ => vs.all (foldedForSure 8)
  | _ => false
theorem fold_ok {env : PySem.Env} {ts vs : List Expr} {k1 k2 : Nat} {p1 p2 : Pos} (h : foldAll (.Tuple vs k2 p2) = true) (hv : (vs.any fun | .Starred .. => true | _ => false) = false) : swappedStores [.Tuple ts k1 p1] (.Tuple vs k2 p2) env = pure none := by
  have h : vs.all (foldedForSure 8) = true := h
  unfold swappedStores
  dsimp only
  by_cases c : (!(ts.length == 2 || ts.length == 3) || vs.length != ts.length || env.blockKind != .function) = true
  · exact if_pos c
  · refine (if_neg c).trans ?_
    refine (if_neg (Bool.eq_false_iff.mp hv)).trans ?_
    split
    · rfl
    · first | rfl | exact if_pos h
def augB : Op2 → Operator → Bool
  | .add, .Add => true
  | .sub, .Sub => true
  | .mul, .Mult => true
  | _, _ => false
mutual
def mS (T : Tab) (N : List PySem.Str) (sc : Scope) : S → Stmt → Bool
  | .asg i e, st => match st with
    | .Assign [.Name x px] pe _ => decide (N[i]? = some x) && locB sc x && (!isLc pe || swB sc x px pe || (match pe with | .ListComp .. => true | _ => false)) && mE T N e sc pe
    | _ => false
  | .new i e, st => match st with
    | .Assign [.Name x px] pe _ => decide (N[i]? = some x) && locB sc x && (!isLc pe || swB sc x px pe || (match pe with | .ListComp .. => true | _ => false)) && fr e && mE T N e sc pe
    | _ => false
  | .asgT is e, st => match st with
    | .Assign [tg] pe _ => isTupE tg && tgB N sc is tg && (!isTupE pe || (notLoc sc tg || foldAll pe)) && mE T N e sc pe
    | _ => false
  | .par i ni a j nj b, st => match st with
    | .Assign [.Tuple [.Name x px, .Name y py] kt pt] (.Tuple [pa, pb] _ _) _ => decide (N[i]? = some x) && decide (N[j]? = some y) && decide (i ≠ j) && (parB sc x y px py pa pb || (!ni && nj && plain pa && plain pb && tgB N sc [i, j] (.Tuple [.Name x px, .Name y py] kt pt) && notLoc sc (.Tuple [.Name x px, .Name y py] kt pt))) && (!ni || fr a) && (!nj || fr b) && mE T N a sc pa && mE T N b sc pb
    | _ => false
  | .ex e, st => match st with
    | .Expr pe _ => !isLc pe && mE T N e sc pe
    | _ => false
  | .app i e, st => match st with
    | .Expr (.Call (.Attribute (.Name x _) m ap) [y] [] pos) _ => decide (m = "append") && varB N sc i x && (ap.endLine == pos.line) && plain y && mE T N e sc y
    | _ => false
  | .ext i e, st => match st with
    | .Expr (.Call (.Attribute (.Name x _) m ap) [y] [] pos) _ => decide (m = "extend") && varB N sc i x && (ap.endLine == pos.line) && plain y && mE T N e sc y
    | _ => false
  | .set i ix e, st => match st with
    | .Assign [.Subscript (.Name x _) pi _] pe _ => varB N sc i x && ixOk pi && mE T N ix sc pi && mE T N e sc pe
    | _ => false
  | .aug o i e, st => match st with
    | .AugAssign (.Name x _) p pe _ => augB o p && decide (N[i]? = some x) && locB sc x && mE T N e sc pe
    | _ => false
  | .augs o i ix e, st => match st with
    | .AugAssign (.Subscript (.Name x _) pi _) p pe _ => augB o p && varB N sc i x && ixOk pi && mE T N ix sc pi && mE T N e sc pe
    | _ => false
  | .ite c a b, st => match st with
    | .If pc sa sb _ => mE T N c sc pc && mSs T N sc a sa && mSs T N sc b sb
    | _ => false
  | .for_ vs it body, st => match st with
    | .For tg iter sb [] _ => plain iter && tgB N sc vs tg && lvB it (vs ++ wrSs body) && mW T N it sc tg iter && mSs T N sc body sb
    | _ => false
  | .whl c body, st => match st with
    | .While pc sb [] _ => mE T N c sc pc && mSs T N sc body sb
    | _ => false
  | .ret e, st => match st with
    | .Return (some pe) _ => mE T N e sc pe
    | _ => false
  | .brk, st => match st with
    | .Break _ => true
    | _ => false
  | .cnt, st => match st with
    | .Continue _ => true
    | _ => false
  | .pass, st => match st with
    | .Pass _ => true
    | _ => false
  | .frz _, _ => false
  | .par3 i ni a j nj b l nl c, st => match st with
    | .Assign [.Tuple [.Name x px, .Name y py, .Name z pz] kt pt] (.Tuple [pa, pb, pc] _ _) _ => decide (N[i]? = some x) && decide (N[j]? = some y) && decide (N[l]? = some z) && decide (i ≠ j) && decide (i ≠ l) && decide (j ≠ l) && (parB3 sc x y z px py pz pa pb pc || (!ni && !nj && nl && plain pa && plain pb && plain pc && tgB N sc [i, j, l] (.Tuple [.Name x px, .Name y py, .Name z pz] kt pt) && notLoc sc (.Tuple [.Name x px, .Name y py, .Name z pz] kt pt))) && (!ni || fr a) && (!nj || fr b) && (!nl || fr c) && mE T N a sc pa && mE T N b sc pb && mE T N c sc pc
    | _ => false
  | .no, _ => true
termination_by structural s => s
def mSs (T : Tab) (N : List PySem.Str) (sc : Scope) : Ss → List Stmt → Bool
  | .nil, sts => match sts with
    | [] => true
    | _ => false
  | .cons s ss, sts => match s with
    | .frz _ => mSs T N sc ss sts
    | _ => match sts with
      | st :: sts => mS T N sc s st && mSs T N sc ss sts
      | [] => false
termination_by structural s => s
end
structure GoodS (T : Tab) (g : G) (cl : Call) (n : Nat) (N : List PySem.Str) (X : Cx) : Prop extends Good T g cl n N X where
  fnT : ∀ x, X.fn x = true
  po : PassesOwn (model X.prog X.w) X.A X.env X.xe
  kd : X.env.scope.kind = .function
section
variable {T : Tab} {g : G} {cl : Call} {n : Nat} {N : List PySem.Str} {X : Cx}
theorem swB_ok {x : PySem.Str} {px : Pos} {e : Expr} {line : Nat} (hk : X.env.scope.kind = .function) (h : isLc e = false ∨ ∃ a b c d, e = .ListComp a b c d) : swapsWith e (some (.Name x px)) line X.env = pure (swB X.env.scope x px e) := by
  rcases h with h | ⟨a, b, c, d, rfl⟩
  · cases e <;> first | rfl | (cases h; done)
  · have hb : X.env.blockKind = .function := by unfold Env.blockKind; rw [hk]; rfl
    show (pure (X.env.blockKind == .function && X.env.kindOf x == some .local && px.line == d.line && !(c.names.any fun (n, k) => n == x && (k == .local || k == .cell))) : Sem Bool) = _
    rw [hb]
    have : (X.env.kindOf x == some NameKind.local) = decide (X.env.scope.names.lookup x = some .local) := by
      show (X.env.scope.names.lookup x == some NameKind.local) = _
      cases X.env.scope.names.lookup x with
      | none => rfl
      | some k => cases k <;> rfl
    rw [this]
    rfl
theorem sw_none {e : Expr} {line : Nat} {env : PySem.Env} (h : isLc e = false) : swapsWith e none line env = pure false := by
  cases e <;> first | rfl | (cases h; done)
theorem lc_or {x : PySem.Str} {px : Pos} {e : Expr} {sc : Scope} (h : (!isLc e || swB sc x px e || (match e with | .ListComp .. => true | _ => false)) = true) : isLc e = false ∨ ∃ a b c d, e = .ListComp a b c d := by
  cases e <;> first | exact .inl rfl | exact .inr ⟨_, _, _, _, rfl⟩ | (cases h; done)
theorem augB_ok {o : Op2} {p : Operator} (h : augB o p = true) : p = augOp o := by
  cases o <;> cases p <;> first | rfl | (cases h; done)
/-- a comprehension given to a name, swapped -/
theorem sSetC {i : Nat} {x : PySem.Str} {px spos : Pos} {pe : Expr} {e : E} (Go : GoodS T g cl n N X) (hi : X.N[i]? = some x) (hsw : swB X.env.scope x px pe = true) (h : mE T N e X.env.scope pe = true) (own? : Bool) :
    PS X (.Assign [.Name x px] pe spos) (tS g [i] fun ρ => if own? = true then (do
    let (h, ρ) ← ev cl e ρ
    match h with
    | .v (.lst ds) => some (.next, ρ.put i (.own ds))
    | _ => none) else do
    let (h, ρ) ← ev cl e ρ
    let d ← h.val
    some (.next, ρ.put i (.val d))) := by
  have hlc : ∃ a b c d, pe = .ListComp a b c d := by
    cases pe <;> first | exact ⟨_, _, _, _, rfl⟩ | (cases hsw; done)
  obtain ⟨ea, eb, ec, ed, rfl⟩ := hlc
  have hsw2 := swB_ok (X := X) (x := x) (px := px) (e := .ListComp ea eb ec ed) (line := spos.line) Go.kd (.inr ⟨_, _, _, _, rfl⟩)
  rw [hsw] at hsw2
  have hl : X.env.scope.names.lookup x = some .local := by
    simp only [swB, Bool.and_eq_true, decide_eq_true_eq] at hsw
    exact hsw.1.1
  cases e with
  | comp vs it ifs elt =>
    simp only [mE] at h
    split at h
    · rename_i pe tg iter pifs scope pos hq
      cases hq
      simp only [Bool.and_eq_true] at h
      obtain ⟨⟨⟨⟨⟨h1, h2⟩, h3⟩, h4⟩, h5⟩, h6⟩ := h
      have := ds_setC (pw := pwOf it) (by rw [own_snd]; exact pw_len h4 h3) (own := ownOf N vs) (py := px) (spos := spos) (i := i) Go.K Go.calm (Go.nm ▸ Go.nd) hi hl hsw2 (sW it X _ tg iter Go.toGood rfl h4) (by rw [Go.nm]; exact blkOk_by h2)
        (fun s H C cl' fp => by
          rw [own_snd]
          refine tgOk (Go.toGood.blk s H ec C cl' fp) (fun x hx => ?_) h3
          have hl : ec.names.lookup x = some .local ∨ ec.names.lookup x = some .cell := locB_ok hx
          rcases hl with q | q
          · exact ⟨.inl (lookup_relS_keep (by decide) q), .inr (lookup_relS_keep (by decide) q)⟩
          · exact ⟨.inr (lookup_relS_keep (by decide) q), .inl (by show (ec.names.lookup x == some .cell) = true; rw [q]; rfl)⟩)
        (fun s H C cl' fp => sIfs ifs _ _ _ (Go.toGood.blk s H ec C cl' fp) rfl h5)
        (fun s H C cl' fp => (sE elt _ _ _ (Go.toGood.blk s H ec C cl' fp) rfl h6).1) (fold_plain h1) own?
      rw [own_snd] at this
      exact this
    · cases h
  | comp2 vs it ifs vs2 it2 ifs2 elt =>
    simp only [mE] at h
    split at h
    · rename_i pe tg iter pifs tg2 iter2 pifs2 scope pos hq
      cases hq
      simp only [Bool.and_eq_true] at h
      obtain ⟨⟨⟨⟨⟨⟨⟨⟨⟨h1, h1'⟩, h2⟩, h3⟩, h3'⟩, h4⟩, h5⟩, h6⟩, h7⟩, h8⟩ := h
      have tgk : ∀ (ws : List Nat) (tg : Expr), tgB N ec ws tg = true → ∀ (s : Shared) (H : Hp) (C : Addr) (cl' : List (PySem.Str × Addr)) (fp : List Addr), PG (X.blk s H ec (compEnvC ec cl' C X.env) fp) tg (gOf g.K ws) := fun ws tg h3 s H C cl' fp => by
        refine tgOk (Go.toGood.blk s H ec C cl' fp) (fun x hx => ?_) h3
        have hl : ec.names.lookup x = some .local ∨ ec.names.lookup x = some .cell := locB_ok hx
        rcases hl with q | q
        · exact ⟨.inl (lookup_relS_keep (by decide) q), .inr (lookup_relS_keep (by decide) q)⟩
        · exact ⟨.inr (lookup_relS_keep (by decide) q), .inl (by show (ec.names.lookup x == some .cell) = true; rw [q]; rfl)⟩
      exact ds_setC2 (pw := pwOf it) (pw1 := pwOf it2) (own := ownOf N (vs ++ vs2)) (py := px) (spos := spos) (i := i) own_snd (pw_len h4 h3) (pw_len h6 h3') Go.K Go.calm (Go.nm ▸ Go.nd) hi hl hsw2 (sW it X _ tg iter Go.toGood rfl h4) (by rw [Go.nm]; exact blkOk_by h2)
        (tgk vs tg h3)
        (fun s H C cl' fp => sIfs ifs _ _ _ (Go.toGood.blk s H ec C cl' fp) rfl h5)
        (fun s H C cl' fp => sW it2 _ _ _ _ (Go.toGood.blk s H ec C cl' fp) rfl h6)
        (tgk vs2 tg2 h3')
        (fun s H C cl' fp => sIfs ifs2 _ _ _ (Go.toGood.blk s H ec C cl' fp) rfl h7)
        (fun s H C cl' fp => (sE elt _ _ _ (Go.toGood.blk s H ec C cl' fp) rfl h8).1) (fold_plain h1) (fun env => fold_plain h1') own?
    · cases h
  | no => exact ⟨fun pins s σ H Dn I ⟨Z, ow, ρ, fl, ρ2, r, e, k⟩ => by cases own? <;> exact nomatch e⟩
  | _ => simp [mE] at h
end
end PV

end
section
set_option Elab.async false
set_option linter.all false
set_option maxRecDepth 100000
set_option maxHeartbeats 4000000
/-! DN2: soundness of the matcher for statements. -/
namespace PV
open PySem PySem.Spec PyProof.Rows L2
section
variable {T : Tab} {g : G} {cl : Call} {n : Nat} {N : List PySem.Str} {X : Cx}
theorem plain_any : ∀ {es : List Expr}, es.all plain = true → (es.any fun | .Starred .. => true | _ => false) = false
  | [], _ => rfl
  | e :: es, h => by
    simp only [List.all_cons, Bool.and_eq_true] at h
    rw [List.any_cons]
    exact Bool.or_eq_false_iff.mpr ⟨star_no e h.1, plain_any h.2⟩
mutual
theorem sS : ∀ (s : S) (X : Cx) (st : Stmt), GoodS T g cl n N X → mS T N X.env.scope s st = true → PS X st (tS g (wrS s) (exS cl s))
  | .asg i e, X, st, Go, h => by
    simp only [mS] at h
    split at h
    · rename_i x px pe pos
      simp only [Bool.and_eq_true, decide_eq_true_eq] at h
      obtain ⟨⟨⟨h1, h2⟩, h3⟩, h4⟩ := h
      cases q : swB X.env.scope x px pe with
      | true => exact sSetC Go (Go.nm ▸ h1) q h4 false
      | false =>
        have hs := swB_ok (x := x) (px := px) (line := pos.line) Go.kd (lc_or h3)
        rw [q] at hs
        exact ds_asg Go.K (Go.nm ▸ Go.nd) (Go.nm ▸ h1) (locB_ok h2) (Go.fnT _) (sE e X _ _ Go.toGood rfl h4).1 hs
    · cases h
  | .new i e, X, st, Go, h => by
    simp only [mS] at h
    split at h
    · rename_i x px pe pos
      simp only [Bool.and_eq_true, decide_eq_true_eq] at h
      obtain ⟨⟨⟨⟨h1, h2⟩, h3⟩, h5⟩, h4⟩ := h
      cases q : swB X.env.scope x px pe with
      | true => exact sSetC Go (Go.nm ▸ h1) q h4 true
      | false =>
        have hs := swB_ok (x := x) (px := px) (line := pos.line) Go.kd (lc_or h3)
        rw [q] at hs
        have he := (sE e X _ _ Go.toGood rfl h4).1
        rw [h5] at he
        exact ds_new Go.K (Go.nm ▸ Go.nd) (Go.nm ▸ h1) (locB_ok h2) (Go.fnT _) he hs
    · cases h
  | .asgT is e, X, st, Go, h => by
    simp only [mS] at h
    split at h
    · rename_i tg pe pos
      simp only [Bool.and_eq_true, Bool.or_eq_true, Bool.not_eq_true'] at h
      obtain ⟨⟨⟨h1, h2⟩, h3⟩, h4⟩ := h
      cases hno : (match e with | .no => true | _ => false) with
      | true =>
        cases e with
        | no => exact ⟨fun pins s σ H Dn I ⟨Z, ow, ρ, fl, ρ2, r, e, k⟩ => nomatch e⟩
        | _ => cases hno
      | false =>
      cases tg with
      | Tuple ts kk tp =>
        refine ds_asgT Go.K (sE e X _ _ Go.toGood rfl h4).1 (tgOk Go.toGood (fun x hx => ⟨locB_ok hx, .inl (Go.fnT _)⟩) h2) ?_ ?_ rfl
        · cases pe <;> rfl
        · rcases h3 with h3 | h3
          · cases pe <;> first | rfl | (cases h3; done)
          · cases pe with
            | Tuple vs k2 p2 =>
              cases e with
              | tup es =>
                simp only [mE, Bool.and_eq_true] at h4
                rcases h3 with h3 | h3
                · exact notLoc_ok rfl h3 (plain_any (mEs_plain h4.1))
                · exact fold_ok h3 (plain_any (mEs_plain h4.1))
              | no => cases hno
              | _ => simp [mE] at h4
            | _ => rfl
      | _ => cases h1
    · cases h
  | .par i ni a j nj b, X, st, Go, h => by
    simp only [mS] at h
    split at h
    · simp only [Bool.and_eq_true, decide_eq_true_eq, Bool.or_eq_true, Bool.not_eq_true'] at h
      obtain ⟨⟨⟨⟨⟨⟨⟨h1, h2⟩, h3⟩, h4⟩, h5⟩, h6⟩, h7⟩, h8⟩ := h
      rcases h4 with h4 | h4
      rotate_left
      · obtain ⟨⟨⟨⟨⟨n1, n2⟩, n3⟩, n4⟩, n5⟩, n6⟩ := h4
        subst n1; subst n2
        have fb : fr b = true := by rcases h6 with z | z; cases z; exact z
        have hB := (sE b X _ _ Go.toGood rfl h8).1
        rw [fb] at hB
        exact ds_parT Go.K h3 n3 n4 (sE a X _ _ Go.toGood rfl h7).1 hB (tgOk Go.toGood (fun x hx => ⟨locB_ok hx, .inl (Go.fnT _)⟩) n5) rfl (notLoc_ok rfl n6 (plain_any (by simp [n3, n4]))) rfl
      exact ds_par Go.K Go.calm (Go.nm ▸ Go.nd) (Go.nm ▸ h1) (Go.nm ▸ h2) h3 h4 (fun q => by rcases h5 with z | z; rw [z] at q; cases q; exact z) (fun q => by rcases h6 with z | z; rw [z] at q; cases q; exact z) (sE a X _ _ Go.toGood rfl h7).1 (sE b X _ _ Go.toGood rfl h8).1
    · cases h
  | .ex e, X, st, Go, h => by
    simp only [mS] at h
    split at h
    · simp only [Bool.and_eq_true, Bool.not_eq_true'] at h
      exact ds_ex Go.K (sE e X _ _ Go.toGood rfl h.2).1 (sw_none h.1)
    · cases h
  | .app i e, X, st, Go, h => by
    simp only [mS] at h
    split at h
    · simp only [Bool.and_eq_true, decide_eq_true_eq] at h
      obtain ⟨⟨⟨⟨h1, h2⟩, h3⟩, h4⟩, h5⟩ := h
      subst h1
      obtain ⟨k1, k2, k3, k4⟩ := varB_ok h2
      exact ds_app Go.K (Go.nm ▸ k1) k2 k3 k4 (sE e X _ _ Go.toGood rfl h5).1 h4 h3
    · cases h
  | .ext i e, X, st, Go, h => by
    simp only [mS] at h
    split at h
    · simp only [Bool.and_eq_true, decide_eq_true_eq] at h
      obtain ⟨⟨⟨⟨h1, h2⟩, h3⟩, h4⟩, h5⟩ := h
      subst h1
      obtain ⟨k1, k2, k3, k4⟩ := varB_ok h2
      exact ds_ext Go.K (Go.nm ▸ k1) k2 k3 k4 (sE e X _ _ Go.toGood rfl h5).1 h4 h3
    · cases h
  | .set i ix e, X, st, Go, h => by
    simp only [mS] at h
    split at h
    · simp only [Bool.and_eq_true] at h
      obtain ⟨⟨⟨h1, h2⟩, h3⟩, h4⟩ := h
      obtain ⟨k1, k2, k3, k4⟩ := varB_ok h1
      refine ds_set Go.K (Go.nm ▸ k1) k2 k3 k4 (sE e X _ _ Go.toGood rfl h4).1 (sE ix X _ _ Go.toGood rfl h3).1 ?_ ?_ ?_ rfl
      · intro v
        rename_i pi _ _ _
        cases pi <;> first | rfl | (cases h2; done)
      · rename_i pe _
        cases pe <;> rfl
      · rename_i pe _
        cases pe <;> rfl
    · cases h
  | .aug o i e, X, st, Go, h => by
    simp only [mS] at h
    split at h
    · simp only [Bool.and_eq_true, decide_eq_true_eq] at h
      obtain ⟨⟨⟨h1, h2⟩, h3⟩, h4⟩ := h
      rw [augB_ok h1]
      exact ds_aug Go.K (Go.nm ▸ Go.nd) (Go.nm ▸ h2) (locB_ok h3) (Go.fnT _) (sE e X _ _ Go.toGood rfl h4).1
    · cases h
  | .augs o i ix e, X, st, Go, h => by
    simp only [mS] at h
    split at h
    · simp only [Bool.and_eq_true] at h
      obtain ⟨⟨⟨⟨h1, h2⟩, h3⟩, h4⟩, h5⟩ := h
      rw [augB_ok h1]
      obtain ⟨k1, k2, k3, k4⟩ := varB_ok h2
      refine ds_augs Go.K (Go.nm ▸ k1) k2 k3 k4 (sE e X _ _ Go.toGood rfl h5).1 (sE ix X _ _ Go.toGood rfl h4).1 ?_
      intro ov iv new
      rename_i pi _ _ _ _
      cases pi <;> first | rfl | (cases h3; done)
    · cases h
  | .ite c a b, X, st, Go, h => by
    simp only [mS] at h
    split at h
    · simp only [Bool.and_eq_true] at h
      exact ds_ite Go.K (sE c X _ _ Go.toGood rfl h.1.1).2.1 (sSs a X _ Go h.1.2) (sSs b X _ Go h.2)
    · cases h
  | .for_ vs it body, X, st, Go, h => by
    simp only [mS] at h
    split at h
    · simp only [Bool.and_eq_true] at h
      obtain ⟨⟨⟨⟨h1, h2⟩, h3⟩, h4⟩, h5⟩ := h
      exact ds_for (pw_len h4 h2) Go.K Go.po Go.calm (sW it X _ _ _ Go.toGood rfl h4) (tgOk Go.toGood (fun x hx => ⟨locB_ok hx, .inl (Go.fnT _)⟩) h2) (sSs body X _ Go h5) (fold_plain h1) (lv_ok h3)
    · cases h
  | .whl c body, X, st, Go, h => by
    simp only [mS] at h
    split at h
    · simp only [Bool.and_eq_true] at h
      exact ds_whl Go.K Go.po (sE c X _ _ Go.toGood rfl h.1).2.1 (sSs body X _ Go h.2)
    · cases h
  | .ret e, X, st, Go, h => by
    simp only [mS] at h
    split at h
    · exact ds_ret Go.K (sE e X _ _ Go.toGood rfl h).1
    · cases h
  | .brk, X, st, Go, h => by
    simp only [mS] at h
    split at h
    · exact ds_brk Go.K
    · cases h
  | .cnt, X, st, Go, h => by
    simp only [mS] at h
    split at h
    · exact ds_cnt Go.K
    · cases h
  | .pass, X, st, Go, h => by
    simp only [mS] at h
    split at h
    · exact ds_pass Go.K
    · cases h
  | .frz _, X, st, Go, h => by
    simp only [mS] at h
    cases h
  | .par3 i ni a j nj b l nl c, X, st, Go, h => by
    simp only [mS] at h
    split at h
    · simp only [Bool.and_eq_true, decide_eq_true_eq, Bool.or_eq_true, Bool.not_eq_true'] at h
      obtain ⟨⟨⟨⟨⟨⟨⟨⟨⟨⟨⟨⟨h1, h2⟩, h2'⟩, h3⟩, h3'⟩, h3''⟩, h4⟩, h5⟩, h6⟩, h6'⟩, h7⟩, h8⟩, h9⟩ := h
      rcases h4 with h4 | h4
      rotate_left
      · obtain ⟨⟨⟨⟨⟨⟨⟨n1, n2⟩, n3⟩, n4⟩, n5⟩, n6⟩, n7⟩, n8⟩ := h4
        subst n1; subst n2; subst n3
        have fc : fr c = true := by rcases h6' with z | z; cases z; exact z
        have hC := (sE c X _ _ Go.toGood rfl h9).1
        rw [fc] at hC
        exact ds_parT3 Go.K h3 h3' h3'' n4 n5 n6 (sE a X _ _ Go.toGood rfl h7).1 (sE b X _ _ Go.toGood rfl h8).1 hC (tgOk Go.toGood (fun x hx => ⟨locB_ok hx, .inl (Go.fnT _)⟩) n7) rfl (notLoc_ok rfl n8 (plain_any (by simp [n4, n5, n6]))) rfl
      exact ds_par3 Go.K Go.calm (Go.nm ▸ Go.nd) (Go.nm ▸ h1) (Go.nm ▸ h2) (Go.nm ▸ h2') h3 h3' h3'' h4 (fun q => by rcases h5 with z | z; rw [z] at q; cases q; exact z) (fun q => by rcases h6 with z | z; rw [z] at q; cases q; exact z) (fun q => by rcases h6' with z | z; rw [z] at q; cases q; exact z) (sE a X _ _ Go.toGood rfl h7).1 (sE b X _ _ Go.toGood rfl h8).1 (sE c X _ _ Go.toGood rfl h9).1
    · cases h
  | .no, X, st, Go, h => ds_no
theorem sSs : ∀ (ss : Ss) (X : Cx) (sts : List Stmt), GoodS T g cl n N X → mSs T N X.env.scope ss sts = true → PSs X sts (tS g (wrSs ss) (exs cl ss))
  | .nil, X, sts, Go, h => by
    simp only [mSs] at h
    split at h
    · exact dss_nil Go.K
    · cases h
  | .cons s ss, X, sts, Go, h => by
    cases hs : (match s with | .frz i => some i | _ => none) with
    | some i =>
      cases s with
      | frz j => exact dss_frz Go.K (sSs ss X _ Go h)
      | _ => cases hs
    | none =>
      cases sts with
      | nil =>
        have q : mSs T N X.env.scope (.cons s ss) [] = false := by
          cases s <;> first | rfl | (exact nomatch hs)
        rw [q] at h; cases h
      | cons st sts =>
        have q : mSs T N X.env.scope (.cons s ss) (st :: sts) = (mS T N X.env.scope s st && mSs T N X.env.scope ss sts) := by
          cases s <;> first | rfl | (exact nomatch hs)
        rw [q] at h
        simp only [Bool.and_eq_true] at h
        exact dss_cons Go.K (sS s X st Go h.1) (sSs ss X sts Go h.2)
end
end
end PV

end
section
set_option Elab.async false
set_option linter.all false
set_option maxRecDepth 100000
set_option maxHeartbeats 4000000
/-! DJ: the defs of a table keep their promises. -/
namespace PV
open PySem PySem.Spec PyProof.Rows L2
abbrev Prim := List D → Bx → Option (D × Bx)
def entry (fi : FI) (ds : List D) (b : Bx) : Env := ⟨ds.map .val ++ List.replicate (fi.N.length - ds.length) .un, b⟩
def leave : Option (Fl × Env) → Option (D × Bx)
  | some (.ret d, ρ) => some (d, ρ.bx)
  | some (.next, ρ) => some (.non, ρ.bx)
  | _ => none
def runF (T : Tab) (prim : Prim) : Nat → Call
  | 0 => fun _ _ _ => none
  | n + 1 => fun i ds b => match i with
    | 0 => if 2 ≤ n then prim ds b else none
    | i + 1 => match T.fs[i]? with
      | none => none
      | some fi => if ds.length = fi.np then leave (exs (runF T prim n) fi.body (entry fi ds b)) else none
def scopeB (N ps : List PySem.Str) (sc : Scope) : Bool :=
  isFn sc && !sc.isCoroutine && !sc.isGenerator && decide N.Nodup && decide (N.take ps.length = ps) && (ps.all fun x => locB sc x) && sc.names.all fun y => decide (y.2 ≠ .free)
def fiOk (T : Tab) (fi : FI) : Bool := scopeB fi.N (fi.N.take fi.np) (defScope fi.st) && decide (fi.np ≤ fi.N.length) && mSs T fi.N (defScope fi.st) fi.body (defBody fi.st)
theorem scope_ok {N ps : List PySem.Str} {sc : Scope} (h : scopeB N ps sc = true) : FnScope N ps sc := by
  simp only [scopeB, Bool.and_eq_true, Bool.not_eq_true', decide_eq_true_eq, List.all_eq_true] at h
  obtain ⟨⟨⟨⟨⟨⟨h1, h2⟩, h3⟩, h4⟩, h5⟩, h6⟩, h7⟩ := h
  refine ⟨?_, h2, h3, h4, h5, fun x hx => locB_ok (h6 x hx), h7⟩
  unfold isFn at h1
  split at h1
  · assumption
  · cases h1
structure Prog (T : Tab) (g : G) (P : Program) (w : World) (K : PySem.W.Frag) (mg : PySem.Str → Option Value) (base : Heap) (prim : Prim) : Prop where
  hK : K = g.K
  bu : ∀ x ∈ bNames, mg x = none
  cs : ∀ p ∈ T.cs, ∃ v u, mg p.1 = some u ∧ RelV v u ∧ ∀ H, Rep g H v p.2
  fns : ∀ fi ∈ T.fs, ∃ f fd, FunD K fi.name fi.name (defArgs fi.st) (defBody fi.st) (defScope fi.st) [] [] f fd ∧ mg fi.name = some (.ref f) ∧ L2.Binds K fd (fi.N.take fi.np) []
  ok : ∀ fi ∈ T.fs, fiOk T fi = true
  dr : ∃ f fd ps, FnOk P w K mg base CX0 3 f fd ps (spD g (fun _ => prim) 0) ∧ mg T.dn = some (.ref f) ∧ PySem.W.keepIn K (.ref f) = true ∧ L2.Binds K fd ps []
section
variable {T : Tab} {g : G} {P : Program} {w : World} {K : PySem.W.Frag} {mg : PySem.Str → Option Value} {base : Heap} {prim : Prim}
theorem fn_none {n : Nat} {f : Addr} {fd : FuncData} {ps : List PySem.Str} {cl : Call} {i : Nat} (h : ∀ ds b, cl i ds b = none) : FnOk P w K mg base CX0 n f fd ps (spD g cl i) :=
  ⟨fun vs H Q E ⟨_, ds, b, d, b', _, _, _, _, e, _⟩ => (by rw [h] at e; cases e), fun A outer s H args us vs Q E _ _ _ _ ⟨_, ds, b, d, b', _, _, _, _, e, _⟩ => (by rw [h] at e; cases e)⟩
theorem Or2_none (Z : Addr → Bool) : Or2 Z (fun _ => false) = Z := by
  funext a; simp [Or2]
theorem rep_len {H : Hp} {vs : List V} {ds : List D} (h : RepL g H vs ds) : vs.length = ds.length := h.length
theorem entry_rel {fi : FI} {Z : Addr → Bool} {vs : List V} {ds : List D} {H : Hp} {b : Bx} (dm : Dom Z H) (h : RepL g (hid Z H) vs ds) (hb : BoxOk g H b) (zb : Z g.ba = true ∧ Z g.bc = true) : Rel g Z (fun _ => false) (L2.start fi.N vs) H (entry fi ds b) := by
  have hl := h.length
  have gt : ∀ i s, (entry fi ds b).get i = s → s ≠ .un → ∃ d, ds[i]? = some d ∧ s = .val d := by
    intro i s e hs
    subst e
    simp only [Env.get, entry, List.getD_eq_getElem?_getD] at hs ⊢
    by_cases c : i < ds.length
    · rw [List.getElem?_append_left (by simpa using c), List.getElem?_map]
      exact ⟨ds[i], by rw [List.getElem?_eq_getElem c], by rw [List.getElem?_eq_getElem c]; rfl⟩
    · rw [List.getElem?_append_right (by simpa using Nat.le_of_not_lt c)] at hs
      rw [List.getElem?_replicate] at hs
      split at hs <;> exact absurd rfl hs
  refine ⟨?_, fun i d e => ?_, fun i ds' e => ?_, fun i j ds' es a e => ?_, by rw [Or2_none]; exact dm, fun a z => (nomatch z), hb, zb⟩
  · simp [L2.start, entry, hl]
  · obtain ⟨d', e1, e2⟩ := gt i _ e (by intro z; cases z)
    cases e2
    obtain ⟨v, q1, q2⟩ := h.get e1
    refine ⟨v, ?_, by rw [Or2_none]; exact q2⟩
    have c : i < vs.length := by
      rw [hl]
      exact (List.getElem?_eq_some_iff.mp e1).1
    simp only [L2.start]
    rw [List.getElem?_append_left (by simpa using c), List.getElem?_map, q1]
    rfl
  · obtain ⟨d', e1, e2⟩ := gt i _ e (by intro z; cases z)
    cases e2
  · obtain ⟨d', e1, e2⟩ := gt i _ e (by intro z; cases z)
    cases e2
theorem fn_all (Pg : Prog T g P w K mg base prim) : ∀ (n i : Nat) (x : PySem.Str), T.fname i = some x → ∃ f fd ps, FnOk P w K mg base CX0 n f fd ps (spD g (runF T prim n) i) ∧ mg x = some (.ref f) ∧ PySem.W.keepIn K (.ref f) = true ∧ L2.Binds K fd ps [] := by
  intro n
  induction n with
  | zero =>
    intro i x hx
    cases i with
    | zero =>
      cases hx
      obtain ⟨f, fd, ps, F, h1, h2, h3⟩ := Pg.dr
      exact ⟨f, fd, ps, fn_none fun _ _ => rfl, h1, h2, h3⟩
    | succ i =>
      simp only [Tab.fname, Option.map_eq_some_iff] at hx
      obtain ⟨fi, hi, rfl⟩ := hx
      have hm := List.mem_of_getElem? hi
      obtain ⟨f, fd, F, h1, h0⟩ := Pg.fns fi hm
      exact ⟨f, fd, _, fn_none fun _ _ => rfl, h1, F.kp, h0⟩
  | succ n ih =>
    intro i x hx
    cases i with
    | zero =>
      cases hx
      obtain ⟨f, fd, ps, F, h1, h2, h3⟩ := Pg.dr
      by_cases hn : 2 ≤ n
      · refine ⟨f, fd, ps, (F.mono (by omega)).imp fun vs H Q E ⟨Z, ds, b, d, b', q1, q2, q3, q4, e, k⟩ => ?_, h1, h2, h3⟩
        refine ⟨Z, ds, b, d, b', q1, q2, q3, q4, ?_, k⟩
        simp only [runF, if_pos hn] at e
        exact e
      · exact ⟨f, fd, ps, fn_none fun _ _ => by simp only [runF, if_neg hn], h1, h2, h3⟩
    | succ i =>
      simp only [Tab.fname, Option.map_eq_some_iff] at hx
      obtain ⟨fi, hi, rfl⟩ := hx
      have hm := List.mem_of_getElem? hi
      obtain ⟨f, fd, F, h1, h0⟩ := Pg.fns fi hm
      have ok := Pg.ok fi hm
      simp only [fiOk, Bool.and_eq_true, decide_eq_true_eq] at ok
      obtain ⟨⟨ok1, ok3⟩, ok4⟩ := ok
      have S := scope_ok ok1
      refine ⟨f, fd, _, F.ok S (fun vs H Q E ⟨Z, ds, b, d, b', q1, q2, q3, q4, e, k⟩ => ?_) fun cdv A outer s H vs Q E hr h => ⟨tS g (wrSs fi.body) (exs (runF T prim n) fi.body), PSs.nox (sSs fi.body _ _ ⟨⟨Pg.hK, rfl, rfl, S.nd, hr, by have := hr.un; show (A.deeper (envOfC fi.name (defScope fi.st) s.heap.objs.size f cdv)).units + 100 < cLine; omega, Pg.bu, Pg.cs, ih⟩, fun _ => rfl, PassesOwn.never, S.kind⟩ ok4), ?_⟩, h1, F.kp, h0⟩
      · simp only [runF, hi] at e
        split at e
        · rename_i hl
          rw [q2.length, hl, List.length_take]
          omega
        · cases e
      · obtain ⟨Z, ds, b, d, b', q1, q2, q3, q4, e, k⟩ := h
        simp only [runF, hi] at e
        split at e
        · unfold leave at e
          split at e
          · rename_i d' ρ' he
            cases e
            exact ⟨Z, _, _, _, _, entry_rel q1 q2 q3 q4, he, fun ow' σ' H' l s r _ v hv => k v H' l s.fr r.box hv⟩
          · rename_i ρ' he
            cases e
            exact ⟨Z, _, _, _, _, entry_rel q1 q2 q3 q4, he, fun ow' σ' H' l s r _ => k _ H' l s.fr r.box .non⟩
          · cases e
        · cases e
end
end PV

end
section
set_option Elab.async false
set_option linter.all false
set_option maxRecDepth 100000
set_option maxHeartbeats 4000000
/-! DBX: the drawing box. -/
namespace PV
open PySem PySem.Spec PyProof.Rows L2
def finP (cs : List Int) (r s : Int) : Int × Bx :=
  let f := (s * 48271 + 17) % 2147483629
  let q := (f * 69621 + 5) % 2147483587
  let s' := (q * 40692 + 3) % 2147483563
  (f * 4611686014132420609 + q * 2147483647 + s', ⟨cs, [r, s']⟩)
def sizP (c : Int) : Int := if decide (0 ≤ c) = true then 2 * c else -2 * c - 1
def loadP : Bx → Option (Int × Bx)
  | ⟨[], [r, s]⟩ => some (finP [] r s)
  | ⟨c :: cs, [r, s]⟩ => if decide (1000000000000000000 ≤ sizP c) = true then some (sizP c, ⟨cs, [r, s]⟩) else some (finP cs r ((s * 69621 + sizP c * 48271 + 11) % 2147483647))
  | _ => none
def drawB (n : Int) : Bx → Option (Int × Bx)
  | ⟨cs, [r, s]⟩ => if 0 < n ∧ n < 1073741824 then
      if decide (r < n) = true then (loadP ⟨cs, [r, s]⟩).bind fun (z, b) => match b with
        | ⟨cs, [_, s]⟩ => some (z % n, ⟨cs, [z / n, s]⟩)
        | _ => none
      else some (r % n, ⟨cs, [r / n, s]⟩)
    else none
  | _ => none
def drawP : Prim
  | [.box, .int n], b => (drawB n b).map fun (z, b) => (.int z, b)
  | _, _ => none
/-- a box that is ready -/
def Bx.ok (b : Bx) : Prop := ∃ r s, b.st = [r, s]
theorem load_ok {b : Bx} (h : b.ok) : ∃ z b', loadP b = some (z, b') ∧ b'.ok := by
  obtain ⟨r, s, h⟩ := h
  obtain ⟨cs, st⟩ := b
  obtain rfl : st = [r, s] := h
  cases cs with
  | nil => exact ⟨_, _, rfl, _, _, rfl⟩
  | cons c cs =>
    simp only [loadP]
    split
    · exact ⟨_, _, rfl, _, _, rfl⟩
    · exact ⟨_, _, rfl, _, _, rfl⟩
/-- a draw gives a number below n -/
theorem draw_ok {b : Bx} (h : b.ok) {n : Int} (h1 : 0 < n) (h2 : n < 1073741824) : ∃ (k : Nat) (b' : Bx), drawP [.box, .int n] b = some (.int k, b') ∧ (k : Int) < n ∧ b'.ok := by
  have key : ∃ z b', drawB n b = some (z, b') ∧ 0 ≤ z ∧ z < n ∧ b'.ok := by
    obtain ⟨z, b', e, o⟩ := load_ok h
    obtain ⟨r, s, h⟩ := h
    obtain ⟨cs, st⟩ := b
    obtain rfl : st = [r, s] := h
    simp only [drawB, if_pos (And.intro h1 h2)]
    split
    · obtain ⟨r', s', o⟩ := o
      obtain ⟨cs', st'⟩ := b'
      obtain rfl : st' = [r', s'] := o
      rw [e]
      exact ⟨_, _, rfl, Int.emod_nonneg _ (by omega), Int.emod_lt_of_pos _ h1, _, _, rfl⟩
    · exact ⟨_, _, rfl, Int.emod_nonneg _ (by omega), Int.emod_lt_of_pos _ h1, _, _, rfl⟩
  obtain ⟨z, b', e, z1, z2, o⟩ := key
  exact ⟨z.toNat, b', by simp only [drawP, e, Option.map_some]; rw [Int.toNat_of_nonneg z1], by omega, o⟩
/-- the box's loading: what a def of it promises -/
def spLoad (g : G) : Sp := fun vs H Q _ => ∃ b v b', vs = [.ref g.ba] ∧ BoxOk g H b ∧ loadP b = some (v, b') ∧ ∀ H', Fr g (fun _ => false) H H' → BoxOk g H' b' → Q (.int v) H'
theorem BoxOk.bab {g : G} {H : Hp} {b b' : Bx} (h : BoxOk g H b) (hc : b'.cells = b.cells) : BoxOk g (upd H g.ba (.lst (.ref g.bc :: b'.st.map V.int))) b' ∧ Fr g (fun _ => false) H (upd H g.ba (.lst (.ref g.bc :: b'.st.map V.int))) := by
  obtain ⟨h1, h2, h3⟩ := h
  refine ⟨⟨upd_same, by rw [upd_ne (Ne.symm h3), hc]; exact h2, h3⟩, fun c o e _ n1 n2 => by rw [upd_ne n1]; exact e⟩
theorem BoxOk.cel {g : G} {H : Hp} {b : Bx} {cs : List Int} (h : BoxOk g H b) : BoxOk g (upd H g.bc (.lst (cs.map V.int))) ⟨cs, b.st⟩ ∧ Fr g (fun _ => false) H (upd H g.bc (.lst (cs.map V.int))) := by
  obtain ⟨h1, h2, h3⟩ := h
  refine ⟨⟨by rw [upd_ne h3]; exact h1, upd_same, h3⟩, fun c o e _ n1 n2 => by rw [upd_ne n2]; exact e⟩
def rInt1 : List V → Hp → VK → Prop := fun xs H Q => (∃ i, xs = [.int i] ∧ Q (.int i) H) ∨ ∃ k, xs = [.bl k] ∧ Q (.int (if k then 1 else 0)) H
abbrev tBx (K : PySem.W.Frag) (i : Int) : TE := tOp (rIxL K) (tVar 0) (tC (.int i))
def t_draw2 (K : PySem.W.Frag) : TS := tSeq (tAsg (tOp (rI (fun _ j => j ≠ 0) fun i j => .int (i.fmod j)) (tCB rInt1 (tCons (tBx K 1) tNil)) (tVar 1)) (gName 2))
  (tSeq (tAsg (tOp (rI CDivN fun i j => .int (i.fdiv j)) (tBx K 1) (tVar 1)) (gSub (tVar 0) (tC (.int 1)) rSetL)) (tRet (tVar 2)))
def t_draw (g : G) (K : PySem.W.Frag) : TS := tSeq (tIfS (tTest (tOp (rI0 fun i j => .bl (decide (i < j))) (tBx K 1) (tVar 1))) (tAsg (tCall (spLoad g) [] E0 (tCons (tVar 0) tNil)) (gSub (tVar 0) (tC (.int 1)) rSetL)) tNext) (t_draw2 K)
theorem draw2_run {g : G} {K : PySem.W.Frag} {D : Ends} {H1 : Hp} {cs : List Int} {r s n : Int} {σ : L2.St} (hb1 : BoxOk g H1 ⟨cs, [r, s]⟩) (hn : 0 < n ∧ n < 1073741824) (h0 : σ[0]? = some (some (.ref g.ba))) (h1 : σ[1]? = some (some (.int n))) (hl : 2 < σ.length)
    (k : ∀ H', BoxOk g H' ⟨cs, [r / n, s]⟩ → Fr g (fun _ => false) H1 H' → D.rt (.int (r % n)) H') : t_draw2 K D σ H1 := by
  have b1 : H1 g.ba = some (.lst [.ref g.bc, .int r, .int s]) := hb1.1
  have h0' : (σ.set 2 (some (.int (r.fmod n))))[0]? = some (some (.ref g.ba)) := by rw [List.getElem?_set_ne (by decide)]; exact h0
  have h1' : (σ.set 2 (some (.int (r.fmod n))))[1]? = some (some (.int n)) := by rw [List.getElem?_set_ne (by decide)]; exact h1
  have h2' : (σ.set 2 (some (.int (r.fmod n))))[2]? = some (some (.int (r.fmod n))) := by rw [List.getElem?_set_self hl]
  refine ⟨_, h0, _, _, 1, .int r, rfl, rfl, SqL.of b1, rfl, .inl ⟨r, rfl, _, h1, r, n, rfl, rfl, by omega, ?_⟩⟩
  refine ⟨_, h0', _, _, 1, .int r, rfl, rfl, SqL.of b1, rfl, _, h1', r, n, rfl, rfl, ⟨by omega, by omega⟩, _, h0', _, _, 1, 1, rfl, rfl, b1, rfl, ?_⟩
  refine ⟨_, h2', ?_⟩
  show D.rt (.int (r.fmod n)) (upd H1 g.ba (.lst [.ref g.bc, .int (r.fdiv n), .int s]))
  rw [Int.fmod_eq_emod_of_nonneg _ (by omega), Int.fdiv_eq_ediv_of_nonneg _ (by omega)]
  obtain ⟨q1, q2⟩ := hb1.bab (b' := ⟨cs, [r / n, s]⟩) rfl
  exact k _ q1 q2
theorem draw_run {g : G} {K : PySem.W.Frag} {Q : VK} {vs : List V} {H : Hp} {E : XK} {N : List PySem.Str} (hK : K = g.K) (hN : N.length = 3) (h : spD g (fun _ => drawP) 0 vs H Q E) : t_draw g K (lenD K { nx := fun _ H' => Q .non H', rt := Q }) (L2.start N vs) H := by
  obtain ⟨Z, ds, b, d, b', dm, hv, hb, zb, e, k⟩ := h
  match ds, e with
  | [.box, .int n], e =>
    obtain ⟨v, vs, rfl, h1, hv⟩ := RepL.cons_inv hv
    obtain ⟨v2, vs, rfl, h2, hv⟩ := RepL.cons_inv hv
    obtain rfl := RepL.nil_inv hv
    cases h1
    cases h2
    have e : (drawB n b).map (fun (z, b) => (D.int z, b)) = some (d, b') := e
    simp only [Option.map_eq_some_iff] at e
    obtain ⟨⟨z, b2⟩, e3, e2⟩ := e
    cases e2
    obtain ⟨cs, st⟩ := b
    unfold drawB at e3
    split at e3
    rotate_left
    · cases e3
    rename_i cs r s hq
    cases hq
    split at e3
    rotate_left
    · cases e3
    rename_i hn
    have b1 : H g.ba = some (.lst [.ref g.bc, .int r, .int s]) := hb.1
    have s0 : (L2.start N [.ref g.ba, .int n])[0]? = some (some (.ref g.ba)) := rfl
    have s1 : (L2.start N [.ref g.ba, .int n])[1]? = some (some (.int n)) := rfl
    have sl : 2 < (L2.start N [.ref g.ba, .int n]).length := by simp [L2.start, hN]
    refine ⟨_, s0, _, _, 1, .int r, rfl, rfl, SqL.of b1, rfl, _, s1, r, n, rfl, rfl, _, rfl, ?_⟩
    show if decide (r < n) = true then tAsg (tCall (spLoad g) [] E0 (tCons (tVar 0) tNil)) (gSub (tVar 0) (tC (.int 1)) rSetL) { lenD K { nx := fun _ H' => Q .non H', rt := Q } with nx := t_draw2 K (lenD K { nx := fun _ H' => Q .non H', rt := Q }) } (L2.start N [.ref g.ba, .int n]) H
      else t_draw2 K (lenD K { nx := fun _ H' => Q .non H', rt := Q }) (L2.start N [.ref g.ba, .int n]) H
    split at e3
    · rename_i hr
      rw [if_pos hr]
      cases q : loadP ⟨cs, [r, s]⟩ with
      | none => rw [q] at e3; cases e3
      | some p =>
        obtain ⟨z1, cs1, st1⟩ := p
        rw [q] at e3
        match st1, e3, q with
        | [r1, s1'], e3, q =>
          cases e3
          refine ⟨_, s0, ⟨_, _, _, rfl, hb, q, fun H1 f1 o1 => ?_⟩⟩
          have b2 : H1 g.ba = some (.lst [.ref g.bc, .int r1, .int s1']) := o1.1
          refine ⟨_, s0, _, _, 1, 1, rfl, rfl, b2, rfl, ?_⟩
          obtain ⟨q1, q2⟩ := o1.bab (b' := ⟨cs1, [z1, s1']⟩) rfl
          exact draw2_run q1 hn s0 s1 sl fun H' o' f' l => k _ _ (hK ▸ l) ((f1.trans q2).trans f') o' (.int _)
    · rename_i hr
      cases e3
      rw [if_neg hr]
      exact draw2_run hb hn s0 s1 sl fun H' o' f' l => k _ _ (hK ▸ l) f' o' (.int _)
/-! ### the loading -/
abbrev rPl : R2 := rI0 fun i j => .int (i + j)
abbrev rMi : R2 := rI0 fun i j => .int (i - j)
abbrev rMu : R2 := rI CMul fun i j => .int (i * j)
abbrev rMd : R2 := rI (fun _ j => 0 < j) fun i j => .int (i % j)
abbrev tI (i : Int) : TE := tC (.int i)
abbrev tMd (t : TE) (c : Int) : TE := tOp rMd (tCB rInt1 (tCons t tNil)) (tI c)
abbrev sB2 (e : TE) : TS := tAsg e (gSub (tVar 0) (tI 2) rSetL)
abbrev rLn (K : PySem.W.Frag) : List V → Hp → VK → Prop := fun xs H Q => ∃ p ys, xs = [.ref p] ∧ (SqL K H p ys ∨ SqT K H p ys) ∧ Q (.int ys.length) H
def t_fin (K : PySem.W.Frag) : TS := tSeq (tAsg (tMd (tOp rPl (tOp rMu (tBx K 2) (tI 48271)) (tI 17)) 2147483629) (gName 4)) (tSeq (tAsg (tMd (tOp rPl (tOp rMu (tVar 4) (tI 69621)) (tI 5)) 2147483587) (gName 5))
  (tSeq (sB2 (tMd (tOp rPl (tOp rMu (tVar 5) (tI 40692)) (tI 3)) 2147483563)) (tRet (tOp rPl (tOp rPl (tOp rMu (tVar 4) (tI 4611686014132420609)) (tOp rMu (tVar 5) (tI 2147483647))) (tBx K 2)))))
def t_siz (K : PySem.W.Frag) : TS := tSeq (tAsg (tIf (tTest (tOp (rI0 fun i j => .bl (decide (j ≤ i))) (tVar 2) (tI 0))) (tOp rMu (tI 2) (tVar 2)) (tOp rMi (tOp rMu (tUn (rU fun i => .int (-i)) (tI 2)) (tVar 2)) (tI 1))) (gName 3))
  (tSeq (tIfS (tTest (tOp (rI0 fun i j => .bl (decide (j ≤ i))) (tVar 3) (tI 1000000000000000000))) (tRet (tVar 3)) tNext) (sB2 (tMd (tOp rPl (tOp rPl (tOp rMu (tBx K 2) (tI 69621)) (tOp rMu (tVar 3) (tI 48271))) (tI 11)) 2147483647)))
def t_load (K : PySem.W.Frag) : TS := tSeq (tAsg (tBx K 0) (gName 1)) (tSeq (tIfS (tTest (tOp (rI0 fun i j => .bl (decide (j < i))) (tCB (rLn K) (tCons (tVar 1) tNil)) (tI 0)))
  (tSeq (tAsg (tCB rInt1 (tCons (tBM K "list" rPopAt (tVar 1) (tCons (tI 0) tNil)) tNil)) (gName 2)) (t_siz K)) tNext) (t_fin K))
theorem cmul_r {i j : Int} (h : -(2 ^ 64) < j ∧ j < 2 ^ 64) : CMul i j := .inr h
theorem cmul_l {i j : Int} (h : -(2 ^ 64) < i ∧ i < 2 ^ 64) : CMul i j := .inl h
theorem fin_run {g : G} {K : PySem.W.Frag} {D : Ends} {H : Hp} {cs : List Int} {r s : Int} {σ : L2.St} (hb : BoxOk g H ⟨cs, [r, s]⟩) (h0 : σ[0]? = some (some (.ref g.ba))) (hl : σ.length = 6)
    (k : ∀ H', BoxOk g H' (finP cs r s).2 → Fr g (fun _ => false) H H' → D.rt (.int (finP cs r s).1) H') : t_fin K D σ H := by
  have b1 : H g.ba = some (.lst [.ref g.bc, .int r, .int s]) := hb.1
  let f : Int := (s * 48271 + 17) % 2147483629
  let q : Int := (f * 69621 + 5) % 2147483587
  let s' : Int := (q * 40692 + 3) % 2147483563
  let σ1 := σ.set 4 (some (.int f))
  let σ2 := σ1.set 5 (some (.int q))
  have h1 : σ1[4]? = some (some (.int f)) := List.getElem?_set_self (by omega)
  have h20 : σ2[0]? = some (some (.ref g.ba)) := by
    show ((σ.set 4 _).set 5 _)[0]? = _
    rw [List.getElem?_set_ne (by decide), List.getElem?_set_ne (by decide)]; exact h0
  have h24 : σ2[4]? = some (some (.int f)) := by
    show ((σ.set 4 _).set 5 _)[4]? = _
    rw [List.getElem?_set_ne (by decide)]; exact h1
  have h25 : σ2[5]? = some (some (.int q)) := List.getElem?_set_self (by simp [σ1, hl])
  obtain ⟨o2, f2⟩ := hb.bab (b' := ⟨cs, [r, s']⟩) rfl
  have b2 : (upd H g.ba (.lst [.ref g.bc, .int r, .int s'])) g.ba = some (.lst [.ref g.bc, .int r, .int s']) := upd_same
  refine ⟨_, h0, _, _, 2, .int s, rfl, rfl, SqL.of b1, rfl, s, 48271, rfl, rfl, cmul_r (by decide), _, _, rfl, rfl, .inl ⟨_, rfl, _, _, rfl, rfl, (by show (0 : Int) < _; decide), ?_⟩⟩
  refine ⟨_, h1, _, _, rfl, rfl, cmul_r (by decide), _, _, rfl, rfl, .inl ⟨_, rfl, _, _, rfl, rfl, (by show (0 : Int) < _; decide), ?_⟩⟩
  refine ⟨_, h25, _, _, rfl, rfl, cmul_r (by decide), _, _, rfl, rfl, .inl ⟨_, rfl, _, _, rfl, rfl, (by show (0 : Int) < _; decide), _, h20, _, _, 2, 2, rfl, rfl, b1, rfl, ?_⟩⟩
  refine ⟨_, h24, _, _, rfl, rfl, cmul_r (by decide), _, h25, _, _, rfl, rfl, cmul_r (by decide), _, _, rfl, rfl, _, h20, _, _, 2, _, rfl, rfl, SqL.of b2, rfl, _, _, rfl, rfl, ?_⟩
  exact k _ o2 f2
theorem loadP_st {cs st : List Int} {x : Int × Bx} (e : loadP ⟨cs, st⟩ = some x) : ∃ r s, st = [r, s] := by
  unfold loadP at e
  split at e
  · rename_i h; cases h; exact ⟨_, _, rfl⟩
  · rename_i h; cases h; exact ⟨_, _, rfl⟩
  · cases e
theorem load_run {g : G} {K : PySem.W.Frag} {Q : VK} {vs : List V} {H : Hp} {E : XK} {N : List PySem.Str} (hN : N.length = 6) (h : spLoad g vs H Q E) : t_load K { nx := fun _ H' => Q .non H', rt := Q } (L2.start N vs) H := by
  obtain ⟨⟨cs, st⟩, v, b', rfl, hb, e, k⟩ := h
  generalize hσ : L2.start N [V.ref g.ba] = σ
  have h0 : σ[0]? = some (some (.ref g.ba)) := by rw [← hσ]; rfl
  have hl : σ.length = 6 := by rw [← hσ]; simp [L2.start, hN]
  clear hσ
  obtain ⟨r, s, rfl⟩ := loadP_st e
  have b1 : H g.ba = some (.lst [.ref g.bc, .int r, .int s]) := hb.1
  have bc : H g.bc = some (.lst (cs.map V.int)) := hb.2.1
  have h10 : (σ.set 1 (some (.ref g.bc)))[0]? = some (some (.ref g.ba)) := by rw [List.getElem?_set_ne (by decide)]; exact h0
  have h11 : (σ.set 1 (some (.ref g.bc)))[1]? = some (some (.ref g.bc)) := List.getElem?_set_self (by omega)
  refine ⟨_, h0, _, _, 0, .ref g.bc, rfl, rfl, SqL.of b1, rfl, ?_⟩
  refine ⟨_, h11, ⟨_, _, rfl, .inl (SqL.of bc), _, _, rfl, rfl, _, rfl, ?_⟩⟩
  show if decide ((0 : Int) < ((cs.map V.int).length : Nat)) = true then _ else _
  cases cs with
  | nil =>
    rw [if_neg (by decide)]
    have e : some (finP [] r s) = some (v, b') := e
    cases Option.some.inj e
    exact fin_run hb h10 (by simp [hl]) fun H' o f => k _ f o
  | cons c cs =>
    rw [if_pos (by simp)]
    refine ⟨_, h11, .inl ⟨rfl, _, SqL.of bc⟩, ⟨_, _, 0, 0, .int c, rfl, rfl, bc, by decide, by decide, by simp [seqIndex?], rfl, .inl ⟨c, rfl, ?_⟩⟩⟩
    obtain ⟨o1, f1⟩ := hb.cel (cs := cs)
    have b1' : (upd H g.bc (.lst (cs.map V.int))) g.ba = some (.lst [.ref g.bc, .int r, .int s]) := o1.1
    show t_siz K { nx := t_fin K { nx := fun _ H' => Q .non H', rt := Q }, rt := Q } ((σ.set 1 (some (.ref g.bc))).set 2 (some (.int c))) (upd H g.bc (.lst (cs.map V.int)))
    generalize hσ1 : (σ.set 1 (some (.ref g.bc))).set 2 (some (.int c)) = σ1
    have h20 : σ1[0]? = some (some (.ref g.ba)) := by rw [← hσ1, List.getElem?_set_ne (by decide)]; exact h10
    have h22 : σ1[2]? = some (some (.int c)) := by rw [← hσ1, List.getElem?_set_self (by simp [hl])]
    have hl1 : σ1.length = 6 := by rw [← hσ1]; simp [hl]
    have h33 : (σ1.set 3 (some (.int (sizP c))))[3]? = some (some (.int (sizP c))) := List.getElem?_set_self (by omega)
    have h30 : (σ1.set 3 (some (.int (sizP c))))[0]? = some (some (.ref g.ba)) := by rw [List.getElem?_set_ne (by decide)]; exact h20
    refine ⟨_, h22, _, _, rfl, rfl, _, rfl, ?_⟩
    have goal2 : ∀ (_ : Unit), tSeq (tIfS (tTest (tOp (rI0 fun i j => .bl (decide (j ≤ i))) (tVar 3) (tI 1000000000000000000))) (tRet (tVar 3)) tNext) (sB2 (tMd (tOp rPl (tOp rPl (tOp rMu (tBx K 2) (tI 69621)) (tOp rMu (tVar 3) (tI 48271))) (tI 11)) 2147483647))
        { nx := t_fin K { nx := fun _ H' => Q .non H', rt := Q }, rt := Q } (σ1.set 3 (some (.int (sizP c)))) (upd H g.bc (.lst (cs.map V.int))) := fun _ => by
      refine ⟨_, h33, _, _, rfl, rfl, _, rfl, ?_⟩
      have e : (if decide (1000000000000000000 ≤ sizP c) = true then some (sizP c, (⟨cs, [r, s]⟩ : Bx)) else some (finP cs r ((s * 69621 + sizP c * 48271 + 11) % 2147483647))) = some (v, b') := e
      show if decide ((1000000000000000000 : Int) ≤ sizP c) = true then _ else _
      split at e
      · rename_i hc
        rw [if_pos hc]
        cases e
        exact ⟨_, h33, k _ f1 o1⟩
      · rename_i hc
        rw [if_neg hc]
        have e := Option.some.inj e
        refine ⟨_, h30, _, _, 2, .int s, rfl, rfl, SqL.of b1', rfl, s, 69621, rfl, rfl, cmul_r (by decide), _, h33, _, _, rfl, rfl, cmul_r (by decide), _, _, rfl, rfl, _, _, rfl, rfl, .inl ⟨_, rfl, _, _, rfl, rfl, (by show (0 : Int) < _; decide), _, h30, _, _, 2, 2, rfl, rfl, b1', rfl, ?_⟩⟩
        obtain ⟨o2, f2⟩ := o1.bab (b' := ⟨cs, [r, (s * 69621 + sizP c * 48271 + 11) % 2147483647]⟩) rfl
        refine fin_run o2 h30 (by simp [hl1]) fun H' o f => ?_
        rw [e] at o ⊢
        exact k _ ((f1.trans f2).trans f) o
    have g2 := goal2 ()
    show if decide ((0 : Int) ≤ c) = true then _ else _
    by_cases hc : decide ((0 : Int) ≤ c) = true
    · rw [if_pos hc]
      have hz : sizP c = 2 * c := if_pos hc
      rw [hz] at g2
      exact ⟨_, h22, _, _, rfl, rfl, cmul_l (by decide), g2⟩
    · rw [if_neg hc]
      have hz : sizP c = -2 * c - 1 := if_neg hc
      rw [hz] at g2
      exact ⟨2, rfl, _, h22, _, _, rfl, rfl, cmul_l (by decide), _, _, rfl, rfl, g2⟩
/-! ### the box is made -/
def spBox (K : PySem.W.Frag) : Sp := fun vs H Q _ => ∃ (a : Addr) (ns : List Int), vs = [.ref a] ∧ SqL K H a (ns.map V.int) ∧ ∀ ba bc H' cs, H ba = none → H bc = none → Same H H' → BoxOk ⟨K, ba, bc⟩ H' ⟨cs, [0, 4711 + (ns.length : Int)]⟩ → Q (.ref ba) H'
def t_box (K : PySem.W.Frag) : TS := tRet (tLst (tCons (tCB (fun xs H Q => ∃ p ys, xs = [.ref p] ∧ (SqL K H p ys ∨ SqT K H p ys) ∧ ∀ l, H l = none → Q (.ref l) (upd H l (.lst ys))) (tCons (tSl (rSlL K) (tVar 0) tNoPart (tPart (tI 63))) tNil))
  (tCons (tI 0) (tCons (tOp rPl (tI 4711) (tCB (rLn K) (tCons (tVar 0) tNil))) tNil))))
theorem box_run {K : PySem.W.Frag} {Q : VK} {vs : List V} {H : Hp} {E : XK} {N : List PySem.Str} (h : spBox K vs H Q E) : t_box K { nx := fun _ H' => Q .non H', rt := Q } (L2.start N vs) H := by
  obtain ⟨a, ns, rfl, hs, k⟩ := h
  have h0 : (L2.start N [V.ref a])[0]? = some (some (.ref a)) := rfl
  refine ⟨_, h0, 63, rfl, a, _, rfl, hs, fun p hp => ⟨_, _, rfl, .inl (SqL.of upd_same), fun l hl => ?_⟩⟩
  have np : l ≠ p := by rintro rfl; rw [upd_same] at hl; cases hl
  have hl' : H l = none := by rw [upd_ne np] at hl; exact hl
  have s1 := same_upd (o := .lst (cutV (ns.map V.int) none (some 63))) hp
  have s2 := same_upd (o := .lst (cutV (ns.map V.int) none (some 63))) hl
  have hs2 : SqL K (upd (upd H p (.lst (cutV (ns.map V.int) none (some 63)))) l (.lst (cutV (ns.map V.int) none (some 63)))) a (ns.map V.int) := Same.seq (s1.trans s2) hs
  refine ⟨_, h0, ⟨_, _, rfl, .inl hs2, _, _, rfl, rfl, ⟨by show 3 ≤ sizeLine; rw [sizeLine_eq]; decide, fun q hq => ?_⟩⟩⟩
  have nq : q ≠ l := by rintro rfl; rw [upd_same] at hq; cases hq
  have nq2 : q ≠ p := by rintro rfl; rw [upd_ne nq, upd_same] at hq; cases hq
  have hq' : H q = none := by rw [upd_ne nq, upd_ne nq2] at hq; exact hq
  have hc : cutV (ns.map V.int) none (some 63) = (((ns.drop (HT.sIx (ns.map V.int).length 0 none)).take (HT.sIx (ns.map V.int).length (ns.map V.int).length (some 63) - HT.sIx (ns.map V.int).length 0 none))).map V.int := by
    unfold cutV
    rw [List.map_take, List.map_drop]
  refine k q l _ (((ns.drop (HT.sIx (ns.map V.int).length 0 none)).take (HT.sIx (ns.map V.int).length (ns.map V.int).length (some 63) - HT.sIx (ns.map V.int).length 0 none))) hq' hl' ((s1.trans s2).trans (same_upd hq)) ⟨?_, ?_, nq⟩
  · show upd _ q _ q = _
    rw [upd_same, List.length_map]
    rfl
  · show upd _ q _ l = _
    rw [upd_ne (Ne.symm nq), upd_same, hc]
/-! ### the law -/
/-- a law's promise: it says True -/
def spLaw (K : PySem.W.Frag) : Sp := fun vs H Q _ => ∃ (a : Addr) (ns : List Int), vs = [.ref a] ∧ SqL K H a (ns.map V.int) ∧ ∀ H', Q (.bl true) H'
/-- the slots of law, behind the first statement -/
def lawEnv (n : Nat) (b : Bx) : Env := ⟨.un :: .val .box :: List.replicate n .un, b⟩
def t_law (K : PySem.W.Frag) (wr : List Nat) (f : EvS) : TS := tSeq (tAsg (tCall (spBox K) [] E0 (tCons (tVar 0) tNil)) (gName 1)) (fun D σ H => ∃ ba bc, tS ⟨K, ba, bc⟩ wr f D σ H)
theorem pss_ex {X : Cx} {sts : List Stmt} {K : PySem.W.Frag} {wr : List Nat} {f : EvS} (h : ∀ ba bc, PSs X sts (tS ⟨K, ba, bc⟩ wr f)) : PSs X sts (fun D σ H => ∃ ba bc, tS ⟨K, ba, bc⟩ wr f D σ H) :=
  ⟨fun pins s σ H D I ⟨ba, bc, hw⟩ => (h ba bc).run pins s σ H D I hw⟩
theorem law_run {K : PySem.W.Frag} {Q : VK} {vs : List V} {H : Hp} {E : XK} {N : List PySem.Str} {wr : List Nat} {f : EvS} (n : Nat) (hN : N.length = n + 2) (hf : ∀ b : Bx, b.ok → ∃ ρ, f (lawEnv n b) = some (.ret (.bl true), ρ)) (h : spLaw K vs H Q E) :
    t_law K wr f { nx := fun _ H' => Q .non H', rt := Q } (L2.start N vs) H := by
  obtain ⟨a, ns, rfl, hs, k⟩ := h
  refine ⟨_, rfl, ⟨a, ns, rfl, hs, fun ba bc H' cs h1 h2 hs' hb => ⟨ba, bc, ?_⟩⟩⟩
  obtain ⟨ρ, e⟩ := hf ⟨cs, [0, 4711 + (ns.length : Int)]⟩ ⟨_, _, rfl⟩
  let Z : Addr → Bool := fun c => decide (c = ba) || decide (c = bc)
  have eσ : (L2.start N [V.ref a]).set 1 (some (.ref ba)) = some (.ref a) :: some (.ref ba) :: List.replicate n none := by
    simp only [L2.start, List.map_cons, List.map_nil, List.length_cons, List.length_nil, hN]
    have : n + 2 - (0 + 1) = n + 1 := by omega
    rw [this]
    rfl
  refine ⟨Z, fun _ => false, lawEnv n ⟨cs, [0, 4711 + (ns.length : Int)]⟩, _, _, ?_, e, fun ow' σ' H2 l s r ag v hv => ?_⟩
  · rw [eσ]
    have gt : ∀ i s, (lawEnv n ⟨cs, [0, 4711 + (ns.length : Int)]⟩).get i = s → s ≠ .un → i = 1 ∧ s = .val .box := by
      intro i s e hs
      subst e
      match i with
      | 0 => exact absurd rfl hs
      | 1 => exact ⟨rfl, rfl⟩
      | i + 2 =>
        simp only [lawEnv, Env.get, List.getD_eq_getElem?_getD, List.getElem?_cons_succ, List.getElem?_replicate] at hs
        split at hs <;> exact absurd rfl hs
    refine ⟨by simp [lawEnv], fun i d e => ?_, fun i ds e => ?_, fun i j ds es a e => ?_, fun c z hc => ?_, fun a z => (nomatch z), hb, by simp [Z], by simp [Z]⟩
    · obtain ⟨rfl, e2⟩ := gt i _ e (by intro z; cases z)
      cases e2
      exact ⟨_, rfl, .box⟩
    · obtain ⟨rfl, e2⟩ := gt i _ e (by intro z; cases z)
      cases e2
    · obtain ⟨rfl, e2⟩ := gt i _ e (by intro z; cases z)
      cases e2
    · have hz : c = ba ∨ c = bc := by simpa [Or2, Z] using z
      rcases hz with rfl | rfl
      · rw [hb.1] at hc; cases hc
      · rw [hb.2.1] at hc; cases hc
  · cases hv
    exact k H2
theorem PSs.lend {X : Cx} {sts : List Stmt} {t0 : TS} (h : PSs X sts t0) : PSs X sts (fun D σ H => t0 (lenD X.K D) σ H) := PSs.of h fun _ _ _ _ h => h
end PV

end
section
set_option Elab.async false
set_option linter.all false
set_option maxRecDepth 100000
set_option maxHeartbeats 1000000
/-! EA: the small language's mathematics: loops, comprehensions. -/
namespace PV
open PySem L2
theorem Env.ext {a b : Env} (h1 : a.sl = b.sl) (h2 : a.bx = b.bx) : a = b := by
  obtain ⟨_, _⟩ := a; obtain ⟨_, _⟩ := b
  cases h1; cases h2; rfl
theorem put_put {ρ : Env} {i : Nat} {s t : Slot} : (ρ.put i s).put i t = ρ.put i t := by
  refine Env.ext ?_ rfl
  simp [Env.put]
theorem put_self {ρ : Env} {i : Nat} : ρ.put i (ρ.get i) = ρ := by
  refine Env.ext ?_ rfl
  simp only [Env.put, Env.get]
  by_cases h : i < ρ.sl.length
  · rw [List.getD_eq_getElem?_getD, List.getElem?_eq_getElem h]
    exact List.set_getElem_self h
  · rw [List.set_eq_of_length_le (by omega)]
/-- a loop whose states are told -/
theorem forL_states {turn : D → Env → Option (Fl × Env)} (st : Nat → Env) : ∀ {xs : List D} {k : Nat}, (∀ i d, xs[i]? = some d → turn d (st (k + i)) = some (.next, st (k + i + 1))) → forL turn xs (st k) = some (.next, st (k + xs.length))
  | [], k, _ => rfl
  | x :: xs, k, h => by
    have h0 := h 0 x rfl
    have ih := forL_states (turn := turn) st (xs := xs) (k := k + 1) fun i d e => by
      have := h (i + 1) d (by simpa using e)
      have e1 : k + 1 + i = k + (i + 1) := by omega
      rw [e1]; exact this
    simp only [Nat.add_zero] at h0
    simp only [forL, h0, Option.bind_eq_bind, Option.bind_some]
    rw [ih]
    have e2 : k + 1 + xs.length = k + (x :: xs).length := by simp; omega
    rw [e2]
/-- a loop by an invariant -/
theorem forL_inv {turn : D → Env → Option (Fl × Env)} (I : Nat → Env → Prop) : ∀ {xs : List D} {k : Nat} {ρ : Env}, I k ρ → (∀ i d ρ, xs[i]? = some d → I (k + i) ρ → ∃ ρ', turn d ρ = some (.next, ρ') ∧ I (k + i + 1) ρ') → ∃ ρ', forL turn xs ρ = some (.next, ρ') ∧ I (k + xs.length) ρ'
  | [], k, ρ, h0, _ => ⟨ρ, rfl, h0⟩
  | x :: xs, k, ρ, h0, h => by
    obtain ⟨ρ1, e1, h1⟩ := h 0 x ρ rfl h0
    obtain ⟨ρ2, e2, h2⟩ := forL_inv (turn := turn) I (xs := xs) (k := k + 1) (ρ := ρ1) h1 fun i d ρ e hi => by
      have e1 : k + 1 + i = k + (i + 1) := by omega
      rw [e1] at hi ⊢
      exact h (i + 1) d ρ (by simpa using e) hi
    refine ⟨ρ2, ?_, ?_⟩
    · simp only [forL, e1, Option.bind_eq_bind, Option.bind_some]
      exact e2
    · have e3 : k + 1 + xs.length = k + (x :: xs).length := by simp; omega
      rw [← e3]; exact h2
theorem rest1 {ρ ρ' : Env} {i : Nat} (h : ρ'.put i .un = ρ.put i .un) : Env.rest ρ ρ' [i] = ρ := by
  show ρ'.put i (ρ.get i) = ρ
  rw [← put_put (s := .un), h, put_put, put_self]
theorem compL_map {turn : D → Env → Option (List D × Env)} (g : D → List D) (J : Env → Prop) : ∀ {xs : List D} {ρ : Env}, (∀ x ∈ xs, ∀ ρ, J ρ → ∃ ρ', turn x ρ = some (g x, ρ') ∧ J ρ') → J ρ → ∃ ρ', compL turn xs ρ = some (xs.flatMap g, ρ') ∧ J ρ'
  | [], ρ, _, j => ⟨ρ, rfl, j⟩
  | x :: xs, ρ, h, j => by
    obtain ⟨ρ1, e1, j1⟩ := h x (by simp) ρ j
    obtain ⟨ρ2, e2, j2⟩ := compL_map (turn := turn) g J (xs := xs) (fun y hy => h y (by simp [hy])) j1
    refine ⟨ρ2, ?_, j2⟩
    simp only [compL, e1, Option.bind_eq_bind, Option.bind_some, e2, List.flatMap_cons]
theorem filt_flat (p : D → Bool) (f : D → D) : ∀ xs : List D, xs.flatMap (fun x => if p x = true then [f x] else []) = (xs.filter p).map f
  | [] => rfl
  | x :: xs => by
    rw [List.flatMap_cons, filt_flat p f xs, List.filter_cons]
    cases p x <;> rfl
/-- a comprehension with one name, pure -/
theorem comp1 {c : Call} {i : Nat} {it : Wk} {ifs : Es} {elt : E} {ρ : Env} {xs : List D} (p : D → Bool) (f : D → D) (hi : evIt c it ρ = some (.vals xs, ρ)) (ho : isOwn (ρ.get i) = false)
    (h : ∀ x ∈ xs, evIfs c ifs (ρ.put i (.val x)) = some (p x, ρ.put i (.val x)) ∧ (p x = true → ev c elt (ρ.put i (.val x)) = some (.v (f x), ρ.put i (.val x)))) :
    ev c (.comp [i] it ifs elt) ρ = some (.v (.lst ((xs.filter p).map f)), ρ) := by
  simp only [ev, hi, Option.bind_eq_bind, Option.bind_some, List.any_cons, List.any_nil, ho, Bool.or_false, compS]
  rw [if_neg (by decide)]
  generalize ht : (fun (x : D) (ρ : Env) => (setTg [i] x (ρ.wipe [i])).bind fun ρ => _) = turn
  obtain ⟨ρ2, e2, e3⟩ := compL_map (turn := turn) (fun x => if p x = true then [f x] else []) (fun ρ1 => ρ1.put i .un = ρ.put i .un) (xs := xs) (ρ := ρ.wipe [i]) (fun y hy ρ1 e => by
    subst ht
    obtain ⟨h1, h2⟩ := h y hy
    have ew : (ρ1.wipe [i]).put i (.val y) = ρ.put i (.val y) := by
      show (ρ1.put i .un).put i (.val y) = _
      rw [e, put_put]
    refine ⟨ρ.put i (.val y), ?_, put_put⟩
    show Option.bind (some ((ρ1.wipe [i]).put i (.val y))) _ = _
    rw [ew]
    simp only [Option.bind_some, h1]
    cases hp : p y with
    | true => simp only [h2 hp, Option.bind_some, Hd.val]; rfl
    | false => rfl) put_put
  rw [e2, filt_flat]
  simp only [Option.bind_some]
  rw [rest1 e3]
/-! ### runs by rewriting: a bind's second half is looked at when its first is known -/
theorem ob_congr {α β : Type} {o o' : Option α} {f : α → Option β} (h : o = o') : (o >>= f) = (o' >>= f) := by rw [h]
theorem ob_some {α β : Type} {a : α} {f : α → Option β} : (some a >>= f) = f a := rfl
theorem ob_none {α β : Type} {f : α → Option β} : ((none : Option α) >>= f) = none := rfl
theorem get_mk {l : List Slot} {b : Bx} {i : Nat} : Env.get ⟨l, b⟩ i = l.getD i .un := rfl
theorem put_mk {l : List Slot} {b : Bx} {i : Nat} {s : Slot} : Env.put ⟨l, b⟩ i s = ⟨l.set i s, b⟩ := rfl
theorem tstR_some' {h : Hd} {ρ : Env} : tstR (some (h, ρ)) = (do let x ← h.at ρ; let b ← tru x; some (b, ρ)) := rfl
theorem tstR_none' : tstR none = none := rfl
theorem at_v {d : D} {ρ : Env} : Hd.at (.v d) ρ = some d := rfl
theorem val_v {d : D} : Hd.val (.v d) = some d := rfl

theorem setTg1 {i : Nat} {d : D} {ρ : Env} : setTg [i] d ρ = some (ρ.put i (.val d)) := rfl
theorem setTg2 {i j : Nat} {a b : D} {ρ : Env} : setTg [i, j] (.tup [a, b]) ρ = some ((ρ.put i (.val a)).put j (.val b)) := rfl
theorem setTg3 {i j k : Nat} {a b c : D} {ρ : Env} : setTg [i, j, k] (.tup [a, b, c]) ρ = some (((ρ.put i (.val a)).put j (.val b)).put k (.val c)) := rfl
theorem at_p {i : Nat} {ρ : Env} : Hd.at (.p i) ρ = (match ρ.get i with | .own ds => some (.lst ds) | _ => none) := rfl
theorem seqOf_lst {xs : List D} : seqOf (.lst xs) = some xs := rfl
theorem seqOf_tup {xs : List D} : seqOf (.tup xs) = some xs := rfl
theorem srcOf_lst {xs : List D} {ρ : Env} : srcOf (.v (.lst xs)) ρ = some (.vals xs) := rfl
theorem srcOf_tup {xs : List D} {ρ : Env} : srcOf (.v (.tup xs)) ρ = some (.vals xs) := rfl
theorem line_big : (16777216 : Nat) ≤ line := by
  unfold line; rw [sizeLine_eq]; decide
theorem go_step {T : Tab} {prim : Prim} {n i : Nat} {fi : FI} {ds : List D} {b : Bx} (h : T.fs[i]? = some fi) (hl : ds.length = fi.np) : runF T prim (n + 1) (i + 1) ds b = leave (exs (runF T prim n) fi.body (entry fi ds b)) := by
  show (match T.fs[i]? with
      | none => none
      | some fi => if ds.length = fi.np then leave (exs (runF T prim n) fi.body (entry fi ds b)) else none) = _
  rw [h]
  exact if_pos hl
/-! ### _law_same -/
mutual
def D.sim : D → Bool
  | .tup xs => decide (xs.length ≤ 1000000) && D.simL xs
  | .lst xs => decide (xs.length ≤ 1000000) && D.simL xs
  | .str x => PyData.strOk x
  | .box => false
  | _ => true
def D.simL : List D → Bool
  | [] => true
  | x :: xs => D.sim x && D.simL xs
end
theorem simL_mem : ∀ {xs : List D} {x : D}, D.simL xs = true → x ∈ xs → x.sim = true
  | y :: ys, x, h, hx => by
    simp only [D.simL, Bool.and_eq_true] at h
    rcases List.mem_cons.mp hx with rfl | hx
    · exact h.1
    · exact simL_mem h.2 hx
theorem depL_mem : ∀ {xs : List D} {x : D}, x ∈ xs → x.dep ≤ D.depL xs
  | y :: ys, x, hx => by
    simp only [D.depL]
    rcases List.mem_cons.mp hx with rfl | hx
    · exact Nat.le_max_left _ _
    · exact Nat.le_trans (depL_mem hx) (Nat.le_max_right _ _)
def sameBody (f : Nat) : Ss :=
  (.cons (.ite (.or (.and (.isi .tuple (.var 0)) (.isi .tuple (.var 1))) (.and (.isi .list (.var 0)) (.isi .list (.var 1)))) (.cons (.ret (.and (.op .eq (.bi .len (.cons (.var 0) .nil)) (.bi .len (.cons (.var 1) .nil))) (.bi .all (.cons (.comp [2] (.rng1 (.bi .len (.cons (.var 0) .nil))) .nil (.call f (.cons (.ix (.var 0) (.var 2)) (.cons (.ix (.var 1) (.var 2)) .nil)))) .nil))))
    .nil) .nil)
  (.cons (.ite (.or (.isi .bool (.var 0)) (.isi .bool (.var 1))) (.cons (.ret (.and (.isi .bool (.var 0)) (.and (.isi .bool (.var 1)) (.op .eq (.var 0) (.var 1)))))
    .nil) .nil)
  (.cons (.ite (.or (.and (.isi .int (.var 0)) (.isi .int (.var 1))) (.and (.isi .str (.var 0)) (.isi .str (.var 1)))) (.cons (.ret (.op .eq (.var 0) (.var 1)))
    .nil) .nil)
  (.cons (.ret (.and (.op .is_ (.var 0) (.knon)) (.op .is_ (.var 1) (.knon))))
  .nil))))
theorem rngL_get {n k : Nat} (h : k < n) : (rngL 0 (n : Int))[k]? = some (.int k) := by
  simp [rngL, h]
theorem rng_mem {n : Nat} {x : D} (h : x ∈ rngL 0 (n : Int)) : ∃ k : Nat, k < n ∧ x = .int k := by
  simp only [rngL, List.mem_map, List.mem_range] at h
  obtain ⟨k, hk, rfl⟩ := h
  exact ⟨k, by simpa using hk, by simp⟩
theorem atI_nat {α : Type} {xs : List α} {k : Nat} (h : k < xs.length) : atI xs (k : Int) = some xs[k] := by
  have : ixN xs.length (k : Int) = some k := by
    unfold ixN
    simp [h]
  unfold atI
  rw [this]
  simp [h]
theorem small_nat {n : Nat} (h : n ≤ 1000000) : (small62 0 (n : Int) && decide (((n : Int) - 0).toNat ≤ line)) = true := by
  have := line_big
  simp only [small62, Bool.and_eq_true, decide_eq_true_eq]
  omega
end PV

end
section
set_option Elab.async false
set_option linter.all false
set_option maxRecDepth 100000
set_option maxHeartbeats 2000000
/-! EB: _law_same of equal data. -/
namespace PV
open PySem L2
section
variable {T : Tab} {prim : Prim} {i : Nat} {nm : PySem.Str} {st : Stmt}
theorem eqv_refl_int (a : Int) : D.eqv (.int a) (.int a) = true := by simp [D.eqv]
theorem dEq_int {a b : Int} : dEq (.int a) (.int b) = some (a == b) := by
  simp [dEq, D.cmpb, D.pl, D.dep, D.eqv]
theorem dEq_bl {a b : Bool} : dEq (.bl a) (.bl b) = some (a == b) := by
  simp [dEq, D.cmpb, D.pl, D.dep, D.eqv]
theorem dEq_str {a b : PySem.Str} (ha : PyData.strOk a = true) (hb : PyData.strOk b = true) : dEq (.str a) (.str b) = some (a == b) := by
  simp [dEq, D.cmpb, D.pl, D.dep, D.eqv, ha, hb]
theorem allT : ∀ n : Nat, boolL (List.map (fun _ => D.bl true) (List.replicate n D.non)) = some (List.replicate n true)
  | 0 => rfl
  | n + 1 => by
    simp only [List.replicate_succ, List.map_cons, boolL, allT n, Option.map_some]
theorem boolL_all {xs : List D} {f : D → D} (h : ∀ x ∈ xs, f x = .bl true) : boolL (xs.map f) = some (List.replicate xs.length true) := by
  induction xs with
  | nil => rfl
  | cons x xs ih =>
    have e := h x (by simp)
    simp only [List.map_cons, e, boolL, ih (fun y hy => h y (by simp [hy])), Option.map_some, List.length_cons, List.replicate_succ]
theorem filt_true {α : Type} (xs : List α) : xs.filter (fun _ => true) = xs := by simp
theorem same_seq {c : Call} {f : Nat} {ρ : Env} {xs : List D} {mk : List D → D} {b : Bx} (hmk : mk = D.tup ∨ mk = D.lst) (hl : xs.length ≤ 1000000) (hc : ∀ x ∈ xs, c f [x, x] b = some (.bl true, b)) :
    ev c (.and (.op .eq (.bi .len (.cons (.var 0) .nil)) (.bi .len (.cons (.var 1) .nil))) (.bi .all (.cons (.comp [2] (.rng1 (.bi .len (.cons (.var 0) .nil))) .nil (.call f (.cons (.ix (.var 0) (.var 2)) (.cons (.ix (.var 1) (.var 2)) .nil)))) .nil))) ⟨[.val (mk xs), .val (mk xs), .un], b⟩ = some (.v (.bl true), ⟨[.val (mk xs), .val (mk xs), .un], b⟩) := by
  have hcomp : ev c (.comp [2] (.rng1 (.bi .len (.cons (.var 0) .nil))) .nil (.call f (.cons (.ix (.var 0) (.var 2)) (.cons (.ix (.var 1) (.var 2)) .nil)))) ⟨[.val (mk xs), .val (mk xs), .un], b⟩ = some (.v (.lst (((rngL 0 (xs.length : Int)).filter fun _ => true).map fun _ => .bl true)), ⟨[.val (mk xs), .val (mk xs), .un], b⟩) := by
    refine comp1 (fun _ => true) (fun _ => .bl true) ?_ rfl fun x hx => ⟨rfl, fun _ => ?_⟩
    · rcases hmk with rfl | rfl <;> (simp (config := { implicitDefEqProofs := false }) only [entry, exs, exS, ev, evs, evO, evIfs, evIt, evT, tstR_some', tru, at_v, at_p, val_v, atL, valL, get_mk, put_mk, ob_some, ob_none, isTy, op2, dIs, leave, bfn, seqOf_lst, seqOf_tup, srcOf_lst, srcOf_tup, setTg1, setTg2, setTg3, and_self, and_true, true_and, newPut, isOwn, List.map_cons, List.map_nil, List.length_cons, List.length_nil, List.cons_append, List.nil_append, List.getD_cons_zero, List.getD_cons_succ, List.set_cons_zero, List.set_cons_succ, List.replicate_succ, List.replicate_zero, Nat.reduceSub, Nat.reduceAdd, Option.map_some, Option.map_none, Option.some_or, beq_self_eq_true, Bool.true_eq_false, Bool.false_eq_true, Bool.not_true, Bool.not_false, Bool.not_eq_true', if_true, if_false]; rw [if_pos (small_nat hl)])
    · obtain ⟨k, hk, rfl⟩ := rng_mem hx
      have e := hc xs[k] (List.getElem_mem hk)
      rcases hmk with rfl | rfl <;> simp (config := { implicitDefEqProofs := false }) only [entry, exs, exS, ev, evs, evO, evIfs, evIt, evT, tstR_some', tru, at_v, at_p, val_v, atL, valL, get_mk, put_mk, ob_some, ob_none, isTy, op2, dIs, leave, bfn, seqOf_lst, seqOf_tup, srcOf_lst, srcOf_tup, setTg1, setTg2, setTg3, and_self, and_true, true_and, newPut, isOwn, List.map_cons, List.map_nil, List.length_cons, List.length_nil, List.cons_append, List.nil_append, List.getD_cons_zero, List.getD_cons_succ, List.set_cons_zero, List.set_cons_succ, List.replicate_succ, List.replicate_zero, Nat.reduceSub, Nat.reduceAdd, Option.map_some, Option.map_none, Option.some_or, beq_self_eq_true, Bool.true_eq_false, Bool.false_eq_true, Bool.not_true, Bool.not_false, Bool.not_eq_true', if_true, if_false, dIx, atI_nat hk, e]
  have hall : boolL (((rngL 0 (xs.length : Int)).filter fun _ => true).map fun _ => D.bl true) = some (List.replicate (rngL 0 (xs.length : Int)).length true) := by
    rw [filt_true]
    exact boolL_all fun _ _ => rfl
  have h1 : ev c (.op .eq (.bi .len (.cons (.var 0) .nil)) (.bi .len (.cons (.var 1) .nil))) ⟨[.val (mk xs), .val (mk xs), .un], b⟩ = some (.v (.bl true), ⟨[.val (mk xs), .val (mk xs), .un], b⟩) := by
    rcases hmk with rfl | rfl <;> simp (config := { implicitDefEqProofs := false }) only [entry, exs, exS, ev, evs, evO, evIfs, evIt, evT, tstR_some', tru, at_v, at_p, val_v, atL, valL, get_mk, put_mk, ob_some, ob_none, isTy, op2, dIs, leave, bfn, seqOf_lst, seqOf_tup, srcOf_lst, srcOf_tup, setTg1, setTg2, setTg3, and_self, and_true, true_and, newPut, isOwn, List.map_cons, List.map_nil, List.length_cons, List.length_nil, List.cons_append, List.nil_append, List.getD_cons_zero, List.getD_cons_succ, List.set_cons_zero, List.set_cons_succ, List.replicate_succ, List.replicate_zero, Nat.reduceSub, Nat.reduceAdd, Option.map_some, Option.map_none, Option.some_or, beq_self_eq_true, Bool.true_eq_false, Bool.false_eq_true, Bool.not_true, Bool.not_false, Bool.not_eq_true', if_true, if_false, dEq_int]
  have h2 : ev c (.bi .all (.cons (.comp [2] (.rng1 (.bi .len (.cons (.var 0) .nil))) .nil (.call f (.cons (.ix (.var 0) (.var 2)) (.cons (.ix (.var 1) (.var 2)) .nil)))) .nil)) ⟨[.val (mk xs), .val (mk xs), .un], b⟩ = some (.v (.bl true), ⟨[.val (mk xs), .val (mk xs), .un], b⟩) := by
    generalize E.comp _ _ _ _ = cc at hcomp ⊢
    simp (config := { implicitDefEqProofs := false }) only [entry, exs, exS, ev, evs, evO, evIfs, evIt, evT, tstR_some', tru, at_v, at_p, val_v, atL, valL, get_mk, put_mk, ob_some, ob_none, isTy, op2, dIs, leave, bfn, seqOf_lst, seqOf_tup, srcOf_lst, srcOf_tup, setTg1, setTg2, setTg3, and_self, and_true, true_and, newPut, isOwn, List.map_cons, List.map_nil, List.length_cons, List.length_nil, List.cons_append, List.nil_append, List.getD_cons_zero, List.getD_cons_succ, List.set_cons_zero, List.set_cons_succ, List.replicate_succ, List.replicate_zero, Nat.reduceSub, Nat.reduceAdd, Option.map_some, Option.map_none, Option.some_or, beq_self_eq_true, Bool.true_eq_false, Bool.false_eq_true, Bool.not_true, Bool.not_false, Bool.not_eq_true', if_true, if_false, hcomp, hall]
    simp
  generalize E.op _ _ _ = aa at h1 ⊢
  generalize E.bi _ _ = bb at h2 ⊢
  simp (config := { implicitDefEqProofs := false }) only [entry, exs, exS, ev, evs, evO, evIfs, evIt, evT, tstR_some', tru, at_v, at_p, val_v, atL, valL, get_mk, put_mk, ob_some, ob_none, isTy, op2, dIs, leave, bfn, seqOf_lst, seqOf_tup, srcOf_lst, srcOf_tup, setTg1, setTg2, setTg3, and_self, and_true, true_and, newPut, isOwn, List.map_cons, List.map_nil, List.length_cons, List.length_nil, List.cons_append, List.nil_append, List.getD_cons_zero, List.getD_cons_succ, List.set_cons_zero, List.set_cons_succ, List.replicate_succ, List.replicate_zero, Nat.reduceSub, Nat.reduceAdd, Option.map_some, Option.map_none, Option.some_or, beq_self_eq_true, Bool.true_eq_false, Bool.false_eq_true, Bool.not_true, Bool.not_false, Bool.not_eq_true', if_true, if_false, h1, h2]
theorem same_refl (h : T.fs[i]? = some ⟨nm, 2, ["a", "b", "k"], st, sameBody (i + 1)⟩) : ∀ (n : Nat) (d : D) (b : Bx), d.dep < n → d.sim = true → runF T prim n (i + 1) [d, d] b = some (.bl true, b)
  | n + 1, d, b, hd, hs => by
    rw [go_step h rfl]
    cases d with
    | tup xs =>
      simp only [D.sim, Bool.and_eq_true, decide_eq_true_eq] at hs
      have key := same_seq (c := runF T prim n) (f := i + 1) (ρ := ⟨[], b⟩) (xs := xs) (mk := D.tup) (b := b) (.inl rfl) hs.1 fun x hx => same_refl h n x b (by have := depL_mem hx; simp only [D.dep] at hd; omega) (simL_mem hs.2 hx)
      unfold sameBody
      generalize E.and (.op .eq _ _) _ = ee at key ⊢
      simp (config := { implicitDefEqProofs := false }) only [entry, exs, exS, ev, evs, evO, evIfs, evIt, evT, tstR_some', tru, at_v, at_p, val_v, atL, valL, get_mk, put_mk, ob_some, ob_none, isTy, op2, dIs, leave, bfn, seqOf_lst, seqOf_tup, srcOf_lst, srcOf_tup, setTg1, setTg2, setTg3, and_self, and_true, true_and, newPut, isOwn, List.map_cons, List.map_nil, List.length_cons, List.length_nil, List.cons_append, List.nil_append, List.getD_cons_zero, List.getD_cons_succ, List.set_cons_zero, List.set_cons_succ, List.replicate_succ, List.replicate_zero, Nat.reduceSub, Nat.reduceAdd, Option.map_some, Option.map_none, Option.some_or, beq_self_eq_true, Bool.true_eq_false, Bool.false_eq_true, Bool.not_true, Bool.not_false, Bool.not_eq_true', if_true, if_false, key]
    | lst xs =>
      simp only [D.sim, Bool.and_eq_true, decide_eq_true_eq] at hs
      have key := same_seq (c := runF T prim n) (f := i + 1) (ρ := ⟨[], b⟩) (xs := xs) (mk := D.lst) (b := b) (.inr rfl) hs.1 fun x hx => same_refl h n x b (by have := depL_mem hx; simp only [D.dep] at hd; omega) (simL_mem hs.2 hx)
      unfold sameBody
      generalize E.and (.op .eq _ _) _ = ee at key ⊢
      simp (config := { implicitDefEqProofs := false }) only [entry, exs, exS, ev, evs, evO, evIfs, evIt, evT, tstR_some', tru, at_v, at_p, val_v, atL, valL, get_mk, put_mk, ob_some, ob_none, isTy, op2, dIs, leave, bfn, seqOf_lst, seqOf_tup, srcOf_lst, srcOf_tup, setTg1, setTg2, setTg3, and_self, and_true, true_and, newPut, isOwn, List.map_cons, List.map_nil, List.length_cons, List.length_nil, List.cons_append, List.nil_append, List.getD_cons_zero, List.getD_cons_succ, List.set_cons_zero, List.set_cons_succ, List.replicate_succ, List.replicate_zero, Nat.reduceSub, Nat.reduceAdd, Option.map_some, Option.map_none, Option.some_or, beq_self_eq_true, Bool.true_eq_false, Bool.false_eq_true, Bool.not_true, Bool.not_false, Bool.not_eq_true', if_true, if_false, key]
    | int a => unfold sameBody; simp (config := { implicitDefEqProofs := false }) only [entry, exs, exS, ev, evs, evO, evIfs, evIt, evT, tstR_some', tru, at_v, at_p, val_v, atL, valL, get_mk, put_mk, ob_some, ob_none, isTy, op2, dIs, leave, bfn, seqOf_lst, seqOf_tup, srcOf_lst, srcOf_tup, setTg1, setTg2, setTg3, and_self, and_true, true_and, newPut, isOwn, List.map_cons, List.map_nil, List.length_cons, List.length_nil, List.cons_append, List.nil_append, List.getD_cons_zero, List.getD_cons_succ, List.set_cons_zero, List.set_cons_succ, List.replicate_succ, List.replicate_zero, Nat.reduceSub, Nat.reduceAdd, Option.map_some, Option.map_none, Option.some_or, beq_self_eq_true, Bool.true_eq_false, Bool.false_eq_true, Bool.not_true, Bool.not_false, Bool.not_eq_true', if_true, if_false, dEq_int]
    | bl a => unfold sameBody; simp (config := { implicitDefEqProofs := false }) only [entry, exs, exS, ev, evs, evO, evIfs, evIt, evT, tstR_some', tru, at_v, at_p, val_v, atL, valL, get_mk, put_mk, ob_some, ob_none, isTy, op2, dIs, leave, bfn, seqOf_lst, seqOf_tup, srcOf_lst, srcOf_tup, setTg1, setTg2, setTg3, and_self, and_true, true_and, newPut, isOwn, List.map_cons, List.map_nil, List.length_cons, List.length_nil, List.cons_append, List.nil_append, List.getD_cons_zero, List.getD_cons_succ, List.set_cons_zero, List.set_cons_succ, List.replicate_succ, List.replicate_zero, Nat.reduceSub, Nat.reduceAdd, Option.map_some, Option.map_none, Option.some_or, beq_self_eq_true, Bool.true_eq_false, Bool.false_eq_true, Bool.not_true, Bool.not_false, Bool.not_eq_true', if_true, if_false, dEq_bl]
    | str a => unfold sameBody; simp (config := { implicitDefEqProofs := false }) only [entry, exs, exS, ev, evs, evO, evIfs, evIt, evT, tstR_some', tru, at_v, at_p, val_v, atL, valL, get_mk, put_mk, ob_some, ob_none, isTy, op2, dIs, leave, bfn, seqOf_lst, seqOf_tup, srcOf_lst, srcOf_tup, setTg1, setTg2, setTg3, and_self, and_true, true_and, newPut, isOwn, List.map_cons, List.map_nil, List.length_cons, List.length_nil, List.cons_append, List.nil_append, List.getD_cons_zero, List.getD_cons_succ, List.set_cons_zero, List.set_cons_succ, List.replicate_succ, List.replicate_zero, Nat.reduceSub, Nat.reduceAdd, Option.map_some, Option.map_none, Option.some_or, beq_self_eq_true, Bool.true_eq_false, Bool.false_eq_true, Bool.not_true, Bool.not_false, Bool.not_eq_true', if_true, if_false, dEq_str (show PyData.strOk a = true from hs) hs]
    | non => unfold sameBody; simp (config := { implicitDefEqProofs := false }) only [entry, exs, exS, ev, evs, evO, evIfs, evIt, evT, tstR_some', tru, at_v, at_p, val_v, atL, valL, get_mk, put_mk, ob_some, ob_none, isTy, op2, dIs, leave, bfn, seqOf_lst, seqOf_tup, srcOf_lst, srcOf_tup, setTg1, setTg2, setTg3, and_self, and_true, true_and, newPut, isOwn, List.map_cons, List.map_nil, List.length_cons, List.length_nil, List.cons_append, List.nil_append, List.getD_cons_zero, List.getD_cons_succ, List.set_cons_zero, List.set_cons_succ, List.replicate_succ, List.replicate_zero, Nat.reduceSub, Nat.reduceAdd, Option.map_some, Option.map_none, Option.some_or, beq_self_eq_true, Bool.true_eq_false, Bool.false_eq_true, Bool.not_true, Bool.not_false, Bool.not_eq_true', if_true, if_false]
    | box => cases hs
end
end PV

end
section
set_option Elab.async false
set_option linter.all false
set_option maxRecDepth 100000
set_option maxHeartbeats 2000000
/-! EC: lists of ints as data. -/
namespace PV
open PySem L2
/-- numbers as data -/
abbrev nD (k : Nat) : D := .int (k : Int)
theorem plL_map {α : Type} {f : α → D} : ∀ {l : List α}, (∀ x ∈ l, (f x).pl = true) → D.plL (l.map f) = true
  | [], _ => rfl
  | x :: xs, h => by
    simp only [List.map_cons, D.plL, h x (by simp), plL_map (l := xs) fun y hy => h y (by simp [hy]), Bool.and_self]
theorem depL_map {α : Type} {f : α → D} {n : Nat} : ∀ {l : List α}, (∀ x ∈ l, (f x).dep ≤ n) → D.depL (l.map f) ≤ n
  | [], _ => Nat.zero_le _
  | x :: xs, h => by
    simp only [List.map_cons, D.depL]
    exact Nat.max_le.mpr ⟨h x (by simp), depL_map (l := xs) fun y hy => h y (by simp [hy])⟩
theorem simL_map {α : Type} {f : α → D} : ∀ {l : List α}, (∀ x ∈ l, (f x).sim = true) → D.simL (l.map f) = true
  | [], _ => rfl
  | x :: xs, h => by
    simp only [List.map_cons, D.simL, h x (by simp), simL_map (l := xs) fun y hy => h y (by simp [hy]), Bool.and_self]
theorem cmpb_lst {xs : List D} {n : Nat} (h1 : D.plL xs = true) (h2 : D.depL xs ≤ n) (hn : n ≤ 60) : (D.lst xs).cmpb = true := by
  simp only [D.cmpb, D.pl, D.dep, h1, Bool.true_and]
  exact decide_eq_true (by omega)
theorem cmpb_tup {xs : List D} {n : Nat} (h1 : D.plL xs = true) (h2 : D.depL xs ≤ n) (hn : n ≤ 60) : (D.tup xs).cmpb = true := by
  simp only [D.cmpb, D.pl, D.dep, h1, Bool.true_and]
  exact decide_eq_true (by omega)
theorem cmpb_int (i : Int) : (D.int i).cmpb = true := rfl
theorem cmpb_nats (l : List Nat) : (D.lst (l.map nD)).cmpb = true := cmpb_lst (n := 0) (plL_map fun _ _ => rfl) (depL_map fun _ _ => Nat.le_refl _) (by decide)
theorem cmpb_ints (l : List Int) : (D.lst (l.map D.int)).cmpb = true := cmpb_lst (n := 0) (plL_map fun _ _ => rfl) (depL_map fun _ _ => Nat.le_refl _) (by decide)
theorem eqv_nat (a b : Nat) : D.eqv (nD a) (nD b) = (a == b) := by
  show ((a : Int) == (b : Int)) = (a == b)
  by_cases h : a = b
  · subst h; simp
  · have h1 : ((a : Int) == (b : Int)) = false := by simpa using fun q => h (by omega)
    have h2 : (a == b) = false := by simpa using h
    rw [h1, h2]
theorem find_nats {r : List Nat} {k : Nat} (h : k ∈ r) : (r.map nD).findIdx? (fun y => y.eqv (nD k)) = some (r.idxOf k) := by
  induction r with
  | nil => cases h
  | cons x xs ih =>
    rw [List.map_cons, List.findIdx?_cons, eqv_nat, List.idxOf_cons]
    by_cases e : x = k
    · subst e; simp
    · have hk : k ∈ xs := by
        rcases List.mem_cons.mp h with q | q
        · exact absurd q.symm e
        · exact q
      have e' : (x == k) = false := by simpa using e
      rw [e', ih hk]
      rfl
theorem mfn_index {r : List Nat} {k : Nat} (h : k ∈ r) : mfn .index (.tup (r.map nD)) [nD k] = some (.int (r.idxOf k : Nat)) := by
  show (if ((D.lst (r.map nD)).cmpb && (nD k).cmpb) = true then ((r.map nD).findIdx? fun y => y.eqv (nD k)).map (fun (j : Nat) => D.int (j : Int)) else none) = _
  rw [if_pos (by rw [cmpb_nats]; rfl), find_nats h]
  rfl
theorem rest2 {ρ ρ' : Env} {i j : Nat} (hij : i ≠ j) (h : (ρ'.put j .un).put i .un = (ρ.put j .un).put i .un) : Env.rest ρ ρ' [i, j] = ρ := by
  show (ρ'.put j (ρ.get j)).put i (ρ.get i) = ρ
  have key : ∀ r : Env, (r.put j (ρ.get j)).put i (ρ.get i) = (((r.put j .un).put i .un).put j (ρ.get j)).put i (ρ.get i) := fun r => by
    rw [put_comm hij, put_put, put_put]
  rw [key ρ', h, ← key ρ, put_self, put_self]
/-- a comprehension with two names, pure -/
theorem comp2v {c : Call} {i j : Nat} {it : Wk} {ifs : Es} {elt : E} {ρ : Env} {xs : List D} (hij : i ≠ j) (p : D → Bool) (f : D → D) (hi : evIt c it ρ = some (.vals xs, ρ)) (ho : isOwn (ρ.get i) = false) (ho2 : isOwn (ρ.get j) = false)
    (h : ∀ x ∈ xs, ∃ a b, x = .tup [a, b] ∧ evIfs c ifs ((ρ.put i (.val a)).put j (.val b)) = some (p x, (ρ.put i (.val a)).put j (.val b)) ∧ (p x = true → ev c elt ((ρ.put i (.val a)).put j (.val b)) = some (.v (f x), (ρ.put i (.val a)).put j (.val b)))) :
    ev c (.comp [i, j] it ifs elt) ρ = some (.v (.lst ((xs.filter p).map f)), ρ) := by
  simp only [ev, hi, Option.bind_eq_bind, Option.bind_some, List.any_cons, List.any_nil, ho, ho2, Bool.or_false, compS]
  rw [if_neg (by decide)]
  generalize ht : (fun (x : D) (ρ : Env) => (setTg [i, j] x (ρ.wipe [i, j])).bind fun ρ => _) = turn
  obtain ⟨ρ2, e2, e3⟩ := compL_map (turn := turn) (fun x => if p x = true then [f x] else []) (fun ρ1 => (ρ1.put j .un).put i .un = (ρ.put j .un).put i .un) (xs := xs) (ρ := ρ.wipe [i, j]) (fun y hy ρ1 e => by
    subst ht
    obtain ⟨a, b, rfl, h1, h2⟩ := h y hy
    have ew : ((ρ1.wipe [i, j]).put i (.val a)).put j (.val b) = (ρ.put i (.val a)).put j (.val b) := by
      show ((((ρ1.put j .un).put i .un).put i (.val a)).put j (.val b)) = _
      rw [e, put_put, put_comm (fun q => hij q.symm), put_put]
    have ej : ((((ρ.put i (.val a)).put j (.val b)).put j .un).put i .un) = (ρ.put j .un).put i .un := by
      rw [put_put, put_comm hij, put_put]
    refine ⟨(ρ.put i (.val a)).put j (.val b), ?_, ej⟩
    show Option.bind (some (((ρ1.wipe [i, j]).put i (.val a)).put j (.val b))) _ = _
    rw [ew]
    simp only [Option.bind_some, h1]
    cases hp : p (.tup [a, b]) with
    | true => simp only [h2 hp, Option.bind_some, Hd.val]; rfl
    | false => rfl) (by
      show (((ρ.put j .un).put i .un).put j .un).put i .un = _
      rw [put_comm (ρ := ρ.put j .un) hij, put_put, put_put])
  rw [e2, filt_flat]
  simp only [Option.bind_some]
  rw [rest2 hij e3]
end PV

end
section
set_option Elab.async false
set_option linter.all false
set_option maxRecDepth 100000
set_option maxHeartbeats 2000000
/-! ED: common rules for the mathematics of the laws. -/
namespace PV
open PySem L2
theorem rngL_nat (m : Nat) : rngL 0 (m : Int) = (List.range m).map nD := by
  simp only [rngL, Int.sub_zero, Int.toNat_natCast]
  refine List.map_congr_left fun k _ => ?_
  simp
theorem rngL_nat2 (i m : Nat) : rngL (i : Int) (m : Int) = (List.range (m - i)).map fun j => nD (i + j) := by
  have e : ((m : Int) - (i : Int)).toNat = m - i := by omega
  simp only [rngL, e]
  refine List.map_congr_left fun k _ => ?_
  simp
theorem small_nat2 {i m : Nat} (hi : i ≤ 1000000) (h : m ≤ 1000000) : (small62 (i : Int) (m : Int) && decide (((m : Int) - i).toNat ≤ line)) = true := by
  have := line_big
  simp only [small62, Bool.and_eq_true, decide_eq_true_eq]
  omega
theorem boolL_mapb {α : Type} (f : α → Bool) (l : List α) : boolL (l.map fun x => D.bl (f x)) = some (l.map f) := by
  induction l with
  | nil => rfl
  | cons x xs ih => simp only [List.map_cons, boolL, ih, Option.map_some]
theorem intL_mapf {α : Type} (f : α → Int) (l : List α) : intL (l.map fun x => D.int (f x)) = some (l.map f) := by
  induction l with
  | nil => rfl
  | cons x xs ih => simp only [List.map_cons, intL, ih, Option.map_some]
/-- an int of data -/
def toI : D → Int
  | .int i => i
  | _ => 0
theorem atI_mapf {α : Type} {f : α → D} {l : List α} {k : Nat} (h : k < l.length) : atI (l.map f) (k : Int) = some (f l[k]) := by
  rw [atI_nat (by simpa using h)]
  simp
theorem atI_rng {f : Nat → D} {n k : Nat} (h : k < n) : atI ((List.range n).map f) (k : Int) = some (f k) := by
  rw [atI_mapf (by simpa using h)]
  simp
theorem ixN_nat {n k : Nat} (h : k < n) : ixN n (k : Int) = some k := by
  unfold ixN
  simp [h]
theorem atI_last {α : Type} {l : List α} {x : α} : atI (l ++ [x]) (-1) = some x := by
  have : ixN (l ++ [x]).length (-1) = some l.length := by
    unfold ixN
    rw [if_neg (by decide), if_pos (by simp; omega)]
    simp
    omega
  unfold atI
  rw [this]
  simp
/-! ### statements, one behind the other -/
theorem exs_cons {c : Call} {s : S} {ss : Ss} {ρ ρ1 : Env} (h : exS c s ρ = some (.next, ρ1)) : exs c (.cons s ss) ρ = exs c ss ρ1 := by
  simp (config := { implicitDefEqProofs := false }) only [exs, h, ob_some]
theorem exs_ret {c : Call} {s : S} {ss : Ss} {ρ ρ1 : Env} {d : D} (h : exS c s ρ = some (.ret d, ρ1)) : exs c (.cons s ss) ρ = some (.ret d, ρ1) := by
  simp (config := { implicitDefEqProofs := false }) only [exs, h, ob_some]
/-! ### comprehensions over a mapped list -/
theorem comp_of {α : Type} {c : Call} {i : Nat} {it : Wk} {elt : E} {ρ : Env} {l : List α} {g f : α → D} (hi : evIt c it ρ = some (.vals (l.map g), ρ)) (ho : isOwn (ρ.get i) = false)
    (h : ∀ x ∈ l, ev c elt (ρ.put i (.val (g x))) = some (.v (f x), ρ.put i (.val (g x)))) : ev c (.comp [i] it .nil elt) ρ = some (.v (.lst (l.map f)), ρ) := by
  simp only [ev, hi, Option.bind_eq_bind, Option.bind_some, List.any_cons, List.any_nil, ho, Bool.or_false, compS]
  rw [if_neg (by decide)]
  generalize ht : (fun (x : D) (ρ : Env) => (setTg [i] x (ρ.wipe [i])).bind fun ρ => _) = turn
  have key : ∀ (l : List α), (∀ x ∈ l, ev c elt (ρ.put i (.val (g x))) = some (.v (f x), ρ.put i (.val (g x)))) → ∀ ρ1 : Env, ρ1.put i .un = ρ.put i .un → ∃ ρ2, compL turn (l.map g) ρ1 = some (l.map f, ρ2) ∧ ρ2.put i .un = ρ.put i .un := by
    intro l
    induction l with
    | nil => intro _ ρ1 e; exact ⟨ρ1, rfl, e⟩
    | cons x xs ih =>
      intro h ρ1 e
      have ew : (ρ1.wipe [i]).put i (.val (g x)) = ρ.put i (.val (g x)) := by
        show (ρ1.put i .un).put i (.val (g x)) = _
        rw [e, put_put]
      have e1 : turn (g x) ρ1 = some ([f x], ρ.put i (.val (g x))) := by
        subst ht
        show Option.bind (some ((ρ1.wipe [i]).put i (.val (g x)))) _ = _
        rw [ew]
        simp only [Option.bind_some, evIfs, h x List.mem_cons_self, Hd.val]
      obtain ⟨ρ2, e2, e3⟩ := ih (fun y hy => h y (List.mem_cons_of_mem _ hy)) (ρ.put i (.val (g x))) put_put
      refine ⟨ρ2, ?_, e3⟩
      simp only [List.map_cons, compL, e1, Option.bind_eq_bind, Option.bind_some, e2, List.cons_append, List.nil_append]
  obtain ⟨ρ2, e2, e3⟩ := key l h (ρ.wipe [i]) put_put
  rw [e2]
  simp only [Option.bind_some]
  rw [rest1 e3]
/-- with a test -/
theorem comp_if {α : Type} {c : Call} {i : Nat} {it : Wk} {t : E} {elt : E} {ρ : Env} {l : List α} {g f : α → D} (p : α → Bool) (hi : evIt c it ρ = some (.vals (l.map g), ρ)) (ho : isOwn (ρ.get i) = false)
    (ht : ∀ x ∈ l, ev c t (ρ.put i (.val (g x))) = some (.v (.bl (p x)), ρ.put i (.val (g x))))
    (h : ∀ x ∈ l, p x = true → ev c elt (ρ.put i (.val (g x))) = some (.v (f x), ρ.put i (.val (g x)))) : ev c (.comp [i] it (.cons t .nil) elt) ρ = some (.v (.lst ((l.filter p).map f)), ρ) := by
  simp only [ev, hi, Option.bind_eq_bind, Option.bind_some, List.any_cons, List.any_nil, ho, Bool.or_false, compS]
  rw [if_neg (by decide)]
  generalize htn : (fun (x : D) (ρ : Env) => (setTg [i] x (ρ.wipe [i])).bind fun ρ => _) = turn
  have key : ∀ (l : List α), (∀ x ∈ l, ev c t (ρ.put i (.val (g x))) = some (.v (.bl (p x)), ρ.put i (.val (g x)))) → (∀ x ∈ l, p x = true → ev c elt (ρ.put i (.val (g x))) = some (.v (f x), ρ.put i (.val (g x)))) → ∀ ρ1 : Env, ρ1.put i .un = ρ.put i .un → ∃ ρ2, compL turn (l.map g) ρ1 = some ((l.filter p).map f, ρ2) ∧ ρ2.put i .un = ρ.put i .un := by
    intro l
    induction l with
    | nil => intro _ _ ρ1 e; exact ⟨ρ1, rfl, e⟩
    | cons x xs ih =>
      intro ht' h ρ1 e
      have ew : (ρ1.wipe [i]).put i (.val (g x)) = ρ.put i (.val (g x)) := by
        show (ρ1.put i .un).put i (.val (g x)) = _
        rw [e, put_put]
      have e1 : turn (g x) ρ1 = some (if p x then [f x] else [], ρ.put i (.val (g x))) := by
        subst htn
        show Option.bind (some ((ρ1.wipe [i]).put i (.val (g x)))) _ = _
        rw [ew]
        have hb := ht' x List.mem_cons_self
        simp only [Option.bind_some, evIfs, hb, tstR_some', at_v, ob_some, tru]
        cases hp : p x with
        | true => simp only [h x List.mem_cons_self hp, Option.bind_some, Hd.val]; rfl
        | false => rfl
      obtain ⟨ρ2, e2, e3⟩ := ih (fun y hy => ht' y (List.mem_cons_of_mem _ hy)) (fun y hy => h y (List.mem_cons_of_mem _ hy)) (ρ.put i (.val (g x))) put_put
      refine ⟨ρ2, ?_, e3⟩
      simp only [List.map_cons, compL, e1, Option.bind_eq_bind, Option.bind_some, e2, List.filter_cons]
      cases p x <;> rfl
  obtain ⟨ρ2, e2, e3⟩ := key l ht h (ρ.wipe [i]) put_put
  rw [e2]
  simp only [Option.bind_some]
  rw [rest1 e3]
/-- a comprehension that draws: what it gives has a property -/
theorem comp_draw {α : Type} {c : Call} {i : Nat} {it : Wk} {elt : E} {sl : List Slot} {b : Bx} {l : List α} {g : α → D} (P : D → Prop) (hi : evIt c it ⟨sl, b⟩ = some (.vals (l.map g), ⟨sl, b⟩)) (ho : isOwn (Env.get ⟨sl, b⟩ i) = false) (hb : b.ok)
    (h : ∀ x ∈ l, ∀ b : Bx, b.ok → ∃ d b', ev c elt ⟨sl.set i (.val (g x)), b⟩ = some (.v d, ⟨sl.set i (.val (g x)), b'⟩) ∧ P d ∧ b'.ok) :
    ∃ ds b', ev c (.comp [i] it .nil elt) ⟨sl, b⟩ = some (.v (.lst ds), ⟨sl, b'⟩) ∧ ds.length = l.length ∧ (∀ d ∈ ds, P d) ∧ b'.ok := by
  simp only [ev, hi, Option.bind_eq_bind, Option.bind_some, List.any_cons, List.any_nil, ho, Bool.or_false, compS]
  rw [if_neg (by decide)]
  generalize htn : (fun (x : D) (ρ : Env) => (setTg [i] x (ρ.wipe [i])).bind fun ρ => _) = turn
  have key : ∀ (l : List α), (∀ x ∈ l, ∀ b : Bx, b.ok → ∃ d b', ev c elt ⟨sl.set i (.val (g x)), b⟩ = some (.v d, ⟨sl.set i (.val (g x)), b'⟩) ∧ P d ∧ b'.ok) →
      ∀ (sl1 : List Slot) (b : Bx), sl1.set i .un = sl.set i .un → b.ok → ∃ ds sl2 b', compL turn (l.map g) ⟨sl1, b⟩ = some (ds, ⟨sl2, b'⟩) ∧ sl2.set i .un = sl.set i .un ∧ ds.length = l.length ∧ (∀ d ∈ ds, P d) ∧ b'.ok := by
    intro l
    induction l with
    | nil => intro _ sl1 b e hb; exact ⟨[], sl1, b, rfl, e, rfl, (fun d h => by cases h), hb⟩
    | cons x xs ih =>
      intro h sl1 b e hb
      obtain ⟨d, b1, q1, q2, q3⟩ := h x List.mem_cons_self b hb
      have e1 : turn (g x) ⟨sl1, b⟩ = some ([d], ⟨sl.set i (.val (g x)), b1⟩) := by
        subst htn
        have ew : (Env.wipe ⟨sl1, b⟩ [i]).put i (.val (g x)) = ⟨sl.set i (.val (g x)), b⟩ := by
          show (⟨(sl1.set i .un).set i (.val (g x)), b⟩ : Env) = _
          rw [e, List.set_set]
        show Option.bind (some ((Env.wipe ⟨sl1, b⟩ [i]).put i (.val (g x)))) _ = _
        rw [ew]
        simp only [Option.bind_some, evIfs, q1, Hd.val]
      obtain ⟨ds, sl2, b', r1, r2, r3, r4, r5⟩ := ih (fun y hy => h y (List.mem_cons_of_mem _ hy)) (sl.set i (.val (g x))) b1 (by rw [List.set_set]) q3
      refine ⟨d :: ds, sl2, b', ?_, r2, by simp [r3], fun z hz => ?_, r5⟩
      · simp only [List.map_cons, compL, e1, Option.bind_eq_bind, Option.bind_some, r1, List.cons_append, List.nil_append]
      · rcases List.mem_cons.mp hz with rfl | hz
        · exact q2
        · exact r4 z hz
  obtain ⟨ds, sl2, b', r1, r2, r3, r4, r5⟩ := key l h (Env.wipe ⟨sl, b⟩ [i]).sl b (by show (sl.set i .un).set i .un = _; rw [List.set_set]) hb
  refine ⟨ds, b', ?_, r3, r4, r5⟩
  have r1' : compL turn (l.map g) (Env.wipe ⟨sl, b⟩ [i]) = some (ds, ⟨sl2, b'⟩) := r1
  rw [r1']
  simp only [Option.bind_some]
  have : Env.rest ⟨sl, b⟩ ⟨sl2, b'⟩ [i] = ⟨sl, b'⟩ := by
    show (⟨sl2.set i ((⟨sl, b⟩ : Env).get i), b'⟩ : Env) = _
    congr 1
    have e3 := congrArg (fun z : List Slot => z.set i ((⟨sl, b⟩ : Env).get i)) r2
    simp only [List.set_set] at e3
    rw [e3]
    have := congrArg Env.sl (put_self (ρ := ⟨sl, b⟩) (i := i))
    exact this
  rw [this]
/-! ### draws -/
def Draws (c : Call) : Prop := ∀ (b : Bx) (n : Nat), b.ok → 0 < n → n < 1000000 → ∃ (k : Nat) (b' : Bx), c 0 [.box, .int (n : Int)] b = some (.int (k : Int), b') ∧ k < n ∧ b'.ok
theorem draws_run {T : Tab} {n : Nat} (h : 2 ≤ n) : Draws (runF T drawP (n + 1)) := by
  intro b k hb h1 h2
  obtain ⟨d, b', e, hd, hb'⟩ := draw_ok hb (n := (k : Int)) (by omega) (by omega)
  refine ⟨d, b', ?_, by omega, hb'⟩
  show (if 2 ≤ n then drawP [.box, .int (k : Int)] b else none) = _
  rw [if_pos h]
  exact e
/-! ### greatest, least -/
theorem foldl_maxS : ∀ (l : List Int) (a : Int), a ≤ l.foldl max a ∧ (∀ x ∈ l, x ≤ l.foldl max a) ∧ (l.foldl max a = a ∨ l.foldl max a ∈ l)
  | [], a => ⟨Int.le_refl _, (fun _ h => by cases h), Or.inl rfl⟩
  | x :: xs, a => by
    obtain ⟨h1, h2, h3⟩ := foldl_maxS xs (max a x)
    rw [List.foldl_cons]
    refine ⟨by omega, fun y hy => ?_, ?_⟩
    · rcases List.mem_cons.mp hy with rfl | hy
      · omega
      · exact h2 y hy
    · rcases h3 with h3 | h3
      · by_cases c : a ≤ x
        · right; rw [h3, Int.max_eq_right c]; exact List.mem_cons_self
        · left; rw [h3, Int.max_eq_left (by omega)]
      · exact .inr (List.mem_cons_of_mem _ h3)
theorem foldl_minS : ∀ (l : List Int) (a : Int), l.foldl min a ≤ a ∧ (∀ x ∈ l, l.foldl min a ≤ x) ∧ (l.foldl min a = a ∨ l.foldl min a ∈ l)
  | [], a => ⟨Int.le_refl _, (fun _ h => by cases h), Or.inl rfl⟩
  | x :: xs, a => by
    obtain ⟨h1, h2, h3⟩ := foldl_minS xs (min a x)
    rw [List.foldl_cons]
    refine ⟨by omega, fun y hy => ?_, ?_⟩
    · rcases List.mem_cons.mp hy with rfl | hy
      · omega
      · exact h2 y hy
    · rcases h3 with h3 | h3
      · by_cases c : a ≤ x
        · left; rw [h3, Int.min_eq_left c]
        · right; rw [h3, Int.min_eq_right (by omega)]; exact List.mem_cons_self
      · exact .inr (List.mem_cons_of_mem _ h3)
theorem max_spec {ps : List Int} (h : ps ≠ []) : ∃ M, maxI ps = some M ∧ M ∈ ps ∧ ∀ x ∈ ps, x ≤ M := by
  cases ps with
  | nil => exact absurd rfl h
  | cons p ps =>
    obtain ⟨a, b, c⟩ := foldl_maxS ps p
    refine ⟨_, rfl, ?_, fun x hx => ?_⟩
    · rcases c with c | c
      · rw [c]; exact List.mem_cons_self
      · exact List.mem_cons_of_mem _ c
    · rcases List.mem_cons.mp hx with rfl | hx
      · exact a
      · exact b x hx
theorem min_spec {ps : List Int} (h : ps ≠ []) : ∃ M, minI ps = some M ∧ M ∈ ps ∧ ∀ x ∈ ps, M ≤ x := by
  cases ps with
  | nil => exact absurd rfl h
  | cons p ps =>
    obtain ⟨a, b, c⟩ := foldl_minS ps p
    refine ⟨_, rfl, ?_, fun x hx => ?_⟩
    · rcases c with c | c
      · rw [c]; exact List.mem_cons_self
      · exact List.mem_cons_of_mem _ c
    · rcases List.mem_cons.mp hx with rfl | hx
      · exact a
      · exact b x hx
theorem min_is {ps : List Int} {x : Int} (h1 : x ∈ ps) (h2 : ∀ y ∈ ps, x ≤ y) : minI ps = some x := by
  obtain ⟨M, e1, e2, e3⟩ := min_spec (List.ne_nil_of_mem h1)
  have := e3 x h1
  have := h2 M e2
  rw [e1]
  congr 1
  omega
theorem max_is {ps : List Int} {x : Int} (h1 : x ∈ ps) (h2 : ∀ y ∈ ps, y ≤ x) : maxI ps = some x := by
  obtain ⟨M, e1, e2, e3⟩ := max_spec (List.ne_nil_of_mem h1)
  have := e3 x h1
  have := h2 M e2
  rw [e1]
  congr 1
  omega
/-! ### is a whole number -/
def numB (lo hi : Int) : D → Bool
  | .int i => decide (lo ≤ i) && decide (i ≤ hi)
  | _ => false
def numE : E := .and (.isi .int (.var 0)) (.and (.not (.isi .bool (.var 0))) (.chain .le .le (.var 1) (.var 0) (.var 2)))
theorem numE_ok {c : Call} {v : D} {lo hi : Int} {b : Bx} (h : v.sim = true) : ev c numE ⟨[.val v, .val (.int lo), .val (.int hi)], b⟩ = some (.v (.bl (numB lo hi v)), ⟨[.val v, .val (.int lo), .val (.int hi)], b⟩) := by
  unfold numE
  cases v with
  | int i =>
    by_cases h1 : lo ≤ i
    · simp (config := { implicitDefEqProofs := false }) only [entry, exs, exS, ev, evs, evO, evIfs, evIt, evT, tstR_some', tru, at_v, at_p, val_v, atL, valL, get_mk, put_mk, ob_some, ob_none, isTy, op2, dIs, leave, bfn, seqOf_lst, seqOf_tup, srcOf_lst, srcOf_tup, setTg1, setTg2, setTg3, and_self, and_true, true_and, newPut, isOwn, List.map_cons, List.map_nil, List.length_cons, List.length_nil, List.cons_append, List.nil_append, List.getD_cons_zero, List.getD_cons_succ, List.set_cons_zero, List.set_cons_succ, List.replicate_succ, List.replicate_zero, Nat.reduceSub, Nat.reduceAdd, Option.map_some, Option.map_none, Option.some_or, beq_self_eq_true, Bool.true_eq_false, Bool.false_eq_true, Bool.not_true, Bool.not_false, Bool.not_eq_true', if_true, if_false, numB, dLe, h1, decide_true, Bool.true_and]
    · simp (config := { implicitDefEqProofs := false }) only [entry, exs, exS, ev, evs, evO, evIfs, evIt, evT, tstR_some', tru, at_v, at_p, val_v, atL, valL, get_mk, put_mk, ob_some, ob_none, isTy, op2, dIs, leave, bfn, seqOf_lst, seqOf_tup, srcOf_lst, srcOf_tup, setTg1, setTg2, setTg3, and_self, and_true, true_and, newPut, isOwn, List.map_cons, List.map_nil, List.length_cons, List.length_nil, List.cons_append, List.nil_append, List.getD_cons_zero, List.getD_cons_succ, List.set_cons_zero, List.set_cons_succ, List.replicate_succ, List.replicate_zero, Nat.reduceSub, Nat.reduceAdd, Option.map_some, Option.map_none, Option.some_or, beq_self_eq_true, Bool.true_eq_false, Bool.false_eq_true, Bool.not_true, Bool.not_false, Bool.not_eq_true', if_true, if_false, numB, dLe, h1, decide_false, Bool.false_and]
  | box => cases h
  | bl k => simp (config := { implicitDefEqProofs := false }) only [entry, exs, exS, ev, evs, evO, evIfs, evIt, evT, tstR_some', tru, at_v, at_p, val_v, atL, valL, get_mk, put_mk, ob_some, ob_none, isTy, op2, dIs, leave, bfn, seqOf_lst, seqOf_tup, srcOf_lst, srcOf_tup, setTg1, setTg2, setTg3, and_self, and_true, true_and, newPut, isOwn, List.map_cons, List.map_nil, List.length_cons, List.length_nil, List.cons_append, List.nil_append, List.getD_cons_zero, List.getD_cons_succ, List.set_cons_zero, List.set_cons_succ, List.replicate_succ, List.replicate_zero, Nat.reduceSub, Nat.reduceAdd, Option.map_some, Option.map_none, Option.some_or, beq_self_eq_true, Bool.true_eq_false, Bool.false_eq_true, Bool.not_true, Bool.not_false, Bool.not_eq_true', if_true, if_false, numB]
  | _ => simp (config := { implicitDefEqProofs := false }) only [entry, exs, exS, ev, evs, evO, evIfs, evIt, evT, tstR_some', tru, at_v, at_p, val_v, atL, valL, get_mk, put_mk, ob_some, ob_none, isTy, op2, dIs, leave, bfn, seqOf_lst, seqOf_tup, srcOf_lst, srcOf_tup, setTg1, setTg2, setTg3, and_self, and_true, true_and, newPut, isOwn, List.map_cons, List.map_nil, List.length_cons, List.length_nil, List.cons_append, List.nil_append, List.getD_cons_zero, List.getD_cons_succ, List.set_cons_zero, List.set_cons_succ, List.replicate_succ, List.replicate_zero, Nat.reduceSub, Nat.reduceAdd, Option.map_some, Option.map_none, Option.some_or, beq_self_eq_true, Bool.true_eq_false, Bool.false_eq_true, Bool.not_true, Bool.not_false, Bool.not_eq_true', if_true, if_false, numB]
end PV
namespace PV
open PySem L2
theorem compL_step {β : Type} {turn : D → Env → Option (List D × Env)} {l : List β} {g f : β → D} {J : Env → Prop} (h : ∀ y ∈ l, ∀ ρ, J ρ → ∃ ρ', turn (g y) ρ = some ([f y], ρ') ∧ J ρ') : ∀ ρ, J ρ → ∃ ρ', compL turn (l.map g) ρ = some (l.map f, ρ') ∧ J ρ' := by
  induction l with
  | nil => intro ρ j; exact ⟨ρ, rfl, j⟩
  | cons y ys ih =>
    intro ρ j
    obtain ⟨ρ1, e1, j1⟩ := h y List.mem_cons_self ρ j
    obtain ⟨ρ2, e2, j2⟩ := ih (fun z hz => h z (List.mem_cons_of_mem _ hz)) ρ1 j1
    refine ⟨ρ2, ?_, j2⟩
    simp only [List.map_cons, compL, e1, Option.bind_eq_bind, Option.bind_some, e2, List.cons_append, List.nil_append]
/-- a comprehension of two fors -/
theorem comp2_of {α β : Type} {c : Call} {i j : Nat} {it it2 : Wk} {elt : E} {ρ : Env} {l : List α} {l2 : α → List β} {g : α → D} {g2 : β → D} {f : α → β → D} (hij : i ≠ j) (hi : evIt c it ρ = some (.vals (l.map g), ρ)) (ho : isOwn (ρ.get i) = false) (ho2 : isOwn (ρ.get j) = false)
    (h1 : ∀ x ∈ l, evIt c it2 ((ρ.put j .un).put i (.val (g x))) = some (.vals ((l2 x).map g2), (ρ.put j .un).put i (.val (g x))))
    (h : ∀ x ∈ l, ∀ y ∈ l2 x, ev c elt (((ρ.put j .un).put i (.val (g x))).put j (.val (g2 y))) = some (.v (f x y), ((ρ.put j .un).put i (.val (g x))).put j (.val (g2 y))))
    (hn : (l.flatMap fun x => (l2 x).map (f x)).length < line) : ev c (.comp2 [i] it .nil [j] it2 .nil elt) ρ = some (.v (.lst (l.flatMap fun x => (l2 x).map (f x))), ρ) := by
  simp only [ev, hi, Option.bind_eq_bind, Option.bind_some, List.cons_append, List.nil_append, List.any_cons, List.any_nil, ho, ho2, Bool.or_false, compLv]
  rw [if_neg (by decide)]
  generalize htn : (fun (x : D) (ρ : Env) => (setTg [i] x (ρ.wipe [i, j])).bind fun ρ => _) = turn
  have key : ∀ (l : List α), (∀ x ∈ l, evIt c it2 ((ρ.put j .un).put i (.val (g x))) = some (.vals ((l2 x).map g2), (ρ.put j .un).put i (.val (g x)))) → (∀ x ∈ l, ∀ y ∈ l2 x, ev c elt (((ρ.put j .un).put i (.val (g x))).put j (.val (g2 y))) = some (.v (f x y), ((ρ.put j .un).put i (.val (g x))).put j (.val (g2 y)))) →
      ∀ ρ1 : Env, (ρ1.put j .un).put i .un = (ρ.put j .un).put i .un → ∃ ρ2, compL turn (l.map g) ρ1 = some (l.flatMap fun x => (l2 x).map (f x), ρ2) ∧ (ρ2.put j .un).put i .un = (ρ.put j .un).put i .un := by
    intro l
    induction l with
    | nil => intro _ _ ρ1 e; exact ⟨ρ1, rfl, e⟩
    | cons x xs ih =>
      intro h1 h ρ1 e
      have ew : (ρ1.wipe [i, j]).put i (.val (g x)) = (ρ.put j .un).put i (.val (g x)) := by
        show ((ρ1.put j .un).put i .un).put i (.val (g x)) = _
        rw [e, put_put]
      generalize hE : (ρ.put j .un).put i (.val (g x)) = E0 at *
      have hEj : E0.put j .un = E0 := by
        rw [← hE, put_comm hij, put_put]
      have inner := compL_step (l := l2 x) (g := g2) (f := f x) (J := fun ρ1 : Env => ρ1.put j .un = E0) (turn := fun (x : D) (ρ : Env) => (setTg [j] x (ρ.wipe [j])).bind fun ρ => (evIfs c .nil ρ).bind fun r => match r.1 with
            | true => (ev c elt r.2).bind fun r => r.1.val.bind fun d => some ([d], r.2)
            | false => some ([], r.2)) (fun y hy ρ1 e => by
        have ew1 : (ρ1.wipe [j]).put j (.val (g2 y)) = E0.put j (.val (g2 y)) := by
          show (ρ1.put j .un).put j (.val (g2 y)) = _
          rw [e]
        have hh := h x List.mem_cons_self y hy
        rw [hE] at hh
        refine ⟨E0.put j (.val (g2 y)), ?_, by rw [put_put, hEj]⟩
        show Option.bind (some ((ρ1.wipe [j]).put j (.val (g2 y)))) _ = _
        rw [ew1]
        simp only [Option.bind_some, evIfs, hh, Hd.val])
      have hx1 := h1 x List.mem_cons_self
      rw [hE] at hx1
      obtain ⟨ρ3, i1, i2⟩ := inner (E0.wipe [j]) (by show (E0.put j .un).put j .un = E0; rw [put_put, hEj])
      have e1 : turn (g x) ρ1 = some ((l2 x).map (f x), ρ3) := by
        subst htn
        show Option.bind (some ((ρ1.wipe [i, j]).put i (.val (g x)))) _ = _
        rw [ew]
        simp only [Option.bind_some, evIfs, hx1, compLv]
        exact i1
      obtain ⟨ρ2, e2, e3⟩ := ih (fun y hy => h1 y (List.mem_cons_of_mem _ hy)) (fun y hy => h y (List.mem_cons_of_mem _ hy)) ρ3 (by rw [i2, ← hE, put_put])
      refine ⟨ρ2, ?_, e3⟩
      simp only [List.map_cons, compL, e1, Option.bind_eq_bind, Option.bind_some, e2, List.flatMap_cons]
  obtain ⟨ρ2, e2, e3⟩ := key l h1 h (ρ.wipe [i, j]) (by
    show (((ρ.put j .un).put i .un).put j .un).put i .un = _
    rw [put_comm (ρ := ρ.put j .un) hij, put_put, put_put])
  rw [e2]
  simp only [Option.bind_some]
  rw [if_pos hn, rest2 hij e3]
end PV

end
section
set_option Elab.async false
set_option linter.all false
set_option maxRecDepth 100000
set_option maxHeartbeats 2000000
/-! EE: steps and parts common to the laws. -/
namespace PV
open PySem L2
theorem get_put_ne {ρ : Env} {i j : Nat} {s : Slot} (h : i ≠ j) : (ρ.put i s).get j = ρ.get j := by
  rw [get_put, if_neg fun z => h z.1]
theorem get_put_eq {ρ : Env} {i : Nat} {s : Slot} (h : i < ρ.sl.length) : (ρ.put i s).get i = s := by
  rw [get_put, if_pos ⟨rfl, h⟩]
theorem map_same (xs : List D) : xs.map (fun x => x) = xs := List.map_id' xs
/-! ### statements -/
theorem ret_ok {c : Call} {e : E} {ρ ρ' : Env} {d : D} (h : ev c e ρ = some (.v d, ρ')) : exS c (.ret e) ρ = some (.ret d, ρ') := by
  simp (config := { implicitDefEqProofs := false }) only [entry, exs, exS, ev, evs, evO, evIfs, evIt, evT, tstR_some', tru, at_v, at_p, val_v, atL, valL, get_mk, put_mk, ob_some, ob_none, isTy, op2, dIs, leave, bfn, seqOf_lst, seqOf_tup, srcOf_lst, srcOf_tup, setTg1, setTg2, setTg3, and_self, and_true, true_and, newPut, isOwn, List.map_cons, List.map_nil, List.length_cons, List.length_nil, List.cons_append, List.nil_append, List.getD_cons_zero, List.getD_cons_succ, List.set_cons_zero, List.set_cons_succ, List.replicate_succ, List.replicate_zero, Nat.reduceSub, Nat.reduceAdd, Option.map_some, Option.map_none, Option.some_or, beq_self_eq_true, Bool.true_eq_false, Bool.false_eq_true, Bool.not_true, Bool.not_false, Bool.not_eq_true', if_true, if_false, h]
theorem asg_ok {c : Call} {i : Nat} {e : E} {ρ ρ' : Env} {d : D} (h : ev c e ρ = some (.v d, ρ')) : exS c (.asg i e) ρ = some (.next, ρ'.put i (.val d)) := by
  simp (config := { implicitDefEqProofs := false }) only [entry, exs, exS, ev, evs, evO, evIfs, evIt, evT, tstR_some', tru, at_v, at_p, val_v, atL, valL, get_mk, put_mk, ob_some, ob_none, isTy, op2, dIs, leave, bfn, seqOf_lst, seqOf_tup, srcOf_lst, srcOf_tup, setTg1, setTg2, setTg3, and_self, and_true, true_and, newPut, isOwn, List.map_cons, List.map_nil, List.length_cons, List.length_nil, List.cons_append, List.nil_append, List.getD_cons_zero, List.getD_cons_succ, List.set_cons_zero, List.set_cons_succ, List.replicate_succ, List.replicate_zero, Nat.reduceSub, Nat.reduceAdd, Option.map_some, Option.map_none, Option.some_or, beq_self_eq_true, Bool.true_eq_false, Bool.false_eq_true, Bool.not_true, Bool.not_false, Bool.not_eq_true', if_true, if_false, h]
theorem new_ok {c : Call} {i : Nat} {e : E} {ρ ρ' : Env} {ds : List D} (h : ev c e ρ = some (.v (.lst ds), ρ')) : exS c (.new i e) ρ = some (.next, ρ'.put i (.own ds)) := by
  simp (config := { implicitDefEqProofs := false }) only [entry, exs, exS, ev, evs, evO, evIfs, evIt, evT, tstR_some', tru, at_v, at_p, val_v, atL, valL, get_mk, put_mk, ob_some, ob_none, isTy, op2, dIs, leave, bfn, seqOf_lst, seqOf_tup, srcOf_lst, srcOf_tup, setTg1, setTg2, setTg3, and_self, and_true, true_and, newPut, isOwn, List.map_cons, List.map_nil, List.length_cons, List.length_nil, List.cons_append, List.nil_append, List.getD_cons_zero, List.getD_cons_succ, List.set_cons_zero, List.set_cons_succ, List.replicate_succ, List.replicate_zero, Nat.reduceSub, Nat.reduceAdd, Option.map_some, Option.map_none, Option.some_or, beq_self_eq_true, Bool.true_eq_false, Bool.false_eq_true, Bool.not_true, Bool.not_false, Bool.not_eq_true', if_true, if_false, h]
theorem app_ok {c : Call} {i : Nat} {e : E} {ρ ρ' : Env} {d : D} {ds : List D} (ho : isOwn (ρ.get i) = true) (h : ev c e ρ = some (.v d, ρ')) (hg : ρ'.get i = .own ds) (hl : ds.length ≤ 1000000) : exS c (.app i e) ρ = some (.next, ρ'.put i (.own (ds ++ [d]))) := by
  have := line_big
  have h2 : ds.length < line := by omega
  simp only [exS, ho, h, hg, ob_some, val_v, Bool.not_true, Bool.false_eq_true, if_false, if_pos h2]
theorem ite_no {c : Call} {t : E} {a : Ss} {ρ ρ' : Env} (h : ev c t ρ = some (.v (.bl false), ρ')) : exS c (.ite t a .nil) ρ = some (.next, ρ') := by
  simp (config := { implicitDefEqProofs := false }) only [entry, exs, exS, ev, evs, evO, evIfs, evIt, evT, tstR_some', tru, at_v, at_p, val_v, atL, valL, get_mk, put_mk, ob_some, ob_none, isTy, op2, dIs, leave, bfn, seqOf_lst, seqOf_tup, srcOf_lst, srcOf_tup, setTg1, setTg2, setTg3, and_self, and_true, true_and, newPut, isOwn, List.map_cons, List.map_nil, List.length_cons, List.length_nil, List.cons_append, List.nil_append, List.getD_cons_zero, List.getD_cons_succ, List.set_cons_zero, List.set_cons_succ, List.replicate_succ, List.replicate_zero, Nat.reduceSub, Nat.reduceAdd, Option.map_some, Option.map_none, Option.some_or, beq_self_eq_true, Bool.true_eq_false, Bool.false_eq_true, Bool.not_true, Bool.not_false, Bool.not_eq_true', if_true, if_false, h]
theorem ite_yes {c : Call} {t : E} {ρ ρ' : Env} (h : ev c t ρ = some (.v (.bl true), ρ')) : exS c (.ite t (.cons (.ret (.kbl false)) .nil) .nil) ρ = some (.ret (.bl false), ρ') := by
  simp (config := { implicitDefEqProofs := false }) only [entry, exs, exS, ev, evs, evO, evIfs, evIt, evT, tstR_some', tru, at_v, at_p, val_v, atL, valL, get_mk, put_mk, ob_some, ob_none, isTy, op2, dIs, leave, bfn, seqOf_lst, seqOf_tup, srcOf_lst, srcOf_tup, setTg1, setTg2, setTg3, and_self, and_true, true_and, newPut, isOwn, List.map_cons, List.map_nil, List.length_cons, List.length_nil, List.cons_append, List.nil_append, List.getD_cons_zero, List.getD_cons_succ, List.set_cons_zero, List.set_cons_succ, List.replicate_succ, List.replicate_zero, Nat.reduceSub, Nat.reduceAdd, Option.map_some, Option.map_none, Option.some_or, beq_self_eq_true, Bool.true_eq_false, Bool.false_eq_true, Bool.not_true, Bool.not_false, Bool.not_eq_true', if_true, if_false, h]
theorem ite_go {c : Call} {t : E} {a b : Ss} {ρ ρ1 : Env} {r : Option (Fl × Env)} (h : ev c t ρ = some (.v (.bl true), ρ1)) (h2 : exs c a ρ1 = r) : exS c (.ite t a b) ρ = r := by
  simp (config := { implicitDefEqProofs := false }) only [entry, exs, exS, ev, evs, evO, evIfs, evIt, evT, tstR_some', tru, at_v, at_p, val_v, atL, valL, get_mk, put_mk, ob_some, ob_none, isTy, op2, dIs, leave, bfn, seqOf_lst, seqOf_tup, srcOf_lst, srcOf_tup, setTg1, setTg2, setTg3, and_self, and_true, true_and, newPut, isOwn, List.map_cons, List.map_nil, List.length_cons, List.length_nil, List.cons_append, List.nil_append, List.getD_cons_zero, List.getD_cons_succ, List.set_cons_zero, List.set_cons_succ, List.replicate_succ, List.replicate_zero, Nat.reduceSub, Nat.reduceAdd, Option.map_some, Option.map_none, Option.some_or, beq_self_eq_true, Bool.true_eq_false, Bool.false_eq_true, Bool.not_true, Bool.not_false, Bool.not_eq_true', if_true, if_false, h, h2]
theorem ite_gf {c : Call} {t : E} {a b : Ss} {ρ ρ1 : Env} {r : Option (Fl × Env)} (h : ev c t ρ = some (.v (.bl false), ρ1)) (h2 : exs c b ρ1 = r) : exS c (.ite t a b) ρ = r := by
  simp (config := { implicitDefEqProofs := false }) only [entry, exs, exS, ev, evs, evO, evIfs, evIt, evT, tstR_some', tru, at_v, at_p, val_v, atL, valL, get_mk, put_mk, ob_some, ob_none, isTy, op2, dIs, leave, bfn, seqOf_lst, seqOf_tup, srcOf_lst, srcOf_tup, setTg1, setTg2, setTg3, and_self, and_true, true_and, newPut, isOwn, List.map_cons, List.map_nil, List.length_cons, List.length_nil, List.cons_append, List.nil_append, List.getD_cons_zero, List.getD_cons_succ, List.set_cons_zero, List.set_cons_succ, List.replicate_succ, List.replicate_zero, Nat.reduceSub, Nat.reduceAdd, Option.map_some, Option.map_none, Option.some_or, beq_self_eq_true, Bool.true_eq_false, Bool.false_eq_true, Bool.not_true, Bool.not_false, Bool.not_eq_true', if_true, if_false, h, h2]
theorem for_ok {c : Call} {i : Nat} {w : Wk} {body : Ss} {ρ ρ1 ρ2 : Env} {xs : List D} (hw : evIt c w ρ = some (.vals xs, ρ1)) (h : forL (fun x ρ => exs c body (ρ.put i (.val x))) xs ρ1 = some (.next, ρ2)) : exS c (.for_ [i] w body) ρ = some (.next, ρ2) := by
  simp (config := { implicitDefEqProofs := false }) only [entry, exs, exS, ev, evs, evO, evIfs, evIt, evT, tstR_some', tru, at_v, at_p, val_v, atL, valL, get_mk, put_mk, ob_some, ob_none, isTy, op2, dIs, leave, bfn, seqOf_lst, seqOf_tup, srcOf_lst, srcOf_tup, setTg1, setTg2, setTg3, and_self, and_true, true_and, newPut, isOwn, List.map_cons, List.map_nil, List.length_cons, List.length_nil, List.cons_append, List.nil_append, List.getD_cons_zero, List.getD_cons_succ, List.set_cons_zero, List.set_cons_succ, List.replicate_succ, List.replicate_zero, Nat.reduceSub, Nat.reduceAdd, Option.map_some, Option.map_none, Option.some_or, beq_self_eq_true, Bool.true_eq_false, Bool.false_eq_true, Bool.not_true, Bool.not_false, Bool.not_eq_true', if_true, if_false, hw, h]
/-- a loop that ends with a value -/
theorem for_fl {c : Call} {i : Nat} {w : Wk} {body : Ss} {ρ ρ1 : Env} {xs : List D} {r : Option (Fl × Env)} (hw : evIt c w ρ = some (.vals xs, ρ1)) (h : forL (fun x ρ => exs c body (ρ.put i (.val x))) xs ρ1 = r) : exS c (.for_ [i] w body) ρ = r := by
  simp (config := { implicitDefEqProofs := false }) only [entry, exs, exS, ev, evs, evO, evIfs, evIt, evT, tstR_some', tru, at_v, at_p, val_v, atL, valL, get_mk, put_mk, ob_some, ob_none, isTy, op2, dIs, leave, bfn, seqOf_lst, seqOf_tup, srcOf_lst, srcOf_tup, setTg1, setTg2, setTg3, and_self, and_true, true_and, newPut, isOwn, List.map_cons, List.map_nil, List.length_cons, List.length_nil, List.cons_append, List.nil_append, List.getD_cons_zero, List.getD_cons_succ, List.set_cons_zero, List.set_cons_succ, List.replicate_succ, List.replicate_zero, Nat.reduceSub, Nat.reduceAdd, Option.map_some, Option.map_none, Option.some_or, beq_self_eq_true, Bool.true_eq_false, Bool.false_eq_true, Bool.not_true, Bool.not_false, Bool.not_eq_true', if_true, if_false, hw, h]
theorem asgT2_ok {c : Call} {i j : Nat} {e : E} {ρ ρ' : Env} {x y : D} (h : ev c e ρ = some (.v (.tup [x, y]), ρ')) : exS c (.asgT [i, j] e) ρ = some (.next, (ρ'.put i (.val x)).put j (.val y)) := by
  simp (config := { implicitDefEqProofs := false }) only [entry, exs, exS, ev, evs, evO, evIfs, evIt, evT, tstR_some', tru, at_v, at_p, val_v, atL, valL, get_mk, put_mk, ob_some, ob_none, isTy, op2, dIs, leave, bfn, seqOf_lst, seqOf_tup, srcOf_lst, srcOf_tup, setTg1, setTg2, setTg3, and_self, and_true, true_and, newPut, isOwn, List.map_cons, List.map_nil, List.length_cons, List.length_nil, List.cons_append, List.nil_append, List.getD_cons_zero, List.getD_cons_succ, List.set_cons_zero, List.set_cons_succ, List.replicate_succ, List.replicate_zero, Nat.reduceSub, Nat.reduceAdd, Option.map_some, Option.map_none, Option.some_or, beq_self_eq_true, Bool.true_eq_false, Bool.false_eq_true, Bool.not_true, Bool.not_false, Bool.not_eq_true', if_true, if_false, h]
/-! ### expressions -/
theorem tup2 {c : Call} {a e : E} {ρ ρ1 ρ2 : Env} {x y : D} (h1 : ev c a ρ = some (.v x, ρ1)) (h2 : ev c e ρ1 = some (.v y, ρ2)) : ev c (.tup (.cons a (.cons e .nil))) ρ = some (.v (.tup [x, y]), ρ2) := by
  simp (config := { implicitDefEqProofs := false }) only [entry, exs, exS, ev, evs, evO, evIfs, evIt, evT, tstR_some', tru, at_v, at_p, val_v, atL, valL, get_mk, put_mk, ob_some, ob_none, isTy, op2, dIs, leave, bfn, seqOf_lst, seqOf_tup, srcOf_lst, srcOf_tup, setTg1, setTg2, setTg3, and_self, and_true, true_and, newPut, isOwn, List.map_cons, List.map_nil, List.length_cons, List.length_nil, List.cons_append, List.nil_append, List.getD_cons_zero, List.getD_cons_succ, List.set_cons_zero, List.set_cons_succ, List.replicate_succ, List.replicate_zero, Nat.reduceSub, Nat.reduceAdd, Option.map_some, Option.map_none, Option.some_or, beq_self_eq_true, Bool.true_eq_false, Bool.false_eq_true, Bool.not_true, Bool.not_false, Bool.not_eq_true', if_true, if_false, h1, h2, valL]
theorem call1 {c : Call} {f : Nat} {a : E} {ρ ρ1 : Env} {x d : D} {b : Bx} (h1 : ev c a ρ = some (.v x, ρ1)) (h : c f [x] ρ1.bx = some (d, b)) : ev c (.call f (.cons a .nil)) ρ = some (.v d, { ρ1 with bx := b }) := by
  simp (config := { implicitDefEqProofs := false }) only [entry, exs, exS, ev, evs, evO, evIfs, evIt, evT, tstR_some', tru, at_v, at_p, val_v, atL, valL, get_mk, put_mk, ob_some, ob_none, isTy, op2, dIs, leave, bfn, seqOf_lst, seqOf_tup, srcOf_lst, srcOf_tup, setTg1, setTg2, setTg3, and_self, and_true, true_and, newPut, isOwn, List.map_cons, List.map_nil, List.length_cons, List.length_nil, List.cons_append, List.nil_append, List.getD_cons_zero, List.getD_cons_succ, List.set_cons_zero, List.set_cons_succ, List.replicate_succ, List.replicate_zero, Nat.reduceSub, Nat.reduceAdd, Option.map_some, Option.map_none, Option.some_or, beq_self_eq_true, Bool.true_eq_false, Bool.false_eq_true, Bool.not_true, Bool.not_false, Bool.not_eq_true', if_true, if_false, h1, valL, h]
theorem call2 {c : Call} {f : Nat} {a e : E} {ρ ρ1 ρ2 : Env} {x y d : D} {b : Bx} (h1 : ev c a ρ = some (.v x, ρ1)) (h2 : ev c e ρ1 = some (.v y, ρ2)) (h : c f [x, y] ρ2.bx = some (d, b)) : ev c (.call f (.cons a (.cons e .nil))) ρ = some (.v d, { ρ2 with bx := b }) := by
  simp (config := { implicitDefEqProofs := false }) only [entry, exs, exS, ev, evs, evO, evIfs, evIt, evT, tstR_some', tru, at_v, at_p, val_v, atL, valL, get_mk, put_mk, ob_some, ob_none, isTy, op2, dIs, leave, bfn, seqOf_lst, seqOf_tup, srcOf_lst, srcOf_tup, setTg1, setTg2, setTg3, and_self, and_true, true_and, newPut, isOwn, List.map_cons, List.map_nil, List.length_cons, List.length_nil, List.cons_append, List.nil_append, List.getD_cons_zero, List.getD_cons_succ, List.set_cons_zero, List.set_cons_succ, List.replicate_succ, List.replicate_zero, Nat.reduceSub, Nat.reduceAdd, Option.map_some, Option.map_none, Option.some_or, beq_self_eq_true, Bool.true_eq_false, Bool.false_eq_true, Bool.not_true, Bool.not_false, Bool.not_eq_true', if_true, if_false, h1, h2, valL, h]
theorem call3 {c : Call} {f : Nat} {a e g : E} {ρ ρ1 ρ2 ρ3 : Env} {x y z d : D} {b : Bx} (h1 : ev c a ρ = some (.v x, ρ1)) (h2 : ev c e ρ1 = some (.v y, ρ2)) (h3 : ev c g ρ2 = some (.v z, ρ3)) (h : c f [x, y, z] ρ3.bx = some (d, b)) : ev c (.call f (.cons a (.cons e (.cons g .nil)))) ρ = some (.v d, { ρ3 with bx := b }) := by
  simp (config := { implicitDefEqProofs := false }) only [entry, exs, exS, ev, evs, evO, evIfs, evIt, evT, tstR_some', tru, at_v, at_p, val_v, atL, valL, get_mk, put_mk, ob_some, ob_none, isTy, op2, dIs, leave, bfn, seqOf_lst, seqOf_tup, srcOf_lst, srcOf_tup, setTg1, setTg2, setTg3, and_self, and_true, true_and, newPut, isOwn, List.map_cons, List.map_nil, List.length_cons, List.length_nil, List.cons_append, List.nil_append, List.getD_cons_zero, List.getD_cons_succ, List.set_cons_zero, List.set_cons_succ, List.replicate_succ, List.replicate_zero, Nat.reduceSub, Nat.reduceAdd, Option.map_some, Option.map_none, Option.some_or, beq_self_eq_true, Bool.true_eq_false, Bool.false_eq_true, Bool.not_true, Bool.not_false, Bool.not_eq_true', if_true, if_false, h1, h2, h3, valL, h]
theorem same_t {c : Call} {f : Nat} {a e : E} {ρ : Env} {d : D} (h1 : ev c a ρ = some (.v d, ρ)) (h2 : ev c e ρ = some (.v d, ρ)) (hs : c f [d, d] ρ.bx = some (.bl true, ρ.bx)) : ev c (.not (.call f (.cons a (.cons e .nil)))) ρ = some (.v (.bl false), ρ) := by
  simp (config := { implicitDefEqProofs := false }) only [entry, exs, exS, ev, evs, evO, evIfs, evIt, evT, tstR_some', tru, at_v, at_p, val_v, atL, valL, get_mk, put_mk, ob_some, ob_none, isTy, op2, dIs, leave, bfn, seqOf_lst, seqOf_tup, srcOf_lst, srcOf_tup, setTg1, setTg2, setTg3, and_self, and_true, true_and, newPut, isOwn, List.map_cons, List.map_nil, List.length_cons, List.length_nil, List.cons_append, List.nil_append, List.getD_cons_zero, List.getD_cons_succ, List.set_cons_zero, List.set_cons_succ, List.replicate_succ, List.replicate_zero, Nat.reduceSub, Nat.reduceAdd, Option.map_some, Option.map_none, Option.some_or, beq_self_eq_true, Bool.true_eq_false, Bool.false_eq_true, Bool.not_true, Bool.not_false, Bool.not_eq_true', if_true, if_false, h1, h2, valL, hs]
theorem or_no {c : Call} {a e : E} {ρ : Env} (h1 : ev c a ρ = some (.v (.bl false), ρ)) (h2 : ev c e ρ = some (.v (.bl false), ρ)) : ev c (.or a e) ρ = some (.v (.bl false), ρ) := by
  simp (config := { implicitDefEqProofs := false }) only [entry, exs, exS, ev, evs, evO, evIfs, evIt, evT, tstR_some', tru, at_v, at_p, val_v, atL, valL, get_mk, put_mk, ob_some, ob_none, isTy, op2, dIs, leave, bfn, seqOf_lst, seqOf_tup, srcOf_lst, srcOf_tup, setTg1, setTg2, setTg3, and_self, and_true, true_and, newPut, isOwn, List.map_cons, List.map_nil, List.length_cons, List.length_nil, List.cons_append, List.nil_append, List.getD_cons_zero, List.getD_cons_succ, List.set_cons_zero, List.set_cons_succ, List.replicate_succ, List.replicate_zero, Nat.reduceSub, Nat.reduceAdd, Option.map_some, Option.map_none, Option.some_or, beq_self_eq_true, Bool.true_eq_false, Bool.false_eq_true, Bool.not_true, Bool.not_false, Bool.not_eq_true', if_true, if_false, h1, h2]
theorem not_ok {c : Call} {a : E} {k : Bool} {ρ ρ1 : Env} (h1 : ev c a ρ = some (.v (.bl k), ρ1)) : ev c (.not a) ρ = some (.v (.bl !k), ρ1) := by
  simp (config := { implicitDefEqProofs := false }) only [entry, exs, exS, ev, evs, evO, evIfs, evIt, evT, tstR_some', tru, at_v, at_p, val_v, atL, valL, get_mk, put_mk, ob_some, ob_none, isTy, op2, dIs, leave, bfn, seqOf_lst, seqOf_tup, srcOf_lst, srcOf_tup, setTg1, setTg2, setTg3, and_self, and_true, true_and, newPut, isOwn, List.map_cons, List.map_nil, List.length_cons, List.length_nil, List.cons_append, List.nil_append, List.getD_cons_zero, List.getD_cons_succ, List.set_cons_zero, List.set_cons_succ, List.replicate_succ, List.replicate_zero, Nat.reduceSub, Nat.reduceAdd, Option.map_some, Option.map_none, Option.some_or, beq_self_eq_true, Bool.true_eq_false, Bool.false_eq_true, Bool.not_true, Bool.not_false, Bool.not_eq_true', if_true, if_false, h1]
theorem or_ok {c : Call} {a e : E} {p q : Bool} {ρ : Env} (h1 : ev c a ρ = some (.v (.bl p), ρ)) (h2 : p = false → ev c e ρ = some (.v (.bl q), ρ)) : ev c (.or a e) ρ = some (.v (.bl (p || q)), ρ) := by
  cases p with
  | true => simp (config := { implicitDefEqProofs := false }) only [entry, exs, exS, ev, evs, evO, evIfs, evIt, evT, tstR_some', tru, at_v, at_p, val_v, atL, valL, get_mk, put_mk, ob_some, ob_none, isTy, op2, dIs, leave, bfn, seqOf_lst, seqOf_tup, srcOf_lst, srcOf_tup, setTg1, setTg2, setTg3, and_self, and_true, true_and, newPut, isOwn, List.map_cons, List.map_nil, List.length_cons, List.length_nil, List.cons_append, List.nil_append, List.getD_cons_zero, List.getD_cons_succ, List.set_cons_zero, List.set_cons_succ, List.replicate_succ, List.replicate_zero, Nat.reduceSub, Nat.reduceAdd, Option.map_some, Option.map_none, Option.some_or, beq_self_eq_true, Bool.true_eq_false, Bool.false_eq_true, Bool.not_true, Bool.not_false, Bool.not_eq_true', if_true, if_false, h1, Bool.true_or]
  | false =>
    have := h2 rfl
    simp (config := { implicitDefEqProofs := false }) only [entry, exs, exS, ev, evs, evO, evIfs, evIt, evT, tstR_some', tru, at_v, at_p, val_v, atL, valL, get_mk, put_mk, ob_some, ob_none, isTy, op2, dIs, leave, bfn, seqOf_lst, seqOf_tup, srcOf_lst, srcOf_tup, setTg1, setTg2, setTg3, and_self, and_true, true_and, newPut, isOwn, List.map_cons, List.map_nil, List.length_cons, List.length_nil, List.cons_append, List.nil_append, List.getD_cons_zero, List.getD_cons_succ, List.set_cons_zero, List.set_cons_succ, List.replicate_succ, List.replicate_zero, Nat.reduceSub, Nat.reduceAdd, Option.map_some, Option.map_none, Option.some_or, beq_self_eq_true, Bool.true_eq_false, Bool.false_eq_true, Bool.not_true, Bool.not_false, Bool.not_eq_true', if_true, if_false, h1, this, Bool.false_or]
theorem and_ok {c : Call} {a e : E} {p q : Bool} {ρ : Env} (h1 : ev c a ρ = some (.v (.bl p), ρ)) (h2 : p = true → ev c e ρ = some (.v (.bl q), ρ)) : ev c (.and a e) ρ = some (.v (.bl (p && q)), ρ) := by
  cases p with
  | false => simp (config := { implicitDefEqProofs := false }) only [entry, exs, exS, ev, evs, evO, evIfs, evIt, evT, tstR_some', tru, at_v, at_p, val_v, atL, valL, get_mk, put_mk, ob_some, ob_none, isTy, op2, dIs, leave, bfn, seqOf_lst, seqOf_tup, srcOf_lst, srcOf_tup, setTg1, setTg2, setTg3, and_self, and_true, true_and, newPut, isOwn, List.map_cons, List.map_nil, List.length_cons, List.length_nil, List.cons_append, List.nil_append, List.getD_cons_zero, List.getD_cons_succ, List.set_cons_zero, List.set_cons_succ, List.replicate_succ, List.replicate_zero, Nat.reduceSub, Nat.reduceAdd, Option.map_some, Option.map_none, Option.some_or, beq_self_eq_true, Bool.true_eq_false, Bool.false_eq_true, Bool.not_true, Bool.not_false, Bool.not_eq_true', if_true, if_false, h1, Bool.false_and]
  | true =>
    have := h2 rfl
    simp (config := { implicitDefEqProofs := false }) only [entry, exs, exS, ev, evs, evO, evIfs, evIt, evT, tstR_some', tru, at_v, at_p, val_v, atL, valL, get_mk, put_mk, ob_some, ob_none, isTy, op2, dIs, leave, bfn, seqOf_lst, seqOf_tup, srcOf_lst, srcOf_tup, setTg1, setTg2, setTg3, and_self, and_true, true_and, newPut, isOwn, List.map_cons, List.map_nil, List.length_cons, List.length_nil, List.cons_append, List.nil_append, List.getD_cons_zero, List.getD_cons_succ, List.set_cons_zero, List.set_cons_succ, List.replicate_succ, List.replicate_zero, Nat.reduceSub, Nat.reduceAdd, Option.map_some, Option.map_none, Option.some_or, beq_self_eq_true, Bool.true_eq_false, Bool.false_eq_true, Bool.not_true, Bool.not_false, Bool.not_eq_true', if_true, if_false, h1, this, Bool.true_and]
theorem and_d {c : Call} {a e : E} {p q : Bool} {ρ ρ1 : Env} (h1 : ev c a ρ = some (.v (.bl p), ρ1)) (h2 : ev c e ρ1 = some (.v (.bl q), ρ1)) : ev c (.and a e) ρ = some (.v (.bl (p && q)), ρ1) := by
  cases p with
  | false => simp (config := { implicitDefEqProofs := false }) only [entry, exs, exS, ev, evs, evO, evIfs, evIt, evT, tstR_some', tru, at_v, at_p, val_v, atL, valL, get_mk, put_mk, ob_some, ob_none, isTy, op2, dIs, leave, bfn, seqOf_lst, seqOf_tup, srcOf_lst, srcOf_tup, setTg1, setTg2, setTg3, and_self, and_true, true_and, newPut, isOwn, List.map_cons, List.map_nil, List.length_cons, List.length_nil, List.cons_append, List.nil_append, List.getD_cons_zero, List.getD_cons_succ, List.set_cons_zero, List.set_cons_succ, List.replicate_succ, List.replicate_zero, Nat.reduceSub, Nat.reduceAdd, Option.map_some, Option.map_none, Option.some_or, beq_self_eq_true, Bool.true_eq_false, Bool.false_eq_true, Bool.not_true, Bool.not_false, Bool.not_eq_true', if_true, if_false, h1, Bool.false_and]
  | true => simp (config := { implicitDefEqProofs := false }) only [entry, exs, exS, ev, evs, evO, evIfs, evIt, evT, tstR_some', tru, at_v, at_p, val_v, atL, valL, get_mk, put_mk, ob_some, ob_none, isTy, op2, dIs, leave, bfn, seqOf_lst, seqOf_tup, srcOf_lst, srcOf_tup, setTg1, setTg2, setTg3, and_self, and_true, true_and, newPut, isOwn, List.map_cons, List.map_nil, List.length_cons, List.length_nil, List.cons_append, List.nil_append, List.getD_cons_zero, List.getD_cons_succ, List.set_cons_zero, List.set_cons_succ, List.replicate_succ, List.replicate_zero, Nat.reduceSub, Nat.reduceAdd, Option.map_some, Option.map_none, Option.some_or, beq_self_eq_true, Bool.true_eq_false, Bool.false_eq_true, Bool.not_true, Bool.not_false, Bool.not_eq_true', if_true, if_false, h1, h2, Bool.true_and]
theorem ite_l {c : Call} {t a e : E} {ρ ρ1 : Env} {r : Option (Hd × Env)} (h : ev c t ρ = some (.v (.bl true), ρ1)) (h2 : ev c a ρ1 = r) : ev c (.ite t a e) ρ = r := by
  simp (config := { implicitDefEqProofs := false }) only [entry, exs, exS, ev, evs, evO, evIfs, evIt, evT, tstR_some', tru, at_v, at_p, val_v, atL, valL, get_mk, put_mk, ob_some, ob_none, isTy, op2, dIs, leave, bfn, seqOf_lst, seqOf_tup, srcOf_lst, srcOf_tup, setTg1, setTg2, setTg3, and_self, and_true, true_and, newPut, isOwn, List.map_cons, List.map_nil, List.length_cons, List.length_nil, List.cons_append, List.nil_append, List.getD_cons_zero, List.getD_cons_succ, List.set_cons_zero, List.set_cons_succ, List.replicate_succ, List.replicate_zero, Nat.reduceSub, Nat.reduceAdd, Option.map_some, Option.map_none, Option.some_or, beq_self_eq_true, Bool.true_eq_false, Bool.false_eq_true, Bool.not_true, Bool.not_false, Bool.not_eq_true', if_true, if_false, h, h2]
theorem ite_r {c : Call} {t a e : E} {ρ ρ1 : Env} {r : Option (Hd × Env)} (h : ev c t ρ = some (.v (.bl false), ρ1)) (h2 : ev c e ρ1 = r) : ev c (.ite t a e) ρ = r := by
  simp (config := { implicitDefEqProofs := false }) only [entry, exs, exS, ev, evs, evO, evIfs, evIt, evT, tstR_some', tru, at_v, at_p, val_v, atL, valL, get_mk, put_mk, ob_some, ob_none, isTy, op2, dIs, leave, bfn, seqOf_lst, seqOf_tup, srcOf_lst, srcOf_tup, setTg1, setTg2, setTg3, and_self, and_true, true_and, newPut, isOwn, List.map_cons, List.map_nil, List.length_cons, List.length_nil, List.cons_append, List.nil_append, List.getD_cons_zero, List.getD_cons_succ, List.set_cons_zero, List.set_cons_succ, List.replicate_succ, List.replicate_zero, Nat.reduceSub, Nat.reduceAdd, Option.map_some, Option.map_none, Option.some_or, beq_self_eq_true, Bool.true_eq_false, Bool.false_eq_true, Bool.not_true, Bool.not_false, Bool.not_eq_true', if_true, if_false, h, h2]
theorem any_ok {α : Type} {c : Call} {cc : E} {l : List α} {f : α → Bool} {ρ : Env} (h : ev c cc ρ = some (.v (.lst (l.map fun x => .bl (f x))), ρ)) : ev c (.bi .any (.cons cc .nil)) ρ = some (.v (.bl (l.any f)), ρ) := by
  simp (config := { implicitDefEqProofs := false }) only [entry, exs, exS, ev, evs, evO, evIfs, evIt, evT, tstR_some', tru, at_v, at_p, val_v, atL, valL, get_mk, put_mk, ob_some, ob_none, isTy, op2, dIs, leave, bfn, seqOf_lst, seqOf_tup, srcOf_lst, srcOf_tup, setTg1, setTg2, setTg3, and_self, and_true, true_and, newPut, isOwn, List.map_cons, List.map_nil, List.length_cons, List.length_nil, List.cons_append, List.nil_append, List.getD_cons_zero, List.getD_cons_succ, List.set_cons_zero, List.set_cons_succ, List.replicate_succ, List.replicate_zero, Nat.reduceSub, Nat.reduceAdd, Option.map_some, Option.map_none, Option.some_or, beq_self_eq_true, Bool.true_eq_false, Bool.false_eq_true, Bool.not_true, Bool.not_false, Bool.not_eq_true', if_true, if_false, h, boolL_mapb]
  rw [List.any_map]; rfl
theorem all_ok {α : Type} {c : Call} {cc : E} {l : List α} {f : α → Bool} {ρ : Env} (h : ev c cc ρ = some (.v (.lst (l.map fun x => .bl (f x))), ρ)) : ev c (.bi .all (.cons cc .nil)) ρ = some (.v (.bl (l.all f)), ρ) := by
  simp (config := { implicitDefEqProofs := false }) only [entry, exs, exS, ev, evs, evO, evIfs, evIt, evT, tstR_some', tru, at_v, at_p, val_v, atL, valL, get_mk, put_mk, ob_some, ob_none, isTy, op2, dIs, leave, bfn, seqOf_lst, seqOf_tup, srcOf_lst, srcOf_tup, setTg1, setTg2, setTg3, and_self, and_true, true_and, newPut, isOwn, List.map_cons, List.map_nil, List.length_cons, List.length_nil, List.cons_append, List.nil_append, List.getD_cons_zero, List.getD_cons_succ, List.set_cons_zero, List.set_cons_succ, List.replicate_succ, List.replicate_zero, Nat.reduceSub, Nat.reduceAdd, Option.map_some, Option.map_none, Option.some_or, beq_self_eq_true, Bool.true_eq_false, Bool.false_eq_true, Bool.not_true, Bool.not_false, Bool.not_eq_true', if_true, if_false, h, boolL_mapb]
  rw [List.all_map]; rfl
theorem tupL {c : Call} {cc : E} {ρ ρ1 : Env} {xs : List D} (h : ev c cc ρ = some (.v (.lst xs), ρ1)) : ev c (.bi .tuple (.cons cc .nil)) ρ = some (.v (.tup xs), ρ1) := by
  simp (config := { implicitDefEqProofs := false }) only [entry, exs, exS, ev, evs, evO, evIfs, evIt, evT, tstR_some', tru, at_v, at_p, val_v, atL, valL, get_mk, put_mk, ob_some, ob_none, isTy, op2, dIs, leave, bfn, seqOf_lst, seqOf_tup, srcOf_lst, srcOf_tup, setTg1, setTg2, setTg3, and_self, and_true, true_and, newPut, isOwn, List.map_cons, List.map_nil, List.length_cons, List.length_nil, List.cons_append, List.nil_append, List.getD_cons_zero, List.getD_cons_succ, List.set_cons_zero, List.set_cons_succ, List.replicate_succ, List.replicate_zero, Nat.reduceSub, Nat.reduceAdd, Option.map_some, Option.map_none, Option.some_or, beq_self_eq_true, Bool.true_eq_false, Bool.false_eq_true, Bool.not_true, Bool.not_false, Bool.not_eq_true', if_true, if_false, h]
theorem lenL {c : Call} {cc : E} {ρ ρ1 : Env} {xs : List D} (h : ev c cc ρ = some (.v (.lst xs), ρ1)) : ev c (.bi .len (.cons cc .nil)) ρ = some (.v (nD xs.length), ρ1) := by
  simp (config := { implicitDefEqProofs := false }) only [entry, exs, exS, ev, evs, evO, evIfs, evIt, evT, tstR_some', tru, at_v, at_p, val_v, atL, valL, get_mk, put_mk, ob_some, ob_none, isTy, op2, dIs, leave, bfn, seqOf_lst, seqOf_tup, srcOf_lst, srcOf_tup, setTg1, setTg2, setTg3, and_self, and_true, true_and, newPut, isOwn, List.map_cons, List.map_nil, List.length_cons, List.length_nil, List.cons_append, List.nil_append, List.getD_cons_zero, List.getD_cons_succ, List.set_cons_zero, List.set_cons_succ, List.replicate_succ, List.replicate_zero, Nat.reduceSub, Nat.reduceAdd, Option.map_some, Option.map_none, Option.some_or, beq_self_eq_true, Bool.true_eq_false, Bool.false_eq_true, Bool.not_true, Bool.not_false, Bool.not_eq_true', if_true, if_false, h]
theorem lenT {c : Call} {cc : E} {ρ ρ1 : Env} {xs : List D} (h : ev c cc ρ = some (.v (.tup xs), ρ1)) : ev c (.bi .len (.cons cc .nil)) ρ = some (.v (nD xs.length), ρ1) := by
  simp (config := { implicitDefEqProofs := false }) only [entry, exs, exS, ev, evs, evO, evIfs, evIt, evT, tstR_some', tru, at_v, at_p, val_v, atL, valL, get_mk, put_mk, ob_some, ob_none, isTy, op2, dIs, leave, bfn, seqOf_lst, seqOf_tup, srcOf_lst, srcOf_tup, setTg1, setTg2, setTg3, and_self, and_true, true_and, newPut, isOwn, List.map_cons, List.map_nil, List.length_cons, List.length_nil, List.cons_append, List.nil_append, List.getD_cons_zero, List.getD_cons_succ, List.set_cons_zero, List.set_cons_succ, List.replicate_succ, List.replicate_zero, Nat.reduceSub, Nat.reduceAdd, Option.map_some, Option.map_none, Option.some_or, beq_self_eq_true, Bool.true_eq_false, Bool.false_eq_true, Bool.not_true, Bool.not_false, Bool.not_eq_true', if_true, if_false, h]
theorem of_lst {c : Call} {e : E} {xs : List D} {ρ ρ1 : Env} (h : ev c e ρ = some (.v (.lst xs), ρ1)) : evIt c (.of e) ρ = some (.vals xs, ρ1) := by
  simp (config := { implicitDefEqProofs := false }) only [entry, exs, exS, ev, evs, evO, evIfs, evIt, evT, tstR_some', tru, at_v, at_p, val_v, atL, valL, get_mk, put_mk, ob_some, ob_none, isTy, op2, dIs, leave, bfn, seqOf_lst, seqOf_tup, srcOf_lst, srcOf_tup, setTg1, setTg2, setTg3, and_self, and_true, true_and, newPut, isOwn, List.map_cons, List.map_nil, List.length_cons, List.length_nil, List.cons_append, List.nil_append, List.getD_cons_zero, List.getD_cons_succ, List.set_cons_zero, List.set_cons_succ, List.replicate_succ, List.replicate_zero, Nat.reduceSub, Nat.reduceAdd, Option.map_some, Option.map_none, Option.some_or, beq_self_eq_true, Bool.true_eq_false, Bool.false_eq_true, Bool.not_true, Bool.not_false, Bool.not_eq_true', if_true, if_false, h]
theorem of_tup {c : Call} {e : E} {xs : List D} {ρ ρ1 : Env} (h : ev c e ρ = some (.v (.tup xs), ρ1)) : evIt c (.of e) ρ = some (.vals xs, ρ1) := by
  simp (config := { implicitDefEqProofs := false }) only [entry, exs, exS, ev, evs, evO, evIfs, evIt, evT, tstR_some', tru, at_v, at_p, val_v, atL, valL, get_mk, put_mk, ob_some, ob_none, isTy, op2, dIs, leave, bfn, seqOf_lst, seqOf_tup, srcOf_lst, srcOf_tup, setTg1, setTg2, setTg3, and_self, and_true, true_and, newPut, isOwn, List.map_cons, List.map_nil, List.length_cons, List.length_nil, List.cons_append, List.nil_append, List.getD_cons_zero, List.getD_cons_succ, List.set_cons_zero, List.set_cons_succ, List.replicate_succ, List.replicate_zero, Nat.reduceSub, Nat.reduceAdd, Option.map_some, Option.map_none, Option.some_or, beq_self_eq_true, Bool.true_eq_false, Bool.false_eq_true, Bool.not_true, Bool.not_false, Bool.not_eq_true', if_true, if_false, h]
theorem op_ok {c : Call} {o : Op2} {a e : E} {x y z : D} {ρ ρ1 ρ2 : Env} (h1 : ev c a ρ = some (.v x, ρ1)) (h2 : ev c e ρ1 = some (.v y, ρ2)) (h : op2 o x y = some z) : ev c (.op o a e) ρ = some (.v z, ρ2) := by
  simp only [ev, h1, h2, h, ob_some, at_v]
theorem ix_ok {c : Call} {a e : E} {x y z : D} {ρ ρ1 ρ2 : Env} (h1 : ev c a ρ = some (.v x, ρ1)) (h2 : ev c e ρ1 = some (.v y, ρ2)) (h : dIx x y = some z) : ev c (.ix a e) ρ = some (.v z, ρ2) := by
  simp only [ev, h1, h2, h, ob_some, at_v]
/-! ### numbers, tuples of numbers -/
abbrev rN (r : List Nat) : D := .tup (r.map nD)
theorem add_lst {xs ys : List D} (h : xs.length + ys.length ≤ 1000000) : dAdd (.lst xs) (.lst ys) = some (.lst (xs ++ ys)) := by
  have := line_big
  exact if_pos (by omega)
theorem add_tup {xs ys : List D} (h : xs.length + ys.length ≤ 1000000) : dAdd (.tup xs) (.tup ys) = some (.tup (xs ++ ys)) := by
  have := line_big
  exact if_pos (by omega)
theorem add_rN {r s : List Nat} (h : r.length + s.length ≤ 1000000) : dAdd (rN r) (rN s) = some (rN (r ++ s)) := by
  rw [add_tup (by rw [List.length_map, List.length_map]; exact h), ← List.map_append]
theorem addN (a b : Nat) : dAdd (nD a) (nD b) = some (nD (a + b)) := by show some (D.int _) = some (D.int _); congr 2
theorem len_rN (r : List Nat) : ((((r.map nD).length : Nat) : Int)) = (r.length : Int) := by rw [List.length_map]
theorem lt_nat (a b : Nat) : decide ((a : Int) < (b : Int)) = decide (a < b) := by
  by_cases q : a < b
  · rw [decide_eq_true q, decide_eq_true (by omega)]
  · rw [decide_eq_false q, decide_eq_false (by omega)]
theorem le_nat (a b : Nat) : decide ((a : Int) ≤ (b : Int)) = decide (a ≤ b) := by
  by_cases q : a ≤ b
  · rw [decide_eq_true q, decide_eq_true (by omega)]
  · rw [decide_eq_false q, decide_eq_false (by omega)]
theorem eq_nats (a b : Nat) : dEq (nD a) (nD b) = some (a == b) := by
  rw [dEq_int]
  congr 1
  rw [Bool.eq_iff_iff]; simp only [beq_iff_eq]; omega
theorem simL_rN {r : List Nat} (h : r.length ≤ 1000000) : (rN r).sim = true := by
  show (decide ((r.map nD).length ≤ 1000000) && D.simL (r.map nD)) = true
  rw [simL_map (fun _ _ => rfl), Bool.and_true, decide_eq_true_eq, List.length_map]
  exact h
theorem dep_rN (r : List Nat) : (rN r).dep ≤ 1 := by
  have : D.depL (r.map nD) ≤ 0 := depL_map fun _ _ => Nat.le_refl _
  show D.depL (r.map nD) + 1 ≤ 1
  omega
theorem eq_nil (r : List Nat) : dEq (rN r) (.tup []) = some r.isEmpty := by
  show (if (rN r).cmpb && (D.tup []).cmpb then some (D.eqvL (r.map nD) []) else none) = _
  rw [if_pos (by rw [cmpb_tup (n := 0) (plL_map fun _ _ => rfl) (depL_map fun _ _ => Nat.le_refl _) (by decide)]; rfl)]
  cases r <;> rfl
theorem in_rN (r : List Nat) (s : Nat) : dIn (nD s) (rN r) = some (r.contains s) := by
  show (if (nD s).cmpb && (D.lst (r.map nD)).cmpb then some ((r.map nD).any fun y => y.eqv (nD s)) else none) = _
  rw [if_pos (by rw [cmpb_nats]; rfl), List.any_map]
  congr 1
  rw [Bool.eq_iff_iff]
  simp only [List.any_eq_true, Function.comp_apply, eqv_nat, beq_iff_eq, List.contains_iff_mem]
  constructor
  · rintro ⟨x, hx, rfl⟩; exact hx
  · exact fun h => ⟨s, h, rfl⟩
theorem rng_ok {c : Call} {e : E} {ρ ρ1 : Env} {n : Nat} (h : ev c e ρ = some (.v (nD n), ρ1)) (hn : n ≤ 1000000) : evIt c (.rng1 e) ρ = some (.vals ((List.range n).map nD), ρ1) := by
  have h1 := small_nat hn
  have h2 := rngL_nat n
  simp (config := { implicitDefEqProofs := false }) only [entry, exs, exS, ev, evs, evO, evIfs, evIt, evT, tstR_some', tru, at_v, at_p, val_v, atL, valL, get_mk, put_mk, ob_some, ob_none, isTy, op2, dIs, leave, bfn, seqOf_lst, seqOf_tup, srcOf_lst, srcOf_tup, setTg1, setTg2, setTg3, and_self, and_true, true_and, newPut, isOwn, List.map_cons, List.map_nil, List.length_cons, List.length_nil, List.cons_append, List.nil_append, List.getD_cons_zero, List.getD_cons_succ, List.set_cons_zero, List.set_cons_succ, List.replicate_succ, List.replicate_zero, Nat.reduceSub, Nat.reduceAdd, Option.map_some, Option.map_none, Option.some_or, beq_self_eq_true, Bool.true_eq_false, Bool.false_eq_true, Bool.not_true, Bool.not_false, Bool.not_eq_true', if_true, if_false, h, h1, h2]
/-! ### judges of tuples of numbers -/
def ascN (r : List Nat) : Bool := (List.range (r.length - 1)).all fun k => decide (r.getD k 0 < r.getD (k + 1) 0)
theorem all_num {c : Call} {f i : Nat} {ve lE hE : E} {ρ : Env} {xs : List D} {lo hi : Int} (hv : ev c ve ρ = some (.v (.tup xs), ρ)) (hs : D.simL xs = true) (ho : isOwn (ρ.get i) = false) (hi' : i < ρ.sl.length)
    (hl : ∀ x, ev c lE (ρ.put i (.val x)) = some (.v (.int lo), ρ.put i (.val x))) (hh : ∀ x, ev c hE (ρ.put i (.val x)) = some (.v (.int hi), ρ.put i (.val x)))
    (hc : ∀ x b, x.sim = true → c f [x, .int lo, .int hi] b = some (.bl (numB lo hi x), b)) :
    ev c (.bi .all (.cons (.comp [i] (.of ve) .nil (.call f (.cons (.var i) (.cons lE (.cons hE .nil))))) .nil)) ρ = some (.v (.bl (xs.all (numB lo hi))), ρ) := by
  refine all_ok (f := fun x => numB lo hi x) (comp_of (l := xs) (g := fun x => x) (by
    rw [map_same]
    simp (config := { implicitDefEqProofs := false }) only [entry, exs, exS, ev, evs, evO, evIfs, evIt, evT, tstR_some', tru, at_v, at_p, val_v, atL, valL, get_mk, put_mk, ob_some, ob_none, isTy, op2, dIs, leave, bfn, seqOf_lst, seqOf_tup, srcOf_lst, srcOf_tup, setTg1, setTg2, setTg3, and_self, and_true, true_and, newPut, isOwn, List.map_cons, List.map_nil, List.length_cons, List.length_nil, List.cons_append, List.nil_append, List.getD_cons_zero, List.getD_cons_succ, List.set_cons_zero, List.set_cons_succ, List.replicate_succ, List.replicate_zero, Nat.reduceSub, Nat.reduceAdd, Option.map_some, Option.map_none, Option.some_or, beq_self_eq_true, Bool.true_eq_false, Bool.false_eq_true, Bool.not_true, Bool.not_false, Bool.not_eq_true', if_true, if_false, hv]) ho fun x hx => ?_)
  have e := hc x ρ.bx (simL_mem hs hx)
  have e2 := get_put_eq (ρ := ρ) (s := .val x) hi'
  have e3 : (ρ.put i (.val x)).bx = ρ.bx := rfl
  simp (config := { implicitDefEqProofs := false }) only [entry, exs, exS, ev, evs, evO, evIfs, evIt, evT, tstR_some', tru, at_v, at_p, val_v, atL, valL, get_mk, put_mk, ob_some, ob_none, isTy, op2, dIs, leave, bfn, seqOf_lst, seqOf_tup, srcOf_lst, srcOf_tup, setTg1, setTg2, setTg3, and_self, and_true, true_and, newPut, isOwn, List.map_cons, List.map_nil, List.length_cons, List.length_nil, List.cons_append, List.nil_append, List.getD_cons_zero, List.getD_cons_succ, List.set_cons_zero, List.set_cons_succ, List.replicate_succ, List.replicate_zero, Nat.reduceSub, Nat.reduceAdd, Option.map_some, Option.map_none, Option.some_or, beq_self_eq_true, Bool.true_eq_false, Bool.false_eq_true, Bool.not_true, Bool.not_false, Bool.not_eq_true', if_true, if_false, e2, hl x, hh x, valL, e3, e]
  rfl
/-- the rows of a tuple that ascend -/
theorem all_asc {c : Call} {i : Nat} {ve : E} {ρ : Env} {r : List Nat} (hv : ev c ve ρ = some (.v (rN r), ρ)) (hv2 : ∀ x, ev c ve (ρ.put i (.val x)) = some (.v (rN r), ρ.put i (.val x))) (ho : isOwn (ρ.get i) = false) (hi' : i < ρ.sl.length) (h2 : r.length ≤ 1000000) :
    ev c (.bi .all (.cons (.comp [i] (.rng1 (.op .sub (.bi .len (.cons ve .nil)) (.kint 1))) .nil (.op .lt (.ix ve (.var i)) (.ix ve (.op .add (.var i) (.kint 1))))) .nil)) ρ = some (.v (.bl (ascN r)), ρ) := by
  refine all_ok (f := fun k => decide (r.getD k 0 < r.getD (k + 1) 0)) (comp_of (l := List.range (r.length - 1)) (g := nD) (by
    have hl : ((((r.map nD).length : Nat) : Int)) = (r.length : Int) := by rw [List.length_map]
    cases r with
    | nil =>
      have e2 : (small62 0 (-1) && decide (((-1 : Int) - 0).toNat ≤ line)) = true := by rfl
      have e3 : rngL 0 (-1) = [] := rfl
      have e4 : (0 : Int) - 1 = -1 := rfl
      have e5 : ((0 : Nat) : Int) = 0 := rfl
      simp (config := { implicitDefEqProofs := false }) only [entry, exs, exS, ev, evs, evO, evIfs, evIt, evT, tstR_some', tru, at_v, at_p, val_v, atL, valL, get_mk, put_mk, ob_some, ob_none, isTy, op2, dIs, leave, bfn, seqOf_lst, seqOf_tup, srcOf_lst, srcOf_tup, setTg1, setTg2, setTg3, and_self, and_true, true_and, newPut, isOwn, List.map_cons, List.map_nil, List.length_cons, List.length_nil, List.cons_append, List.nil_append, List.getD_cons_zero, List.getD_cons_succ, List.set_cons_zero, List.set_cons_succ, List.replicate_succ, List.replicate_zero, Nat.reduceSub, Nat.reduceAdd, Option.map_some, Option.map_none, Option.some_or, beq_self_eq_true, Bool.true_eq_false, Bool.false_eq_true, Bool.not_true, Bool.not_false, Bool.not_eq_true', if_true, if_false, hv, dSub, e5, e4, e2, e3]
      rfl
    | cons x r =>
      have e1 : ((x :: r).length : Int) - 1 = (((x :: r).length - 1 : Nat) : Int) := by simp
      have e2 := small_nat (show (x :: r).length - 1 ≤ 1000000 by omega)
      generalize x :: r = r at *
      simp (config := { implicitDefEqProofs := false }) only [entry, exs, exS, ev, evs, evO, evIfs, evIt, evT, tstR_some', tru, at_v, at_p, val_v, atL, valL, get_mk, put_mk, ob_some, ob_none, isTy, op2, dIs, leave, bfn, seqOf_lst, seqOf_tup, srcOf_lst, srcOf_tup, setTg1, setTg2, setTg3, and_self, and_true, true_and, newPut, isOwn, List.map_cons, List.map_nil, List.length_cons, List.length_nil, List.cons_append, List.nil_append, List.getD_cons_zero, List.getD_cons_succ, List.set_cons_zero, List.set_cons_succ, List.replicate_succ, List.replicate_zero, Nat.reduceSub, Nat.reduceAdd, Option.map_some, Option.map_none, Option.some_or, beq_self_eq_true, Bool.true_eq_false, Bool.false_eq_true, Bool.not_true, Bool.not_false, Bool.not_eq_true', if_true, if_false, hv, hl, dSub, e1, e2, rngL_nat]) ho fun k hk => ?_)
  have hk := List.mem_range.mp hk
  have g1 := get_put_eq (ρ := ρ) (s := .val (nD k)) hi'
  have g2 := hv2 (nD k)
  have e0 : (k : Int) + 1 = ((k + 1 : Nat) : Int) := by omega
  have a1 : atI (r.map nD) (k : Int) = some (nD r[k]) := atI_mapf (by omega)
  have a2 : atI (r.map nD) ((k + 1 : Nat) : Int) = some (nD r[k + 1]) := atI_mapf (by omega)
  have d1 : r.getD k 0 = r[k] := by rw [List.getD_eq_getElem?_getD, List.getElem?_eq_getElem]; rfl
  have d2 : r.getD (k + 1) 0 = r[k + 1] := by rw [List.getD_eq_getElem?_getD, List.getElem?_eq_getElem]; rfl
  have e6 := lt_nat r[k] r[k + 1]
  rw [d1, d2]
  simp (config := { implicitDefEqProofs := false }) only [entry, exs, exS, ev, evs, evO, evIfs, evIt, evT, tstR_some', tru, at_v, at_p, val_v, atL, valL, get_mk, put_mk, ob_some, ob_none, isTy, op2, dIs, leave, bfn, seqOf_lst, seqOf_tup, srcOf_lst, srcOf_tup, setTg1, setTg2, setTg3, and_self, and_true, true_and, newPut, isOwn, List.map_cons, List.map_nil, List.length_cons, List.length_nil, List.cons_append, List.nil_append, List.getD_cons_zero, List.getD_cons_succ, List.set_cons_zero, List.set_cons_succ, List.replicate_succ, List.replicate_zero, Nat.reduceSub, Nat.reduceAdd, Option.map_some, Option.map_none, Option.some_or, beq_self_eq_true, Bool.true_eq_false, Bool.false_eq_true, Bool.not_true, Bool.not_false, Bool.not_eq_true', if_true, if_false, g1, g2, dIx, a1, dAdd, e0, a2, dLt, e6]
/-- the numbers below n that a value tells -/
def seatsOf (n : Nat) : D → Option (List Nat)
  | .tup xs => if xs.all (numB 0 ((n : Int) - 1)) then some (xs.map fun d => (toI d).toNat) else none
  | _ => none
theorem seats_some {n : Nat} {xs : List D} (h : xs.all (numB 0 ((n : Int) - 1)) = true) : xs = (xs.map fun d => (toI d).toNat).map nD ∧ ∀ s ∈ xs.map (fun d => (toI d).toNat), s < n := by
  induction xs with
  | nil => exact ⟨rfl, fun s h => by cases h⟩
  | cons x xs ih =>
    simp only [List.all_cons, Bool.and_eq_true] at h
    obtain ⟨i1, i2⟩ := ih h.2
    cases x with
    | int z =>
      have h1 : (decide (0 ≤ z) && decide (z ≤ (n : Int) - 1)) = true := h.1
      simp only [Bool.and_eq_true, decide_eq_true_eq] at h1
      refine ⟨?_, fun s hs => ?_⟩
      · rw [List.map_cons, List.map_cons, ← i1]
        congr 1
        show D.int z = D.int ((z.toNat : Nat) : Int)
        congr 1
        omega
      · rcases List.mem_cons.mp hs with rfl | hs
        · show z.toNat < n
          omega
        · exact i2 s hs
    | _ => cases h.1
theorem seats_rN {n : Nat} {r : List Nat} (h : ∀ s ∈ r, s < n) : seatsOf n (rN r) = some r := by
  have h1 : (r.map nD).all (numB 0 ((n : Int) - 1)) = true := by
    rw [List.all_map, List.all_eq_true]
    intro s hs
    have := h s hs
    show (decide ((0 : Int) ≤ (s : Int)) && decide ((s : Int) ≤ (n : Int) - 1)) = true
    rw [decide_eq_true (by omega), decide_eq_true (by omega)]; rfl
  show (if (r.map nD).all (numB 0 ((n : Int) - 1)) then some ((r.map nD).map fun d => (toI d).toNat) else none) = _
  rw [if_pos h1, List.map_map]
  congr 1
  have : (fun d => (toI d).toNat) ∘ nD = fun s => s := by funext s; rfl
  rw [this, List.map_id']
theorem seats_tup {n : Nat} {v : D} {r : List Nat} (q : seatsOf n v = some r) : v = rN r ∧ ∀ s ∈ r, s < n := by
  cases v with
  | tup xs =>
    have q' : (if xs.all (numB 0 ((n : Int) - 1)) then some (xs.map fun d => (toI d).toNat) else none) = some r := q
    split at q'
    · rename_i hall
      cases q'
      obtain ⟨e1, e2⟩ := seats_some hall
      exact ⟨congrArg D.tup e1, e2⟩
    · cases q'
  | _ => cases q
def optB (o : Option (List Nat)) (f : List Nat → Bool) : Bool := match o with | some r => f r | none => false
/-- no tuple, or not all of it are numbers below n -/
theorem test_num {c : Call} {f i j : Nat} {n : Nat} {v : D} {hE : E} {ρ : Env} (hg : ρ.get j = .val v) (hs : v.sim = true) (hij : i ≠ j) (ho : isOwn (ρ.get i) = false) (hi' : i < ρ.sl.length)
    (hh : ∀ x, ev c hE (ρ.put i (.val x)) = some (.v (.int ((n : Int) - 1)), ρ.put i (.val x)))
    (hc : ∀ x b, x.sim = true → c f [x, .int 0, .int ((n : Int) - 1)] b = some (.bl (numB 0 ((n : Int) - 1) x), b)) :
    ev c (.or (.not (.isi .tuple (.var j))) (.not (.bi .all (.cons (.comp [i] (.of (.var j)) .nil (.call f (.cons (.var i) (.cons (.kint 0) (.cons hE .nil))))) .nil)))) ρ = some (.v (.bl (seatsOf n v).isNone), ρ) := by
  cases v with
  | tup xs =>
    simp only [D.sim, Bool.and_eq_true] at hs
    have h := all_num (c := c) (f := f) (i := i) (ve := .var j) (lE := .kint 0) (hE := hE) (ρ := ρ) (xs := xs) (lo := 0) (hi := (n : Int) - 1) (by simp (config := { implicitDefEqProofs := false }) only [entry, exs, exS, ev, evs, evO, evIfs, evIt, evT, tstR_some', tru, at_v, at_p, val_v, atL, valL, get_mk, put_mk, ob_some, ob_none, isTy, op2, dIs, leave, bfn, seqOf_lst, seqOf_tup, srcOf_lst, srcOf_tup, setTg1, setTg2, setTg3, and_self, and_true, true_and, newPut, isOwn, List.map_cons, List.map_nil, List.length_cons, List.length_nil, List.cons_append, List.nil_append, List.getD_cons_zero, List.getD_cons_succ, List.set_cons_zero, List.set_cons_succ, List.replicate_succ, List.replicate_zero, Nat.reduceSub, Nat.reduceAdd, Option.map_some, Option.map_none, Option.some_or, beq_self_eq_true, Bool.true_eq_false, Bool.false_eq_true, Bool.not_true, Bool.not_false, Bool.not_eq_true', if_true, if_false, hg]) hs.2 ho hi' (fun x => by simp (config := { implicitDefEqProofs := false }) only [entry, exs, exS, ev, evs, evO, evIfs, evIt, evT, tstR_some', tru, at_v, at_p, val_v, atL, valL, get_mk, put_mk, ob_some, ob_none, isTy, op2, dIs, leave, bfn, seqOf_lst, seqOf_tup, srcOf_lst, srcOf_tup, setTg1, setTg2, setTg3, and_self, and_true, true_and, newPut, isOwn, List.map_cons, List.map_nil, List.length_cons, List.length_nil, List.cons_append, List.nil_append, List.getD_cons_zero, List.getD_cons_succ, List.set_cons_zero, List.set_cons_succ, List.replicate_succ, List.replicate_zero, Nat.reduceSub, Nat.reduceAdd, Option.map_some, Option.map_none, Option.some_or, beq_self_eq_true, Bool.true_eq_false, Bool.false_eq_true, Bool.not_true, Bool.not_false, Bool.not_eq_true', if_true, if_false]) hh hc
    have h1 : ev c (.not (.isi .tuple (.var j))) ρ = some (.v (.bl false), ρ) := by
      simp (config := { implicitDefEqProofs := false }) only [entry, exs, exS, ev, evs, evO, evIfs, evIt, evT, tstR_some', tru, at_v, at_p, val_v, atL, valL, get_mk, put_mk, ob_some, ob_none, isTy, op2, dIs, leave, bfn, seqOf_lst, seqOf_tup, srcOf_lst, srcOf_tup, setTg1, setTg2, setTg3, and_self, and_true, true_and, newPut, isOwn, List.map_cons, List.map_nil, List.length_cons, List.length_nil, List.cons_append, List.nil_append, List.getD_cons_zero, List.getD_cons_succ, List.set_cons_zero, List.set_cons_succ, List.replicate_succ, List.replicate_zero, Nat.reduceSub, Nat.reduceAdd, Option.map_some, Option.map_none, Option.some_or, beq_self_eq_true, Bool.true_eq_false, Bool.false_eq_true, Bool.not_true, Bool.not_false, Bool.not_eq_true', if_true, if_false, hg]
    have := or_ok h1 fun _ => not_ok h
    rw [this]
    congr 4
    show (false || !xs.all _) = (if xs.all (numB 0 ((n : Int) - 1)) then some (xs.map fun d => (toI d).toNat) else none).isNone
    cases xs.all (numB 0 ((n : Int) - 1)) <;> rfl
  | box => cases hs
  | _ =>
    generalize E.bi .all _ = aa
    simp (config := { implicitDefEqProofs := false }) only [entry, exs, exS, ev, evs, evO, evIfs, evIt, evT, tstR_some', tru, at_v, at_p, val_v, atL, valL, get_mk, put_mk, ob_some, ob_none, isTy, op2, dIs, leave, bfn, seqOf_lst, seqOf_tup, srcOf_lst, srcOf_tup, setTg1, setTg2, setTg3, and_self, and_true, true_and, newPut, isOwn, List.map_cons, List.map_nil, List.length_cons, List.length_nil, List.cons_append, List.nil_append, List.getD_cons_zero, List.getD_cons_succ, List.set_cons_zero, List.set_cons_succ, List.replicate_succ, List.replicate_zero, Nat.reduceSub, Nat.reduceAdd, Option.map_some, Option.map_none, Option.some_or, beq_self_eq_true, Bool.true_eq_false, Bool.false_eq_true, Bool.not_true, Bool.not_false, Bool.not_eq_true', if_true, if_false, hg, seatsOf]
    rfl
/-! ### numbers put in order -/
theorem insN_map (x : Nat) : ∀ l : List Nat, insG D.ltb (nD x) (l.map nD) = (insG (fun a b => decide (a < b)) x l).map nD
  | [] => rfl
  | y :: ys => by
    have e : D.ltb (nD y) (nD x) = decide (y < x) := lt_nat y x
    simp only [List.map_cons, insG, e]
    by_cases q : y < x
    · rw [if_pos (decide_eq_true q), if_pos (decide_eq_true q), List.map_cons, insN_map x ys]
    · have q' : ¬ (decide (y < x) = true) := by simpa using q
      rw [if_neg q', if_neg q', List.map_cons, List.map_cons]
/-- what holds for all rows of data that are sorted -/
theorem sorted_map {α : Type} (f : α → D) {l : List α} (h : allSame (l.map f) = true) : dSorted (l.map f) = some ((sortG (fun a b => D.ltb (f a) (f b)) l).map f) := by
  unfold dSorted
  rw [if_pos h, ← sortG_map f D.ltb l fun _ _ _ _ => rfl]
theorem allSame_of {α : Type} {f : α → D} {l : List α} (h1 : ∀ x ∈ l, (f x).pl = true ∧ (f x).dep ≤ 16) (h2 : ∀ x ∈ l, ∀ y ∈ l, (f x).same (f y) = true) : allSame (l.map f) = true := by
  unfold allSame
  rw [List.all_map, List.all_eq_true]
  intro x hx
  obtain ⟨p, d⟩ := h1 x hx
  show ((((f x).pl && decide ((f x).dep ≤ 64)) && decide ((f x).dep ≤ 16)) && (l.map f).all fun y => (f x).same y) = true
  rw [p, decide_eq_true (by omega), decide_eq_true d, List.all_map]
  simp only [Bool.true_and, List.all_eq_true]
  exact fun y hy => h2 x hx y hy
theorem same_ints : ∀ a b : List Nat, D.sameL (a.map nD) (b.map nD) = true
  | [], _ => rfl
  | _ :: _, [] => rfl
  | x :: xs, y :: ys => by
    show (true && D.sameL (xs.map nD) (ys.map nD)) = true
    rw [same_ints xs ys]; rfl
theorem pl_rN (r : List Nat) : (rN r).pl = true := plL_map (f := nD) fun _ _ => rfl
/-! ### a comprehension whose test draws -/
theorem comp_drawIf {α : Type} {c : Call} {i : Nat} {it : Wk} {t elt : E} {sl : List Slot} {b : Bx} {l : List α} {g f : α → D} (hi : evIt c it ⟨sl, b⟩ = some (.vals (l.map g), ⟨sl, b⟩)) (ho : isOwn (Env.get ⟨sl, b⟩ i) = false) (hb : b.ok)
    (h : ∀ x ∈ l, ∀ b : Bx, b.ok → ∃ (q : Bool) (b' : Bx), ev c t ⟨sl.set i (.val (g x)), b⟩ = some (.v (.bl q), ⟨sl.set i (.val (g x)), b'⟩) ∧ b'.ok)
    (h2 : ∀ x ∈ l, ∀ b : Bx, ev c elt ⟨sl.set i (.val (g x)), b⟩ = some (.v (f x), ⟨sl.set i (.val (g x)), b⟩)) :
    ∃ (l' : List α) (b' : Bx), ev c (.comp [i] it (.cons t .nil) elt) ⟨sl, b⟩ = some (.v (.lst (l'.map f)), ⟨sl, b'⟩) ∧ l'.Sublist l ∧ b'.ok := by
  simp only [ev, hi, Option.bind_eq_bind, Option.bind_some, List.any_cons, List.any_nil, ho, Bool.or_false, compS]
  rw [if_neg (by decide)]
  generalize htn : (fun (x : D) (ρ : Env) => (setTg [i] x (ρ.wipe [i])).bind fun ρ => _) = turn
  have key : ∀ (l : List α), (∀ x ∈ l, ∀ b : Bx, b.ok → ∃ (q : Bool) (b' : Bx), ev c t ⟨sl.set i (.val (g x)), b⟩ = some (.v (.bl q), ⟨sl.set i (.val (g x)), b'⟩) ∧ b'.ok) →
      (∀ x ∈ l, ∀ b : Bx, ev c elt ⟨sl.set i (.val (g x)), b⟩ = some (.v (f x), ⟨sl.set i (.val (g x)), b⟩)) →
      ∀ (sl1 : List Slot) (b : Bx), sl1.set i .un = sl.set i .un → b.ok → ∃ (l' : List α) (sl2 : List Slot) (b' : Bx), compL turn (l.map g) ⟨sl1, b⟩ = some (l'.map f, ⟨sl2, b'⟩) ∧ sl2.set i .un = sl.set i .un ∧ l'.Sublist l ∧ b'.ok := by
    intro l
    induction l with
    | nil => intro _ _ sl1 b e hb; exact ⟨[], sl1, b, rfl, e, List.Sublist.refl _, hb⟩
    | cons x xs ih =>
      intro h h2 sl1 b e hb
      obtain ⟨q, b1, q1, q3⟩ := h x List.mem_cons_self b hb
      have e1 : turn (g x) ⟨sl1, b⟩ = some (if q then [f x] else [], ⟨sl.set i (.val (g x)), b1⟩) := by
        subst htn
        have ew : (Env.wipe ⟨sl1, b⟩ [i]).put i (.val (g x)) = ⟨sl.set i (.val (g x)), b⟩ := by
          show (⟨(sl1.set i .un).set i (.val (g x)), b⟩ : Env) = _
          rw [e, List.set_set]
        show Option.bind (some ((Env.wipe ⟨sl1, b⟩ [i]).put i (.val (g x)))) _ = _
        rw [ew]
        simp only [Option.bind_some, evIfs, q1, tstR_some', at_v, ob_some, tru]
        cases q with
        | true => simp only [h2 x List.mem_cons_self b1, Option.bind_some, Hd.val]; rfl
        | false => rfl
      obtain ⟨l', sl2, b', r1, r2, r3, r5⟩ := ih (fun y hy => h y (List.mem_cons_of_mem _ hy)) (fun y hy => h2 y (List.mem_cons_of_mem _ hy)) (sl.set i (.val (g x))) b1 (by rw [List.set_set]) q3
      refine ⟨(if q then [x] else []) ++ l', sl2, b', ?_, r2, ?_, r5⟩
      · simp only [List.map_cons, compL, e1, Option.bind_eq_bind, Option.bind_some, r1]
        cases q <;> rfl
      · cases q
        · exact r3.cons x
        · exact r3.cons₂ x
  obtain ⟨l', sl2, b', r1, r2, r3, r5⟩ := key l h h2 (Env.wipe ⟨sl, b⟩ [i]).sl b (by show (sl.set i .un).set i .un = _; rw [List.set_set]) hb
  refine ⟨l', b', ?_, r3, r5⟩
  have r1' : compL turn (l.map g) (Env.wipe ⟨sl, b⟩ [i]) = some (l'.map f, ⟨sl2, b'⟩) := r1
  rw [r1']
  simp only [Option.bind_some]
  have : Env.rest ⟨sl, b⟩ ⟨sl2, b'⟩ [i] = ⟨sl, b'⟩ := by
    show (⟨sl2.set i ((⟨sl, b⟩ : Env).get i), b'⟩ : Env) = _
    congr 1
    have e3 := congrArg (fun z : List Slot => z.set i ((⟨sl, b⟩ : Env).get i)) r2
    simp only [List.set_set] at e3
    rw [e3]
    have := congrArg Env.sl (put_self (ρ := ⟨sl, b⟩) (i := i))
    exact this
  rw [this]
/-- a comprehension with two names -/
theorem compP_of {α : Type} {c : Call} {i j : Nat} {it : Wk} {elt : E} {ρ : Env} {l : List α} {g1 g2 f : α → D} (hij : i ≠ j) (hi : evIt c it ρ = some (.vals (l.map fun x => .tup [g1 x, g2 x]), ρ)) (ho : isOwn (ρ.get i) = false) (ho2 : isOwn (ρ.get j) = false)
    (h : ∀ x ∈ l, ev c elt ((ρ.put i (.val (g1 x))).put j (.val (g2 x))) = some (.v (f x), (ρ.put i (.val (g1 x))).put j (.val (g2 x)))) : ev c (.comp [i, j] it .nil elt) ρ = some (.v (.lst (l.map f)), ρ) := by
  simp only [ev, hi, Option.bind_eq_bind, Option.bind_some, List.any_cons, List.any_nil, ho, ho2, Bool.or_false, compS]
  rw [if_neg (by decide)]
  generalize ht : (fun (x : D) (ρ : Env) => (setTg [i, j] x (ρ.wipe [i, j])).bind fun ρ => _) = turn
  obtain ⟨ρ2, e2, e3⟩ := compL_step (turn := turn) (l := l) (g := fun x => .tup [g1 x, g2 x]) (f := f) (J := fun ρ1 => (ρ1.put j .un).put i .un = (ρ.put j .un).put i .un) (fun y hy ρ1 e => by
    subst ht
    have h2 := h y hy
    have ew : ((ρ1.wipe [i, j]).put i (.val (g1 y))).put j (.val (g2 y)) = (ρ.put i (.val (g1 y))).put j (.val (g2 y)) := by
      show ((((ρ1.put j .un).put i .un).put i (.val (g1 y))).put j (.val (g2 y))) = _
      rw [e, put_put, put_comm (fun q => hij q.symm), put_put]
    have ej : ((((ρ.put i (.val (g1 y))).put j (.val (g2 y))).put j .un).put i .un) = (ρ.put j .un).put i .un := by
      rw [put_put, put_comm hij, put_put]
    refine ⟨(ρ.put i (.val (g1 y))).put j (.val (g2 y)), ?_, ej⟩
    show Option.bind (some (((ρ1.wipe [i, j]).put i (.val (g1 y))).put j (.val (g2 y)))) _ = _
    rw [ew]
    simp only [Option.bind_some, evIfs, h2, Hd.val]) (ρ.wipe [i, j]) (by
      show (((ρ.put j .un).put i .un).put j .un).put i .un = _
      rw [put_comm (ρ := ρ.put j .un) hij, put_put, put_put])
  rw [e2]
  simp only [Option.bind_some]
  rw [rest2 hij e3]
/-! ### slices -/
theorem slc_map {α β : Type} (f : α → β) (l : List α) (lo hi : Option Int) : slc (l.map f) lo hi = (slc l lo hi).map f := by
  simp only [slc, List.length_map, List.map_take, List.map_drop]
theorem slc_len {α : Type} (l : List α) (lo hi : Option Int) : (slc l lo hi).length ≤ l.length := by
  simp only [slc, List.length_take, List.length_drop]
  omega
theorem slc_mem {α : Type} {l : List α} {lo hi : Option Int} {x : α} (h : x ∈ slc l lo hi) : x ∈ l :=
  List.mem_of_mem_drop (List.mem_of_mem_take h)
theorem sl_rN (r : List Nat) (lo hi : Option Int) : dSl (rN r) lo hi = some (rN (slc r lo hi)) := by
  show some (D.tup (slc (r.map nD) lo hi)) = _
  rw [slc_map]
theorem rev_rN (r : List Nat) : dRev (rN r) = some (rN r.reverse) := by
  show some (D.tup (r.map nD).reverse) = _
  rw [← List.map_reverse]
/-! ### _law_same, of any data -/
theorem beqL_range : ∀ xs ys : List D, xs.length = ys.length → D.beqL xs ys = (List.range xs.length).all fun k => D.beq (xs.getD k .non) (ys.getD k .non)
  | [], [], _ => rfl
  | x :: xs, y :: ys, h => by
    rw [List.length_cons, List.range_succ_eq_map, List.all_cons, List.all_map]
    show (D.beq x y && D.beqL xs ys) = _
    rw [beqL_range xs ys (by simpa using h)]
    rfl
  | [], _ :: _, h => by cases h
  | _ :: _, [], h => by cases h
theorem beqL_len : ∀ xs ys : List D, xs.length ≠ ys.length → D.beqL xs ys = false
  | [], [], h => absurd rfl h
  | x :: xs, y :: ys, h => by
    show (D.beq x y && D.beqL xs ys) = false
    rw [beqL_len xs ys (by simpa using h), Bool.and_false]
  | [], _ :: _, _ => rfl
  | _ :: _, [], _ => rfl
theorem same_seqs {c : Call} {f : Nat} {xs ys : List D} {mk : List D → D} {b : Bx} (hmk : mk = D.tup ∨ mk = D.lst) (hl : xs.length ≤ 1000000) (hc : ∀ x ∈ xs, ∀ y ∈ ys, c f [x, y] b = some (.bl (D.beq x y), b)) :
    ev c (.and (.op .eq (.bi .len (.cons (.var 0) .nil)) (.bi .len (.cons (.var 1) .nil))) (.bi .all (.cons (.comp [2] (.rng1 (.bi .len (.cons (.var 0) .nil))) .nil (.call f (.cons (.ix (.var 0) (.var 2)) (.cons (.ix (.var 1) (.var 2)) .nil)))) .nil))) ⟨[.val (mk xs), .val (mk ys), .un], b⟩ = some (.v (.bl (D.beqL xs ys)), ⟨[.val (mk xs), .val (mk ys), .un], b⟩) := by
  have h1 : ev c (.op .eq (.bi .len (.cons (.var 0) .nil)) (.bi .len (.cons (.var 1) .nil))) ⟨[.val (mk xs), .val (mk ys), .un], b⟩ = some (.v (.bl (xs.length == ys.length)), ⟨[.val (mk xs), .val (mk ys), .un], b⟩) := by
    have e : ((xs.length : Int) == (ys.length : Int)) = (xs.length == ys.length) := by
      rw [Bool.eq_iff_iff]; simp only [beq_iff_eq]; omega
    rcases hmk with rfl | rfl <;> simp (config := { implicitDefEqProofs := false }) only [entry, exs, exS, ev, evs, evO, evIfs, evIt, evT, tstR_some', tru, at_v, at_p, val_v, atL, valL, get_mk, put_mk, ob_some, ob_none, isTy, op2, dIs, leave, bfn, seqOf_lst, seqOf_tup, srcOf_lst, srcOf_tup, setTg1, setTg2, setTg3, and_self, and_true, true_and, newPut, isOwn, List.map_cons, List.map_nil, List.length_cons, List.length_nil, List.cons_append, List.nil_append, List.getD_cons_zero, List.getD_cons_succ, List.set_cons_zero, List.set_cons_succ, List.replicate_succ, List.replicate_zero, Nat.reduceSub, Nat.reduceAdd, Option.map_some, Option.map_none, Option.some_or, beq_self_eq_true, Bool.true_eq_false, Bool.false_eq_true, Bool.not_true, Bool.not_false, Bool.not_eq_true', if_true, if_false, dEq_int, e]
  by_cases q : xs.length = ys.length
  · have key := comp_of (c := c) (i := 2) (it := .rng1 (.bi .len (.cons (.var 0) .nil))) (elt := .call f (.cons (.ix (.var 0) (.var 2)) (.cons (.ix (.var 1) (.var 2)) .nil))) (ρ := ⟨[.val (mk xs), .val (mk ys), .un], b⟩) (l := List.range xs.length) (g := nD) (f := fun k => .bl (D.beq (xs.getD k .non) (ys.getD k .non))) (by
        have hs1 := small_nat hl
        have hs2 := rngL_nat xs.length
        rcases hmk with rfl | rfl <;> simp (config := { implicitDefEqProofs := false }) only [entry, exs, exS, ev, evs, evO, evIfs, evIt, evT, tstR_some', tru, at_v, at_p, val_v, atL, valL, get_mk, put_mk, ob_some, ob_none, isTy, op2, dIs, leave, bfn, seqOf_lst, seqOf_tup, srcOf_lst, srcOf_tup, setTg1, setTg2, setTg3, and_self, and_true, true_and, newPut, isOwn, List.map_cons, List.map_nil, List.length_cons, List.length_nil, List.cons_append, List.nil_append, List.getD_cons_zero, List.getD_cons_succ, List.set_cons_zero, List.set_cons_succ, List.replicate_succ, List.replicate_zero, Nat.reduceSub, Nat.reduceAdd, Option.map_some, Option.map_none, Option.some_or, beq_self_eq_true, Bool.true_eq_false, Bool.false_eq_true, Bool.not_true, Bool.not_false, Bool.not_eq_true', if_true, if_false, hs1, hs2]) rfl fun k hk => by
      have hk := List.mem_range.mp hk
      have hk2 : k < ys.length := by omega
      have e := hc xs[k] (List.getElem_mem hk) ys[k] (List.getElem_mem hk2)
      have d1 : xs.getD k .non = xs[k] := by rw [List.getD_eq_getElem?_getD, List.getElem?_eq_getElem hk]; rfl
      have d2 : ys.getD k .non = ys[k] := by rw [List.getD_eq_getElem?_getD, List.getElem?_eq_getElem hk2]; rfl
      have a1 := atI_nat hk
      have a2 := atI_nat hk2
      rw [d1, d2]
      rcases hmk with rfl | rfl <;> simp (config := { implicitDefEqProofs := false }) only [entry, exs, exS, ev, evs, evO, evIfs, evIt, evT, tstR_some', tru, at_v, at_p, val_v, atL, valL, get_mk, put_mk, ob_some, ob_none, isTy, op2, dIs, leave, bfn, seqOf_lst, seqOf_tup, srcOf_lst, srcOf_tup, setTg1, setTg2, setTg3, and_self, and_true, true_and, newPut, isOwn, List.map_cons, List.map_nil, List.length_cons, List.length_nil, List.cons_append, List.nil_append, List.getD_cons_zero, List.getD_cons_succ, List.set_cons_zero, List.set_cons_succ, List.replicate_succ, List.replicate_zero, Nat.reduceSub, Nat.reduceAdd, Option.map_some, Option.map_none, Option.some_or, beq_self_eq_true, Bool.true_eq_false, Bool.false_eq_true, Bool.not_true, Bool.not_false, Bool.not_eq_true', if_true, if_false, dIx, a1, a2, valL, e]
    have h2 := all_ok key
    rw [← beqL_range xs ys q] at h2
    rw [q, beq_self_eq_true] at h1
    have := and_ok h1 fun _ => h2
    rw [Bool.true_and] at this
    exact this
  · have : (xs.length == ys.length) = false := by rw [beq_eq_false_iff_ne]; exact q
    rw [this] at h1
    rw [beqL_len xs ys q]
    exact and_ok (q := false) h1 fun h => by cases h
section
variable {T : Tab} {prim : Prim} {i : Nat} {nm : PySem.Str} {st : Stmt}
theorem same_gen (h : T.fs[i]? = some ⟨nm, 2, ["a", "b", "k"], st, sameBody (i + 1)⟩) : ∀ (n : Nat) (x y : D) (b : Bx), x.dep < n → x.sim = true → y.sim = true → runF T prim n (i + 1) [x, y] b = some (.bl (D.beq x y), b)
  | n + 1, x, y, b, hd, hs, hs2 => by
    rw [go_step h rfl]
    cases x with
    | tup xs =>
      cases y with
      | tup ys =>
        simp only [D.sim, Bool.and_eq_true, decide_eq_true_eq] at hs hs2
        have key := same_seqs (c := runF T prim n) (f := i + 1) (xs := xs) (ys := ys) (mk := D.tup) (b := b) (.inl rfl) hs.1 fun x hx y hy => same_gen h n x y b (by have := depL_mem hx; simp only [D.dep] at hd; omega) (simL_mem hs.2 hx) (simL_mem hs2.2 hy)
        unfold sameBody
        generalize E.and (.op .eq _ _) _ = ee at key ⊢
        simp (config := { implicitDefEqProofs := false }) only [entry, exs, exS, ev, evs, evO, evIfs, evIt, evT, tstR_some', tru, at_v, at_p, val_v, atL, valL, get_mk, put_mk, ob_some, ob_none, isTy, op2, dIs, leave, bfn, seqOf_lst, seqOf_tup, srcOf_lst, srcOf_tup, setTg1, setTg2, setTg3, and_self, and_true, true_and, newPut, isOwn, List.map_cons, List.map_nil, List.length_cons, List.length_nil, List.cons_append, List.nil_append, List.getD_cons_zero, List.getD_cons_succ, List.set_cons_zero, List.set_cons_succ, List.replicate_succ, List.replicate_zero, Nat.reduceSub, Nat.reduceAdd, Option.map_some, Option.map_none, Option.some_or, beq_self_eq_true, Bool.true_eq_false, Bool.false_eq_true, Bool.not_true, Bool.not_false, Bool.not_eq_true', if_true, if_false, key]
        rfl
      | box => cases hs2
      | _ => unfold sameBody; simp (config := { implicitDefEqProofs := false }) only [entry, exs, exS, ev, evs, evO, evIfs, evIt, evT, tstR_some', tru, at_v, at_p, val_v, atL, valL, get_mk, put_mk, ob_some, ob_none, isTy, op2, dIs, leave, bfn, seqOf_lst, seqOf_tup, srcOf_lst, srcOf_tup, setTg1, setTg2, setTg3, and_self, and_true, true_and, newPut, isOwn, List.map_cons, List.map_nil, List.length_cons, List.length_nil, List.cons_append, List.nil_append, List.getD_cons_zero, List.getD_cons_succ, List.set_cons_zero, List.set_cons_succ, List.replicate_succ, List.replicate_zero, Nat.reduceSub, Nat.reduceAdd, Option.map_some, Option.map_none, Option.some_or, beq_self_eq_true, Bool.true_eq_false, Bool.false_eq_true, Bool.not_true, Bool.not_false, Bool.not_eq_true', if_true, if_false, D.beq]
    | lst xs =>
      cases y with
      | lst ys =>
        simp only [D.sim, Bool.and_eq_true, decide_eq_true_eq] at hs hs2
        have key := same_seqs (c := runF T prim n) (f := i + 1) (xs := xs) (ys := ys) (mk := D.lst) (b := b) (.inr rfl) hs.1 fun x hx y hy => same_gen h n x y b (by have := depL_mem hx; simp only [D.dep] at hd; omega) (simL_mem hs.2 hx) (simL_mem hs2.2 hy)
        unfold sameBody
        generalize E.and (.op .eq _ _) _ = ee at key ⊢
        simp (config := { implicitDefEqProofs := false }) only [entry, exs, exS, ev, evs, evO, evIfs, evIt, evT, tstR_some', tru, at_v, at_p, val_v, atL, valL, get_mk, put_mk, ob_some, ob_none, isTy, op2, dIs, leave, bfn, seqOf_lst, seqOf_tup, srcOf_lst, srcOf_tup, setTg1, setTg2, setTg3, and_self, and_true, true_and, newPut, isOwn, List.map_cons, List.map_nil, List.length_cons, List.length_nil, List.cons_append, List.nil_append, List.getD_cons_zero, List.getD_cons_succ, List.set_cons_zero, List.set_cons_succ, List.replicate_succ, List.replicate_zero, Nat.reduceSub, Nat.reduceAdd, Option.map_some, Option.map_none, Option.some_or, beq_self_eq_true, Bool.true_eq_false, Bool.false_eq_true, Bool.not_true, Bool.not_false, Bool.not_eq_true', if_true, if_false, key]
        rfl
      | box => cases hs2
      | _ => unfold sameBody; simp (config := { implicitDefEqProofs := false }) only [entry, exs, exS, ev, evs, evO, evIfs, evIt, evT, tstR_some', tru, at_v, at_p, val_v, atL, valL, get_mk, put_mk, ob_some, ob_none, isTy, op2, dIs, leave, bfn, seqOf_lst, seqOf_tup, srcOf_lst, srcOf_tup, setTg1, setTg2, setTg3, and_self, and_true, true_and, newPut, isOwn, List.map_cons, List.map_nil, List.length_cons, List.length_nil, List.cons_append, List.nil_append, List.getD_cons_zero, List.getD_cons_succ, List.set_cons_zero, List.set_cons_succ, List.replicate_succ, List.replicate_zero, Nat.reduceSub, Nat.reduceAdd, Option.map_some, Option.map_none, Option.some_or, beq_self_eq_true, Bool.true_eq_false, Bool.false_eq_true, Bool.not_true, Bool.not_false, Bool.not_eq_true', if_true, if_false, D.beq]
    | int a =>
      cases y with
      | int c => unfold sameBody; simp (config := { implicitDefEqProofs := false }) only [entry, exs, exS, ev, evs, evO, evIfs, evIt, evT, tstR_some', tru, at_v, at_p, val_v, atL, valL, get_mk, put_mk, ob_some, ob_none, isTy, op2, dIs, leave, bfn, seqOf_lst, seqOf_tup, srcOf_lst, srcOf_tup, setTg1, setTg2, setTg3, and_self, and_true, true_and, newPut, isOwn, List.map_cons, List.map_nil, List.length_cons, List.length_nil, List.cons_append, List.nil_append, List.getD_cons_zero, List.getD_cons_succ, List.set_cons_zero, List.set_cons_succ, List.replicate_succ, List.replicate_zero, Nat.reduceSub, Nat.reduceAdd, Option.map_some, Option.map_none, Option.some_or, beq_self_eq_true, Bool.true_eq_false, Bool.false_eq_true, Bool.not_true, Bool.not_false, Bool.not_eq_true', if_true, if_false, dEq_int, D.beq, (show (a == c) = decide (a = c) from by by_cases q : a = c <;> simp [q])]
      | box => cases hs2
      | _ => unfold sameBody; simp (config := { implicitDefEqProofs := false }) only [entry, exs, exS, ev, evs, evO, evIfs, evIt, evT, tstR_some', tru, at_v, at_p, val_v, atL, valL, get_mk, put_mk, ob_some, ob_none, isTy, op2, dIs, leave, bfn, seqOf_lst, seqOf_tup, srcOf_lst, srcOf_tup, setTg1, setTg2, setTg3, and_self, and_true, true_and, newPut, isOwn, List.map_cons, List.map_nil, List.length_cons, List.length_nil, List.cons_append, List.nil_append, List.getD_cons_zero, List.getD_cons_succ, List.set_cons_zero, List.set_cons_succ, List.replicate_succ, List.replicate_zero, Nat.reduceSub, Nat.reduceAdd, Option.map_some, Option.map_none, Option.some_or, beq_self_eq_true, Bool.true_eq_false, Bool.false_eq_true, Bool.not_true, Bool.not_false, Bool.not_eq_true', if_true, if_false, D.beq]
    | bl a =>
      cases y with
      | bl c => unfold sameBody; simp (config := { implicitDefEqProofs := false }) only [entry, exs, exS, ev, evs, evO, evIfs, evIt, evT, tstR_some', tru, at_v, at_p, val_v, atL, valL, get_mk, put_mk, ob_some, ob_none, isTy, op2, dIs, leave, bfn, seqOf_lst, seqOf_tup, srcOf_lst, srcOf_tup, setTg1, setTg2, setTg3, and_self, and_true, true_and, newPut, isOwn, List.map_cons, List.map_nil, List.length_cons, List.length_nil, List.cons_append, List.nil_append, List.getD_cons_zero, List.getD_cons_succ, List.set_cons_zero, List.set_cons_succ, List.replicate_succ, List.replicate_zero, Nat.reduceSub, Nat.reduceAdd, Option.map_some, Option.map_none, Option.some_or, beq_self_eq_true, Bool.true_eq_false, Bool.false_eq_true, Bool.not_true, Bool.not_false, Bool.not_eq_true', if_true, if_false, dEq_bl, D.beq, (show (a == c) = decide (a = c) from by by_cases q : a = c <;> simp [q])]
      | box => cases hs2
      | _ => unfold sameBody; simp (config := { implicitDefEqProofs := false }) only [entry, exs, exS, ev, evs, evO, evIfs, evIt, evT, tstR_some', tru, at_v, at_p, val_v, atL, valL, get_mk, put_mk, ob_some, ob_none, isTy, op2, dIs, leave, bfn, seqOf_lst, seqOf_tup, srcOf_lst, srcOf_tup, setTg1, setTg2, setTg3, and_self, and_true, true_and, newPut, isOwn, List.map_cons, List.map_nil, List.length_cons, List.length_nil, List.cons_append, List.nil_append, List.getD_cons_zero, List.getD_cons_succ, List.set_cons_zero, List.set_cons_succ, List.replicate_succ, List.replicate_zero, Nat.reduceSub, Nat.reduceAdd, Option.map_some, Option.map_none, Option.some_or, beq_self_eq_true, Bool.true_eq_false, Bool.false_eq_true, Bool.not_true, Bool.not_false, Bool.not_eq_true', if_true, if_false, D.beq]
    | str a =>
      cases y with
      | str c => unfold sameBody; simp (config := { implicitDefEqProofs := false }) only [entry, exs, exS, ev, evs, evO, evIfs, evIt, evT, tstR_some', tru, at_v, at_p, val_v, atL, valL, get_mk, put_mk, ob_some, ob_none, isTy, op2, dIs, leave, bfn, seqOf_lst, seqOf_tup, srcOf_lst, srcOf_tup, setTg1, setTg2, setTg3, and_self, and_true, true_and, newPut, isOwn, List.map_cons, List.map_nil, List.length_cons, List.length_nil, List.cons_append, List.nil_append, List.getD_cons_zero, List.getD_cons_succ, List.set_cons_zero, List.set_cons_succ, List.replicate_succ, List.replicate_zero, Nat.reduceSub, Nat.reduceAdd, Option.map_some, Option.map_none, Option.some_or, beq_self_eq_true, Bool.true_eq_false, Bool.false_eq_true, Bool.not_true, Bool.not_false, Bool.not_eq_true', if_true, if_false, dEq_str (show PyData.strOk a = true from hs) (show PyData.strOk c = true from hs2), D.beq, (show (a == c) = decide (a = c) from by by_cases q : a = c <;> simp [q])]
      | box => cases hs2
      | _ => unfold sameBody; simp (config := { implicitDefEqProofs := false }) only [entry, exs, exS, ev, evs, evO, evIfs, evIt, evT, tstR_some', tru, at_v, at_p, val_v, atL, valL, get_mk, put_mk, ob_some, ob_none, isTy, op2, dIs, leave, bfn, seqOf_lst, seqOf_tup, srcOf_lst, srcOf_tup, setTg1, setTg2, setTg3, and_self, and_true, true_and, newPut, isOwn, List.map_cons, List.map_nil, List.length_cons, List.length_nil, List.cons_append, List.nil_append, List.getD_cons_zero, List.getD_cons_succ, List.set_cons_zero, List.set_cons_succ, List.replicate_succ, List.replicate_zero, Nat.reduceSub, Nat.reduceAdd, Option.map_some, Option.map_none, Option.some_or, beq_self_eq_true, Bool.true_eq_false, Bool.false_eq_true, Bool.not_true, Bool.not_false, Bool.not_eq_true', if_true, if_false, D.beq]
    | non =>
      cases y with
      | box => cases hs2
      | _ => unfold sameBody; simp (config := { implicitDefEqProofs := false }) only [entry, exs, exS, ev, evs, evO, evIfs, evIt, evT, tstR_some', tru, at_v, at_p, val_v, atL, valL, get_mk, put_mk, ob_some, ob_none, isTy, op2, dIs, leave, bfn, seqOf_lst, seqOf_tup, srcOf_lst, srcOf_tup, setTg1, setTg2, setTg3, and_self, and_true, true_and, newPut, isOwn, List.map_cons, List.map_nil, List.length_cons, List.length_nil, List.cons_append, List.nil_append, List.getD_cons_zero, List.getD_cons_succ, List.set_cons_zero, List.set_cons_succ, List.replicate_succ, List.replicate_zero, Nat.reduceSub, Nat.reduceAdd, Option.map_some, Option.map_none, Option.some_or, beq_self_eq_true, Bool.true_eq_false, Bool.false_eq_true, Bool.not_true, Bool.not_false, Bool.not_eq_true', if_true, if_false, D.beq]
    | box => cases hs
end
end PV

end
section
set_option Elab.async false
set_option linter.all false
set_option maxRecDepth 100000
set_option maxHeartbeats 2000000
/-! EF: more parts common to the laws: small values, trees, rows of numbers, subsets. -/
namespace PV
open PySem L2
def subs0 (n : Nat) : List (List Nat) := (List.range n).foldl (fun rows k => rows ++ rows.map (· ++ [k])) [[]]
theorem subs0_succ (n : Nat) : subs0 (n + 1) = subs0 n ++ (subs0 n).map (· ++ [n]) := by
  unfold subs0
  rw [List.range_succ, List.foldl_append]
  rfl
theorem subs0_len : ∀ n, (subs0 n).length = 2 ^ n
  | 0 => rfl
  | n + 1 => by
    rw [subs0_succ, List.length_append, List.length_map, subs0_len n, Nat.pow_succ]
    omega
theorem mem_subs0 : ∀ (n : Nat) (r : List Nat), r ∈ subs0 n ↔ r.Pairwise (· < ·) ∧ ∀ s ∈ r, s < n
  | 0, r => by
    show r ∈ [[]] ↔ _
    rw [List.mem_singleton]
    constructor
    · rintro rfl; exact ⟨List.Pairwise.nil, fun s h => by cases h⟩
    · rintro ⟨_, h⟩
      cases r with
      | nil => rfl
      | cons x xs => exact absurd (h x List.mem_cons_self) (Nat.not_lt_zero _)
  | n + 1, r => by
    rw [subs0_succ, List.mem_append, List.mem_map]
    constructor
    · rintro (h | ⟨q, hq, rfl⟩)
      · obtain ⟨h1, h2⟩ := (mem_subs0 n r).mp h
        exact ⟨h1, fun s hs => Nat.lt_succ_of_lt (h2 s hs)⟩
      · obtain ⟨h1, h2⟩ := (mem_subs0 n q).mp hq
        refine ⟨List.pairwise_append.mpr ⟨h1, List.pairwise_singleton _ _, fun a ha b hb => ?_⟩, fun s hs => ?_⟩
        · rw [List.mem_singleton] at hb; subst hb; exact h2 a ha
        · rcases List.mem_append.mp hs with h | h
          · exact Nat.lt_succ_of_lt (h2 s h)
          · rw [List.mem_singleton] at h; omega
    · rintro ⟨h1, h2⟩
      by_cases hr : r = []
      · exact .inl ((mem_subs0 n r).mpr ⟨h1, by subst hr; intro s h; cases h⟩)
      · obtain ⟨q, x, rfl⟩ : ∃ q x, r = q ++ [x] := ⟨r.dropLast, r.getLast hr, (List.dropLast_concat_getLast hr).symm⟩
        obtain ⟨g1, _, g3⟩ := List.pairwise_append.mp h1
        have hx := h2 x (by simp)
        have hq : ∀ s ∈ q, s < x := fun s hs => g3 s hs x (by simp)
        by_cases e : x = n
        · subst e
          exact .inr ⟨q, (mem_subs0 x q).mpr ⟨g1, hq⟩, rfl⟩
        · refine .inl ((mem_subs0 n _).mpr ⟨h1, fun s hs => ?_⟩)
          rcases List.mem_append.mp hs with h | h
          · have := hq s h; omega
          · rw [List.mem_singleton] at h; omega
theorem asc_two (x y : Nat) (t : List Nat) : ascN (x :: y :: t) = (decide (x < y) && ascN (y :: t)) := by
  unfold ascN
  show ((List.range (t.length + 1)).all _) = _
  rw [List.range_succ_eq_map, List.all_cons, List.all_map]
  rfl
theorem asc_pair : ∀ r : List Nat, ascN r = true ↔ r.Pairwise (· < ·)
  | [] => by simp [ascN]
  | [x] => by simp [ascN]
  | x :: y :: t => by
    rw [asc_two, Bool.and_eq_true, decide_eq_true_eq, asc_pair (y :: t), List.pairwise_cons (a := x)]
    constructor
    · rintro ⟨h1, h2⟩
      refine ⟨fun z hz => ?_, h2⟩
      rcases List.mem_cons.mp hz with rfl | hz
      · exact h1
      · exact Nat.lt_trans h1 ((List.pairwise_cons.mp h2).1 z hz)
    · rintro ⟨h1, h2⟩
      exact ⟨h1 y List.mem_cons_self, h2⟩
theorem asc_len {n : Nat} {r : List Nat} (h : ascN r = true) (hr : ∀ s ∈ r, s < n) : r.length ≤ n := by
  have h1 := (asc_pair r).mp h
  have key : ∀ (r : List Nat) (n : Nat), r.Pairwise (· < ·) → (∀ s ∈ r, s < n) → r.length ≤ n := by
    intro r n
    induction n generalizing r with
    | zero =>
      intro _ h
      cases r with
      | nil => exact Nat.le_refl _
      | cons x xs => exact absurd (h x List.mem_cons_self) (Nat.not_lt_zero _)
    | succ n ih =>
      intro h1 h2
      by_cases hr : r = []
      · subst hr; exact Nat.zero_le _
      · obtain ⟨q, x, rfl⟩ : ∃ q x, r = q ++ [x] := ⟨r.dropLast, r.getLast hr, (List.dropLast_concat_getLast hr).symm⟩
        obtain ⟨g1, _, g3⟩ := List.pairwise_append.mp h1
        have hx := h2 x (by simp)
        have := ih q g1 fun s hs => by have := g3 s hs x (by simp); omega
        simp
        omega
  exact key r n h1 hr
theorem asc_filter {r : List Nat} (p : Nat → Bool) (h : ascN r = true) : ascN (r.filter p) = true :=
  (asc_pair _).mpr (((asc_pair r).mp h).sublist List.filter_sublist)
theorem asc_range (n : Nat) : ascN (List.range n) = true := (asc_pair _).mpr List.pairwise_lt_range
theorem rows_same {α : Type} {f : α → D} {l : List α} {g : α → List D} (hf : ∀ x, f x = .tup (g x)) (h1 : ∀ x ∈ l, (f x).pl = true ∧ (f x).dep ≤ 16) (h2 : ∀ x ∈ l, ∀ y ∈ l, D.sameL (g x) (g y) = true) : allSame (l.map f) = true :=
  allSame_of h1 fun x hx y hy => by rw [hf, hf]; exact h2 x hx y hy
abbrev pD (r : List Nat) : D := .tup [nD r.length, rN r]
theorem pl_pD (r : List Nat) : (pD r).pl = true := by
  show (true && ((rN r).pl && true)) = true
  rw [pl_rN]; rfl
theorem dep_pD (r : List Nat) : (pD r).dep ≤ 16 := by
  have := dep_rN r
  show max 0 (max (rN r).dep 0) + 1 ≤ 16
  omega
def seqD (d : D) (xs : List D) : Prop := d = .tup xs ∨ d = .lst xs
theorem filt_len {c : Call} {i : Nat} {it : Wk} {t elt : E} {ρ : PV.Env} {bs : List Nat} {p : Nat → Bool} {f : Nat → D} (hi : evIt c it ρ = some (.vals (bs.map nD), ρ)) (ho : isOwn (ρ.get i) = false)
    (ht : ∀ x ∈ bs, ev c t (ρ.put i (.val (nD x))) = some (.v (.bl (p x)), ρ.put i (.val (nD x)))) (h : ∀ x ∈ bs, ev c elt (ρ.put i (.val (nD x))) = some (.v (f x), ρ.put i (.val (nD x)))) :
    ev c (.bi .len (.cons (.comp [i] it (.cons t .nil) elt) .nil)) ρ = some (.v (nD (bs.filter p).length), ρ) := by
  have := lenL (comp_if p hi ho ht fun x hx _ => h x hx)
  rw [List.length_map] at this
  exact this
theorem any_not {α : Type} (l : List α) (p : α → Bool) : (!(l.any fun x => !p x)) = l.all p := by
  induction l with
  | nil => rfl
  | cons x xs ih =>
    rw [List.any_cons, List.all_cons, Bool.not_or, Bool.not_not, ih]
theorem calls {c : Call} {f : Nat} {es : Es} {ρ ρ1 : PV.Env} {ds : List D} {d : D} {b : Bx} {hs : List Hd} (h1 : evs c es ρ = some (hs, ρ1)) (h2 : valL hs = some ds) (h : c f ds ρ1.bx = some (d, b)) : ev c (.call f es) ρ = some (.v d, { ρ1 with bx := b }) := by
  simp only [ev, h1, h2, h, ob_some]
def optD (o : Option (List Nat)) : D := match o with | some r => rN r | none => .non
theorem ret_if {c : Call} {t : E} {i : Nat} {ρ : PV.Env} {q : Bool} {d : D} (h : ev c t ρ = some (.v (.bl q), ρ)) (hv : ev c (.var i) ρ = some (.v d, ρ)) : exs c (.cons (.ite t (.cons (.ret (.var i)) .nil) .nil) .nil) ρ = some (if q then .ret d else .next, ρ) := by
  cases q with
  | true =>
    rw [if_pos rfl]
    exact exs_ret (ite_go h (exs_ret (ret_ok hv)))
  | false =>
    rw [if_neg Bool.false_ne_true]
    exact (exs_cons (ite_no h)).trans rfl
theorem minF_mem : ∀ (xs : List D) (x : D), minF x xs ∈ x :: xs
  | [], x => List.mem_cons_self
  | y :: ys, x => by
    show minF (if D.ltb y x then y else x) ys ∈ _
    rcases List.mem_cons.mp (minF_mem ys (if D.ltb y x then y else x)) with h | h
    · rw [h]
      split
      · exact List.mem_cons_of_mem _ List.mem_cons_self
      · exact List.mem_cons_self
    · exact List.mem_cons_of_mem _ (List.mem_cons_of_mem _ h)
theorem max_nat {c : Call} {a e : E} {ρ : PV.Env} {x y : Nat} (h1 : ev c a ρ = some (.v (nD x), ρ)) (h2 : ev c e ρ = some (.v (nD y), ρ)) : ev c (.bi .max (.cons a (.cons e .nil))) ρ = some (.v (nD (max x y)), ρ) := by
  have e : (if ((y : Nat) : Int) > (x : Int) then ((y : Nat) : Int) else (x : Int)) = ((max x y : Nat) : Int) := by
    split <;> omega
  simp (config := { implicitDefEqProofs := false }) only [entry, exs, exS, ev, evs, evO, evIfs, evIt, evT, tstR_some', tru, at_v, at_p, val_v, atL, valL, get_mk, put_mk, ob_some, ob_none, isTy, op2, dIs, leave, bfn, seqOf_lst, seqOf_tup, srcOf_lst, srcOf_tup, setTg1, setTg2, setTg3, and_self, and_true, true_and, newPut, isOwn, List.map_cons, List.map_nil, List.length_cons, List.length_nil, List.cons_append, List.nil_append, List.getD_cons_zero, List.getD_cons_succ, List.set_cons_zero, List.set_cons_succ, List.replicate_succ, List.replicate_zero, Nat.reduceSub, Nat.reduceAdd, Option.map_some, Option.map_none, Option.some_or, beq_self_eq_true, Bool.true_eq_false, Bool.false_eq_true, Bool.not_true, Bool.not_false, Bool.not_eq_true', if_true, if_false, h1, h2, e]
mutual
def sz (k : Nat) : D → Bool
  | .tup xs => decide (xs.length ≤ k) && szL k xs
  | .lst xs => decide (xs.length ≤ k) && szL k xs
  | .str x => PyData.strOk x
  | .box => false
  | _ => true
def szL (k : Nat) : List D → Bool
  | [] => true
  | x :: xs => sz k x && szL k xs
end
theorem szL_iff {k : Nat} : ∀ {xs : List D}, szL k xs = true ↔ ∀ x ∈ xs, sz k x = true
  | [] => by simp [szL]
  | x :: xs => by
    simp only [szL, Bool.and_eq_true, szL_iff (xs := xs), List.mem_cons, forall_eq_or_imp]
mutual
theorem sz_sim {k : Nat} (hk : k ≤ 1000000) : ∀ {d : D}, sz k d = true → d.sim = true
  | .tup xs, h => by
    simp only [sz, Bool.and_eq_true, decide_eq_true_eq] at h
    simp only [D.sim, Bool.and_eq_true, decide_eq_true_eq]
    exact ⟨by omega, szL_sim hk h.2⟩
  | .lst xs, h => by
    simp only [sz, Bool.and_eq_true, decide_eq_true_eq] at h
    simp only [D.sim, Bool.and_eq_true, decide_eq_true_eq]
    exact ⟨by omega, szL_sim hk h.2⟩
  | .str x, h => h
  | .box, h => by cases h
  | .int _, _ => rfl
  | .bl _, _ => rfl
  | .non, _ => rfl
theorem szL_sim {k : Nat} (hk : k ≤ 1000000) : ∀ {xs : List D}, szL k xs = true → D.simL xs = true
  | [], _ => rfl
  | x :: xs, h => by
    simp only [szL, Bool.and_eq_true] at h
    simp only [D.simL, Bool.and_eq_true]
    exact ⟨sz_sim hk h.1, szL_sim hk h.2⟩
end
mutual
theorem sz_pl {k : Nat} : ∀ {d : D}, sz k d = true → d.pl = true
  | .tup xs, h => by
    simp only [sz, Bool.and_eq_true] at h
    exact szL_pl h.2
  | .lst xs, h => by
    simp only [sz, Bool.and_eq_true] at h
    exact szL_pl h.2
  | .str x, h => h
  | .box, h => by cases h
  | .int _, _ => rfl
  | .bl _, _ => rfl
  | .non, _ => rfl
theorem szL_pl {k : Nat} : ∀ {xs : List D}, szL k xs = true → D.plL xs = true
  | [], _ => rfl
  | x :: xs, h => by
    simp only [szL, Bool.and_eq_true] at h
    simp only [D.plL, Bool.and_eq_true]
    exact ⟨sz_pl h.1, szL_pl h.2⟩
end
theorem depL_iff {n : Nat} : ∀ {xs : List D}, D.depL xs ≤ n ↔ ∀ x ∈ xs, x.dep ≤ n
  | [] => by simp [D.depL]
  | x :: xs => by
    show max x.dep (D.depL xs) ≤ n ↔ _
    rw [Nat.max_le, depL_iff (xs := xs)]
    simp
theorem sz_tup {k : Nat} {xs : List D} : sz k (.tup xs) = true ↔ xs.length ≤ k ∧ ∀ x ∈ xs, sz k x = true := by
  simp only [sz, Bool.and_eq_true, decide_eq_true_eq, szL_iff]
theorem dep_tup {n : Nat} {xs : List D} : (D.tup xs).dep ≤ n + 1 ↔ ∀ x ∈ xs, x.dep ≤ n := by
  rw [← depL_iff]
  show D.depL xs + 1 ≤ n + 1 ↔ _
  omega
structure GoodV (v : D) : Prop where
  sz : sz 60 v = true
  dep : v.dep ≤ 30
theorem GoodV.sim {v : D} (h : GoodV v) : v.sim = true := sz_sim (by decide) h.sz
theorem eq_nilD {xs : List D} (h1 : D.plL xs = true) (h2 : D.depL xs ≤ 60) : dEq (.tup xs) (.tup []) = some xs.isEmpty := by
  show (if (D.tup xs).cmpb && (D.tup []).cmpb then some (D.eqvL xs []) else none) = _
  rw [if_pos (by rw [cmpb_tup (n := 60) h1 h2 (by decide)]; rfl)]
  cases xs <;> rfl
theorem usort_self : ∀ {l : List Int}, l.Pairwise (· < ·) → usort l = l
  | [], _ => rfl
  | x :: xs, h => by
    obtain ⟨h1, h2⟩ := List.pairwise_cons.mp h
    show insU x (usort xs) = _
    rw [usort_self h2]
    cases xs with
    | nil => rfl
    | cons y ys =>
      show (if x < y then _ else _) = _
      rw [if_pos (h1 y List.mem_cons_self)]
theorem eqvL_ints : ∀ a b : List Int, D.eqvL (a.map D.int) (b.map D.int) = decide (a = b)
  | [], [] => by simp [D.eqvL]
  | [], _ :: _ => by simp [D.eqvL]
  | _ :: _, [] => by simp [D.eqvL]
  | x :: xs, y :: ys => by
    show (D.eqv (.int x) (.int y) && D.eqvL (xs.map D.int) (ys.map D.int)) = _
    rw [eqvL_ints xs ys]
    by_cases q : x = y <;> by_cases q2 : xs = ys <;> simp [D.eqv, q, q2]
abbrev toZ (r : List Nat) : List Int := r.map fun (k : Nat) => (k : Int)
theorem toZ_D (r : List Nat) : r.map nD = (toZ r).map D.int := by
  rw [List.map_map]; rfl
theorem asc_usort (r : List Nat) : decide (toZ r = usort (toZ r)) = ascN r := by
  rw [Bool.eq_iff_iff, decide_eq_true_eq, asc_pair]
  constructor
  · intro h
    have := (usort_spec (toZ r)).1
    rw [← h] at this
    have := List.pairwise_map.mp this
    exact this.imp fun h => by omega
  · intro h
    refine (usort_self ?_).symm
    exact List.pairwise_map.mpr (h.imp fun h => by omega)
theorem intL_toZ (r : List Nat) : intL (r.map nD) = some (toZ r) := intL_mapf (fun (k : Nat) => (k : Int)) r
theorem srt_rN {r : List Nat} (h : r.length < 64) : dSrt (rN r) = some (.lst ((usort (toZ r)).map D.int)) := by
  show ((some (r.map nD)).bind fun ds => (intL ds).bind fun ns => if ns.length < 64 then some (D.lst ((usort ns).map D.int)) else none) = _
  rw [Option.bind_some, intL_toZ, Option.bind_some, if_pos (by rw [List.length_map]; exact h)]
theorem eq_srt (r : List Nat) : dEq (.lst (r.map nD)) (.lst ((usort (toZ r)).map D.int)) = some (ascN r) := by
  show (if (D.lst (r.map nD)).cmpb && (D.lst ((usort (toZ r)).map D.int)).cmpb then some (D.eqvL (r.map nD) ((usort (toZ r)).map D.int)) else none) = _
  rw [if_pos (by rw [cmpb_nats, cmpb_ints]; rfl), toZ_D, eqvL_ints, asc_usort]
theorem good_mem {xs : List D} (h : GoodV (.tup xs)) : ∀ x ∈ xs, GoodV x := fun x hx => ⟨(sz_tup.mp h.sz).2 x hx, by
  have := depL_mem hx
  have hd : D.depL xs + 1 ≤ 30 := h.dep
  omega⟩
mutual
def tree (k : Nat) : D → Bool
  | .tup xs => decide (xs.length ≤ k) && treeL k xs
  | .int i => decide (i.natAbs < 1000)
  | _ => false
def treeL (k : Nat) : List D → Bool
  | [] => true
  | x :: xs => tree k x && treeL k xs
end
theorem treeL_iff {k : Nat} : ∀ {xs : List D}, treeL k xs = true ↔ ∀ x ∈ xs, tree k x = true
  | [] => by simp [treeL]
  | x :: xs => by
    simp only [treeL, Bool.and_eq_true, treeL_iff (xs := xs), List.mem_cons, forall_eq_or_imp]
theorem tree_tup {k : Nat} {xs : List D} : tree k (.tup xs) = true ↔ xs.length ≤ k ∧ ∀ x ∈ xs, tree k x = true := by
  simp only [tree, Bool.and_eq_true, decide_eq_true_eq, treeL_iff]
mutual
theorem tree_sz {k l : Nat} (h : k ≤ l) : ∀ {d : D}, tree k d = true → sz l d = true
  | .tup xs, q => by
    simp only [tree, Bool.and_eq_true, decide_eq_true_eq] at q
    simp only [sz, Bool.and_eq_true, decide_eq_true_eq]
    exact ⟨by omega, treeL_sz h q.2⟩
  | .int _, _ => rfl
  | .lst _, q => by cases q
  | .str _, q => by cases q
  | .bl _, q => by cases q
  | .non, q => by cases q
  | .box, q => by cases q
theorem treeL_sz {k l : Nat} (h : k ≤ l) : ∀ {xs : List D}, treeL k xs = true → szL l xs = true
  | [], _ => rfl
  | x :: xs, q => by
    simp only [treeL, Bool.and_eq_true] at q
    simp only [szL, Bool.and_eq_true]
    exact ⟨tree_sz h q.1, treeL_sz h q.2⟩
end
theorem str_int : ∀ n : Nat, n < 1000 → (PyData.strOk (Str.ofString (toString (n : Int))) && PyData.strOk (Str.ofString (toString (-(n : Int))))) = true := by decide +kernel
theorem str_i {i : Int} (h : i.natAbs < 1000) : PyData.strOk (Str.ofString (toString i)) = true := by
  have := str_int i.natAbs h
  rw [Bool.and_eq_true] at this
  rcases Int.natAbs_eq i with e | e
  · rw [e]; exact this.1
  · rw [e]; exact this.2
def Bent (v d : D) : Prop := sz 60 d = true ∧ d.dep ≤ v.dep + 1
theorem bent_tup {xs ys : List D} (h1 : ys.length ≤ 60) (h2 : ∀ y ∈ ys, sz 60 y = true ∧ y.dep ≤ D.depL xs + 1) : Bent (.tup xs) (.tup ys) :=
  ⟨sz_tup.mpr ⟨h1, fun y hy => (h2 y hy).1⟩, dep_tup.mpr fun y hy => (h2 y hy).2⟩
theorem sl_tup (xs : List D) (lo hi : Option Int) : dSl (.tup xs) lo hi = some (.tup (slc xs lo hi)) := rfl
theorem comp_draw2 {α : Type} {c : Call} {i : Nat} {it : Wk} {elt : E} {sl : List Slot} {b0 b : Bx} {l : List α} {g : α → D} (P : D → Prop) (hi : evIt c it ⟨sl, b0⟩ = some (.vals (l.map g), ⟨sl, b⟩)) (ho : isOwn (Env.get ⟨sl, b⟩ i) = false) (hb : b.ok)
    (h : ∀ x ∈ l, ∀ b : Bx, b.ok → ∃ d b', ev c elt ⟨sl.set i (.val (g x)), b⟩ = some (.v d, ⟨sl.set i (.val (g x)), b'⟩) ∧ P d ∧ b'.ok) :
    ∃ ds b', ev c (.comp [i] it .nil elt) ⟨sl, b0⟩ = some (.v (.lst ds), ⟨sl, b'⟩) ∧ ds.length = l.length ∧ (∀ d ∈ ds, P d) ∧ b'.ok := by
  simp only [ev, hi, Option.bind_eq_bind, Option.bind_some, List.any_cons, List.any_nil, ho, Bool.or_false, compS]
  rw [if_neg (by decide)]
  generalize htn : (fun (x : D) (ρ : Env) => (setTg [i] x (ρ.wipe [i])).bind fun ρ => _) = turn
  have key : ∀ (l : List α), (∀ x ∈ l, ∀ b : Bx, b.ok → ∃ d b', ev c elt ⟨sl.set i (.val (g x)), b⟩ = some (.v d, ⟨sl.set i (.val (g x)), b'⟩) ∧ P d ∧ b'.ok) →
      ∀ (sl1 : List Slot) (b : Bx), sl1.set i .un = sl.set i .un → b.ok → ∃ ds sl2 b', compL turn (l.map g) ⟨sl1, b⟩ = some (ds, ⟨sl2, b'⟩) ∧ sl2.set i .un = sl.set i .un ∧ ds.length = l.length ∧ (∀ d ∈ ds, P d) ∧ b'.ok := by
    intro l
    induction l with
    | nil => intro _ sl1 b e hb; exact ⟨[], sl1, b, rfl, e, rfl, (fun d h => by cases h), hb⟩
    | cons x xs ih =>
      intro h sl1 b e hb
      obtain ⟨d, b1, q1, q2, q3⟩ := h x List.mem_cons_self b hb
      have e1 : turn (g x) ⟨sl1, b⟩ = some ([d], ⟨sl.set i (.val (g x)), b1⟩) := by
        subst htn
        have ew : (Env.wipe ⟨sl1, b⟩ [i]).put i (.val (g x)) = ⟨sl.set i (.val (g x)), b⟩ := by
          show (⟨(sl1.set i .un).set i (.val (g x)), b⟩ : Env) = _
          rw [e, List.set_set]
        show Option.bind (some ((Env.wipe ⟨sl1, b⟩ [i]).put i (.val (g x)))) _ = _
        rw [ew]
        simp only [Option.bind_some, evIfs, q1, Hd.val]
      obtain ⟨ds, sl2, b', r1, r2, r3, r4, r5⟩ := ih (fun y hy => h y (List.mem_cons_of_mem _ hy)) (sl.set i (.val (g x))) b1 (by rw [List.set_set]) q3
      refine ⟨d :: ds, sl2, b', ?_, r2, by simp [r3], fun z hz => ?_, r5⟩
      · simp only [List.map_cons, compL, e1, Option.bind_eq_bind, Option.bind_some, r1, List.cons_append, List.nil_append]
      · rcases List.mem_cons.mp hz with rfl | hz
        · exact q2
        · exact r4 z hz
  obtain ⟨ds, sl2, b', r1, r2, r3, r4, r5⟩ := key l h (Env.wipe ⟨sl, b⟩ [i]).sl b (by show (sl.set i .un).set i .un = _; rw [List.set_set]) hb
  refine ⟨ds, b', ?_, r3, r4, r5⟩
  have r1' : compL turn (l.map g) (Env.wipe ⟨sl, b⟩ [i]) = some (ds, ⟨sl2, b'⟩) := r1
  rw [r1']
  simp only [Option.bind_some]
  have : Env.rest ⟨sl, b⟩ ⟨sl2, b'⟩ [i] = ⟨sl, b'⟩ := by
    show (⟨sl2.set i ((⟨sl, b⟩ : Env).get i), b'⟩ : Env) = _
    congr 1
    have e3 := congrArg (fun z : List Slot => z.set i ((⟨sl, b⟩ : Env).get i)) r2
    simp only [List.set_set] at e3
    rw [e3]
    have := congrArg Env.sl (put_self (ρ := ⟨sl, b⟩) (i := i))
    exact this
  rw [this]
theorem nats_of {m : Nat} : ∀ {ds : List D}, (∀ d ∈ ds, ∃ k, k < m ∧ d = nD k) → ∃ zs : List Nat, ds = zs.map nD ∧ zs.length = ds.length ∧ ∀ z ∈ zs, z < m
  | [], _ => ⟨[], rfl, rfl, fun z h => by cases h⟩
  | d :: ds, h => by
    obtain ⟨k, hk, rfl⟩ := h d List.mem_cons_self
    obtain ⟨zs, rfl, e2, e3⟩ := nats_of fun d hd => h d (List.mem_cons_of_mem _ hd)
    refine ⟨k :: zs, rfl, by rw [List.length_cons, List.length_cons, e2], fun z hz => ?_⟩
    rcases List.mem_cons.mp hz with rfl | hz
    · exact hk
    · exact e3 z hz
theorem toZ_nat : ∀ {l : List Int}, (∀ z ∈ l, 0 ≤ z) → ∃ r : List Nat, l = toZ r
  | [], _ => ⟨[], rfl⟩
  | z :: l, h => by
    obtain ⟨r, rfl⟩ := toZ_nat fun z hz => h z (List.mem_cons_of_mem _ hz)
    have := h z List.mem_cons_self
    refine ⟨z.toNat :: r, ?_⟩
    show _ = ((z.toNat : Nat) : Int) :: toZ r
    congr 1
    omega
theorem usort_nat (zs : List Nat) : ∃ r : List Nat, usort (toZ zs) = toZ r ∧ ascN r = true ∧ (∀ s, s ∈ r ↔ s ∈ zs) := by
  obtain ⟨h1, h2⟩ := usort_spec (toZ zs)
  obtain ⟨r, e⟩ := toZ_nat (l := usort (toZ zs)) fun z hz => by
    obtain ⟨k, _, rfl⟩ := List.mem_map.mp ((h2 z).mp hz)
    omega
  refine ⟨r, e, ?_, fun s => ?_⟩
  · rw [e] at h1
    rw [asc_pair]
    exact (List.pairwise_map.mp h1).imp fun h => by omega
  · have := h2 (s : Int)
    rw [e] at this
    have key : ∀ l : List Nat, ((s : Int) ∈ toZ l ↔ s ∈ l) := fun l => by
      constructor
      · intro h
        obtain ⟨k, hk, e⟩ := List.mem_map.mp h
        have : k = s := by omega
        exact this ▸ hk
      · intro h
        exact List.mem_map.mpr ⟨s, h, rfl⟩
    rw [key, key] at this
    exact this
theorem in_lst (r : List Nat) (s : Nat) : dIn (nD s) (.lst (r.map nD)) = some (r.contains s) := in_rN r s
theorem dep_rows (R : List (List Nat)) : (D.lst (R.map rN)).dep ≤ 2 := by
  have : D.depL (R.map rN) ≤ 1 := depL_map fun r _ => dep_rN r
  show D.depL (R.map rN) + 1 ≤ 2
  omega
theorem pl_rows (R : List (List Nat)) : D.plL (R.map rN) = true := plL_map fun r _ => pl_rN r
theorem eq_nilR (R : List (List Nat)) : dEq (.lst (R.map rN)) (.lst []) = some R.isEmpty := by
  show (if (D.lst (R.map rN)).cmpb && (D.lst []).cmpb then some (D.eqvL (R.map rN) []) else none) = _
  rw [if_pos (by rw [cmpb_lst (n := 1) (pl_rows R) (depL_map fun r _ => dep_rN r) (by decide)]; rfl)]
  cases R <;> rfl
theorem sim_rows {R : List (List Nat)} (h : R.length ≤ 1000000) (h2 : ∀ r ∈ R, r.length ≤ 1000000) : (D.lst (R.map rN)).sim = true := by
  show (decide ((R.map rN).length ≤ 1000000) && D.simL (R.map rN)) = true
  rw [simL_map (fun r hr => simL_rN (h2 r hr)), Bool.and_true, decide_eq_true_eq, List.length_map]
  exact h
theorem eqvL_nats (a b : List Nat) : D.eqvL (a.map nD) (b.map nD) = decide (a = b) := by
  rw [toZ_D, toZ_D, eqvL_ints]
  rw [Bool.eq_iff_iff, decide_eq_true_eq, decide_eq_true_eq]
  constructor
  · intro h
    have inj : ∀ a b : List Nat, toZ a = toZ b → a = b := by
      intro a
      induction a with
      | nil => intro b h; cases b with | nil => rfl | cons y ys => cases h
      | cons x xs ih =>
        intro b h
        cases b with
        | nil => cases h
        | cons y ys =>
          have h : (x : Int) :: toZ xs = (y : Int) :: toZ ys := h
          rw [List.cons.injEq] at h
          rw [ih ys h.2, show x = y by omega]
    exact inj a b h
  · rintro rfl; rfl
theorem in_rows (R : List (List Nat)) (r : List Nat) : dIn (rN r) (.lst (R.map rN)) = some (R.contains r) := by
  show (if (rN r).cmpb && (D.lst (R.map rN)).cmpb then some ((R.map rN).any fun y => y.eqv (rN r)) else none) = _
  rw [if_pos (by
    rw [cmpb_lst (n := 1) (pl_rows R) (depL_map fun r _ => dep_rN r) (by decide), cmpb_tup (n := 0) (plL_map fun _ _ => rfl) (depL_map fun _ _ => Nat.le_refl _) (by decide)]; rfl), List.any_map]
  congr 1
  rw [Bool.eq_iff_iff]
  simp only [List.any_eq_true, Function.comp_apply, List.contains_iff_mem]
  constructor
  · rintro ⟨x, hx, h⟩
    have h : D.eqvL (x.map nD) (r.map nD) = true := h
    rw [eqvL_nats, decide_eq_true_eq] at h
    exact h ▸ hx
  · intro h
    refine ⟨r, h, ?_⟩
    show D.eqvL (r.map nD) (r.map nD) = true
    rw [eqvL_nats, decide_eq_true_eq]
theorem beqL_nats : ∀ a b : List Nat, D.beqL (a.map nD) (b.map nD) = decide (a = b)
  | [], [] => by simp [D.beqL]
  | [], _ :: _ => by simp [D.beqL]
  | _ :: _, [] => by simp [D.beqL]
  | x :: xs, y :: ys => by
    show (decide ((x : Int) = (y : Int)) && D.beqL (xs.map nD) (ys.map nD)) = _
    rw [beqL_nats xs ys]
    by_cases q : x = y
    · by_cases q2 : xs = ys <;> simp [q, q2]
    · have : ¬ (x : Int) = (y : Int) := by omega
      simp [q, this]
theorem beq_rN (a b : List Nat) : D.beq (rN a) (rN b) = decide (a = b) := beqL_nats a b
theorem any_row {l : List (List Nat)} {n : Nat} (hl : ∀ row ∈ l, ∀ s ∈ row, s < n) (v : D) : (l.any fun row => D.beq v (rN row)) = optB (seatsOf n v) fun r => l.contains r := by
  cases q : seatsOf n v with
  | none =>
    show _ = false
    rw [List.any_eq_false]
    intro row hrow h
    have := beq_eq _ _ h
    subst this
    rw [seats_rN (hl row hrow)] at q
    cases q
  | some r =>
    obtain ⟨rfl, hr⟩ := seats_tup q
    show _ = l.contains r
    rw [Bool.eq_iff_iff]
    simp only [List.any_eq_true, List.contains_iff_mem, beq_rN, decide_eq_true_eq]
    constructor
    · rintro ⟨x, hx, rfl⟩; exact hx
    · exact fun h => ⟨r, h, rfl⟩
theorem good_rN {r : List Nat} (h : r.length ≤ 60) : GoodV (rN r) :=
  ⟨sz_tup.mpr ⟨by rw [List.length_map]; exact h, fun x hx => by obtain ⟨k, _, rfl⟩ := List.mem_map.mp hx; rfl⟩, by have := dep_rN r; omega⟩
theorem tree_rN {r : List Nat} (h : r.length ≤ 20) (h2 : ∀ s ∈ r, s < 1000) : tree 20 (rN r) = true :=
  tree_tup.mpr ⟨by rw [List.length_map]; exact h, fun x hx => by
    obtain ⟨k, hk, rfl⟩ := List.mem_map.mp hx
    have := h2 k hk
    show decide ((k : Int).natAbs < 1000) = true
    rw [decide_eq_true_eq]; omega⟩
abbrev rD (R : List (List Nat)) : D := .lst (R.map rN)
def headD : List (List Nat) → D
  | r :: _ => rN r
  | [] => .non
theorem find_head (l : List (List Nat)) (p : List Nat → Bool) : optD (l.find? p) = headD (l.filter p) := by
  have h : l.find? p = (l.filter p).head? := (List.head?_filter).symm
  rw [h]
  cases l.filter p <;> rfl
theorem head_ok {c : Call} {i : Nat} {R : List (List Nat)} {ρ : PV.Env} (hg : ρ.get i = .val (rD R)) : ev c (.ite (.op .ne (.var i) (.lst .nil)) (.ix (.var i) (.kint 0)) (.knon)) ρ = some (.v (headD R), ρ) := by
  have e := eq_nilR R
  have t : ev c (.op .ne (.var i) (.lst .nil)) ρ = some (.v (.bl !R.isEmpty), ρ) := by
    simp (config := { implicitDefEqProofs := false }) only [entry, exs, exS, ev, evs, evO, evIfs, evIt, evT, tstR_some', tru, at_v, at_p, val_v, atL, valL, get_mk, put_mk, ob_some, ob_none, isTy, op2, dIs, leave, bfn, seqOf_lst, seqOf_tup, srcOf_lst, srcOf_tup, setTg1, setTg2, setTg3, and_self, and_true, true_and, newPut, isOwn, List.map_cons, List.map_nil, List.length_cons, List.length_nil, List.cons_append, List.nil_append, List.getD_cons_zero, List.getD_cons_succ, List.set_cons_zero, List.set_cons_succ, List.replicate_succ, List.replicate_zero, Nat.reduceSub, Nat.reduceAdd, Option.map_some, Option.map_none, Option.some_or, beq_self_eq_true, Bool.true_eq_false, Bool.false_eq_true, Bool.not_true, Bool.not_false, Bool.not_eq_true', if_true, if_false, hg, valL, e]
  cases R with
  | nil => exact ite_r t rfl
  | cons r l =>
    have a : atI (rN r :: l.map rN) 0 = some (rN r) := atI_mapf (f := rN) (l := r :: l) (k := 0) (Nat.succ_pos _)
    refine ite_l t ?_
    simp (config := { implicitDefEqProofs := false }) only [entry, exs, exS, ev, evs, evO, evIfs, evIt, evT, tstR_some', tru, at_v, at_p, val_v, atL, valL, get_mk, put_mk, ob_some, ob_none, isTy, op2, dIs, leave, bfn, seqOf_lst, seqOf_tup, srcOf_lst, srcOf_tup, setTg1, setTg2, setTg3, and_self, and_true, true_and, newPut, isOwn, List.map_cons, List.map_nil, List.length_cons, List.length_nil, List.cons_append, List.nil_append, List.getD_cons_zero, List.getD_cons_succ, List.set_cons_zero, List.set_cons_succ, List.replicate_succ, List.replicate_zero, Nat.reduceSub, Nat.reduceAdd, Option.map_some, Option.map_none, Option.some_or, beq_self_eq_true, Bool.true_eq_false, Bool.false_eq_true, Bool.not_true, Bool.not_false, Bool.not_eq_true', if_true, if_false, hg, dIx, a]
    rfl
theorem for_vals {c : Call} {i : Nat} {w : Wk} {body : Ss} {ρ ρ1 : PV.Env} {xs : List D} (I : PV.Env → Prop) (hw : evIt c w ρ = some (.vals xs, ρ1)) (h0 : I ρ1) (h : ∀ x ∈ xs, ∀ ρ, I ρ → ∃ ρ', exs c body (ρ.put i (.val x)) = some (.next, ρ') ∧ I ρ') : ∃ ρ', exS c (.for_ [i] w body) ρ = some (.next, ρ') ∧ I ρ' := by
  obtain ⟨ρ', e, hI⟩ := forL_inv (turn := fun x ρ => exs c body (ρ.put i (.val x))) (fun _ ρ => I ρ) (xs := xs) (k := 0) (ρ := ρ1) h0 fun k x ρ hx hI => h x (List.mem_of_getElem? hx) ρ hI
  exact ⟨ρ', for_ok hw e, hI⟩
theorem add_vals {c : Call} {a e : E} {xs ys : List D} {ρ ρ1 : PV.Env} (h1 : ev c a ρ = some (.v (.lst xs), ρ)) (h2 : ev c e ρ = some (.v (.lst ys), ρ1)) (hl : xs.length + ys.length ≤ 1000000) : ev c (.op .add a e) ρ = some (.v (.lst (xs ++ ys)), ρ1) :=
  op_ok (o := .add) h1 h2 (add_lst hl)
theorem good_lit : GoodV (.tup [.bl true]) ∧ GoodV .non ∧ GoodV (.tup []) ∧ GoodV (.int 0) := ⟨⟨rfl, by decide⟩, ⟨rfl, by decide⟩, ⟨rfl, by decide⟩, ⟨rfl, by decide⟩⟩
/-! ### two names and a test; sums; chains -/
theorem compP_if {α : Type} {c : Call} {i j : Nat} {it : Wk} {t elt : E} {ρ : Env} {l : List α} {g1 g2 f : α → D} (p : α → Bool) (hij : i ≠ j) (hi : evIt c it ρ = some (.vals (l.map fun x => .tup [g1 x, g2 x]), ρ)) (ho : isOwn (ρ.get i) = false) (ho2 : isOwn (ρ.get j) = false)
    (ht : ∀ x ∈ l, ev c t ((ρ.put i (.val (g1 x))).put j (.val (g2 x))) = some (.v (.bl (p x)), (ρ.put i (.val (g1 x))).put j (.val (g2 x))))
    (h : ∀ x ∈ l, p x = true → ev c elt ((ρ.put i (.val (g1 x))).put j (.val (g2 x))) = some (.v (f x), (ρ.put i (.val (g1 x))).put j (.val (g2 x)))) : ev c (.comp [i, j] it (.cons t .nil) elt) ρ = some (.v (.lst ((l.filter p).map f)), ρ) := by
  simp only [ev, hi, Option.bind_eq_bind, Option.bind_some, List.any_cons, List.any_nil, ho, ho2, Bool.or_false, compS]
  rw [if_neg (by decide)]
  generalize htn : (fun (x : D) (ρ : Env) => (setTg [i, j] x (ρ.wipe [i, j])).bind fun ρ => _) = turn
  have key : ∀ (l : List α), (∀ x ∈ l, ev c t ((ρ.put i (.val (g1 x))).put j (.val (g2 x))) = some (.v (.bl (p x)), (ρ.put i (.val (g1 x))).put j (.val (g2 x)))) → (∀ x ∈ l, p x = true → ev c elt ((ρ.put i (.val (g1 x))).put j (.val (g2 x))) = some (.v (f x), (ρ.put i (.val (g1 x))).put j (.val (g2 x)))) →
      ∀ ρ1 : Env, (ρ1.put j .un).put i .un = (ρ.put j .un).put i .un → ∃ ρ2, compL turn (l.map fun x => .tup [g1 x, g2 x]) ρ1 = some ((l.filter p).map f, ρ2) ∧ (ρ2.put j .un).put i .un = (ρ.put j .un).put i .un := by
    intro l
    induction l with
    | nil => intro _ _ ρ1 e; exact ⟨ρ1, rfl, e⟩
    | cons x xs ih =>
      intro ht' h ρ1 e
      have ew : ((ρ1.wipe [i, j]).put i (.val (g1 x))).put j (.val (g2 x)) = (ρ.put i (.val (g1 x))).put j (.val (g2 x)) := by
        show ((((ρ1.put j .un).put i .un).put i (.val (g1 x))).put j (.val (g2 x))) = _
        rw [e, put_put, put_comm (fun q => hij q.symm), put_put]
      have ej : ((((ρ.put i (.val (g1 x))).put j (.val (g2 x))).put j .un).put i .un) = (ρ.put j .un).put i .un := by
        rw [put_put, put_comm hij, put_put]
      have e1 : turn (.tup [g1 x, g2 x]) ρ1 = some (if p x then [f x] else [], (ρ.put i (.val (g1 x))).put j (.val (g2 x))) := by
        subst htn
        show Option.bind (some (((ρ1.wipe [i, j]).put i (.val (g1 x))).put j (.val (g2 x)))) _ = _
        rw [ew]
        simp only [Option.bind_some, evIfs, ht' x List.mem_cons_self, tstR_some', at_v, ob_some, tru]
        cases hp : p x with
        | true => simp only [h x List.mem_cons_self hp, Option.bind_some, Hd.val]; rfl
        | false => rfl
      obtain ⟨ρ2, r1, r2⟩ := ih (fun y hy => ht' y (List.mem_cons_of_mem _ hy)) (fun y hy => h y (List.mem_cons_of_mem _ hy)) _ ej
      refine ⟨ρ2, ?_, r2⟩
      simp only [List.map_cons, compL, e1, Option.bind_eq_bind, Option.bind_some, r1]
      rw [List.filter_cons]
      cases p x <;> rfl
  obtain ⟨ρ2, e2, e3⟩ := key l ht h (ρ.wipe [i, j]) (by
      show (((ρ.put j .un).put i .un).put j .un).put i .un = _
      rw [put_comm (ρ := ρ.put j .un) hij, put_put, put_put])
  rw [e2]
  simp only [Option.bind_some]
  rw [rest2 hij e3]
theorem sum_int {α : Type} (f : α → Nat) : ∀ l : List α, (l.map fun x => ((f x : Nat) : Int)).sum = (((l.map f).sum : Nat) : Int)
  | [] => rfl
  | x :: xs => by rw [List.map_cons, List.sum_cons, sum_int f xs, List.map_cons, List.sum_cons, Int.natCast_add]
theorem sum_ok {α : Type} {c : Call} {cc : E} {l : List α} {f : α → Nat} {ρ ρ1 : Env} (h : ev c cc ρ = some (.v (.lst (l.map fun x => nD (f x))), ρ1)) : ev c (.bi .sum (.cons cc .nil)) ρ = some (.v (nD (l.map f).sum), ρ1) := by
  have e : intL (l.map fun x => nD (f x)) = some (l.map fun x => ((f x : Nat) : Int)) := intL_mapf _ l
  have e2 := sum_int f l
  simp (config := { implicitDefEqProofs := false }) only [entry, exs, exS, ev, evs, evO, evIfs, evIt, evT, tstR_some', tru, at_v, at_p, val_v, atL, valL, get_mk, put_mk, ob_some, ob_none, isTy, op2, dIs, leave, bfn, seqOf_lst, seqOf_tup, srcOf_lst, srcOf_tup, setTg1, setTg2, setTg3, and_self, and_true, true_and, newPut, isOwn, List.map_cons, List.map_nil, List.length_cons, List.length_nil, List.cons_append, List.nil_append, List.getD_cons_zero, List.getD_cons_succ, List.set_cons_zero, List.set_cons_succ, List.replicate_succ, List.replicate_zero, Nat.reduceSub, Nat.reduceAdd, Option.map_some, Option.map_none, Option.some_or, beq_self_eq_true, Bool.true_eq_false, Bool.false_eq_true, Bool.not_true, Bool.not_false, Bool.not_eq_true', if_true, if_false, h, e, e2]
theorem chain_le {c : Call} {a e f : E} {ρ : Env} {x y z : Int} (h1 : ev c a ρ = some (.v (.int x), ρ)) (h2 : ev c e ρ = some (.v (.int y), ρ)) (h3 : ev c f ρ = some (.v (.int z), ρ)) : ev c (.chain .le .le a e f) ρ = some (.v (.bl (decide (x ≤ y) && decide (y ≤ z))), ρ) := by
  have e1 : dLe (.int x) (.int y) = some (decide (x ≤ y)) := rfl
  have e2 : dLe (.int y) (.int z) = some (decide (y ≤ z)) := rfl
  by_cases q : x ≤ y
  · rw [decide_eq_true q] at e1 ⊢
    simp (config := { implicitDefEqProofs := false }) only [entry, exs, exS, ev, evs, evO, evIfs, evIt, evT, tstR_some', tru, at_v, at_p, val_v, atL, valL, get_mk, put_mk, ob_some, ob_none, isTy, op2, dIs, leave, bfn, seqOf_lst, seqOf_tup, srcOf_lst, srcOf_tup, setTg1, setTg2, setTg3, and_self, and_true, true_and, newPut, isOwn, List.map_cons, List.map_nil, List.length_cons, List.length_nil, List.cons_append, List.nil_append, List.getD_cons_zero, List.getD_cons_succ, List.set_cons_zero, List.set_cons_succ, List.replicate_succ, List.replicate_zero, Nat.reduceSub, Nat.reduceAdd, Option.map_some, Option.map_none, Option.some_or, beq_self_eq_true, Bool.true_eq_false, Bool.false_eq_true, Bool.not_true, Bool.not_false, Bool.not_eq_true', if_true, if_false, h1, h2, h3, e1, e2, Bool.true_and]
  · rw [decide_eq_false q] at e1 ⊢
    simp (config := { implicitDefEqProofs := false }) only [entry, exs, exS, ev, evs, evO, evIfs, evIt, evT, tstR_some', tru, at_v, at_p, val_v, atL, valL, get_mk, put_mk, ob_some, ob_none, isTy, op2, dIs, leave, bfn, seqOf_lst, seqOf_tup, srcOf_lst, srcOf_tup, setTg1, setTg2, setTg3, and_self, and_true, true_and, newPut, isOwn, List.map_cons, List.map_nil, List.length_cons, List.length_nil, List.cons_append, List.nil_append, List.getD_cons_zero, List.getD_cons_succ, List.set_cons_zero, List.set_cons_succ, List.replicate_succ, List.replicate_zero, Nat.reduceSub, Nat.reduceAdd, Option.map_some, Option.map_none, Option.some_or, beq_self_eq_true, Bool.true_eq_false, Bool.false_eq_true, Bool.not_true, Bool.not_false, Bool.not_eq_true', if_true, if_false, h1, h2, h3, e1, Bool.false_and]
theorem rng_of {c : Call} {e : E} {ρ ρ1 : Env} {n : Nat} {k : Int} (h : ev c e ρ = some (.v (.int k), ρ1)) (hk : k = (n : Int)) (hn : n ≤ 1000000) : evIt c (.rng1 e) ρ = some (.vals ((List.range n).map nD), ρ1) := by
  subst hk
  exact rng_ok h hn
theorem max_ints {c : Call} {cc : E} {ρ ρ1 : Env} {l : List Int} {M : Int} (h : ev c cc ρ = some (.v (.lst (l.map D.int)), ρ1)) (hM : maxI l = some M) : ev c (.bi .max (.cons cc .nil)) ρ = some (.v (.int M), ρ1) := by
  have e : intL (l.map D.int) = some l := by
    have := intL_mapf (fun i : Int => i) l
    rw [List.map_id'] at this
    exact this
  simp (config := { implicitDefEqProofs := false }) only [entry, exs, exS, ev, evs, evO, evIfs, evIt, evT, tstR_some', tru, at_v, at_p, val_v, atL, valL, get_mk, put_mk, ob_some, ob_none, isTy, op2, dIs, leave, bfn, seqOf_lst, seqOf_tup, srcOf_lst, srcOf_tup, setTg1, setTg2, setTg3, and_self, and_true, true_and, newPut, isOwn, List.map_cons, List.map_nil, List.length_cons, List.length_nil, List.cons_append, List.nil_append, List.getD_cons_zero, List.getD_cons_succ, List.set_cons_zero, List.set_cons_succ, List.replicate_succ, List.replicate_zero, Nat.reduceSub, Nat.reduceAdd, Option.map_some, Option.map_none, Option.some_or, beq_self_eq_true, Bool.true_eq_false, Bool.false_eq_true, Bool.not_true, Bool.not_false, Bool.not_eq_true', if_true, if_false, h, e, Option.bind_some, hM]
/-! ### a pair whose first is a tuple -/
abbrev shE (i : Nat) (X : E) : E := .or (.not (.isi .tuple (.var i))) (.or (.op .ne (.bi .len (.cons (.var i) .nil)) (.kint 2)) (.or (.not (.isi .tuple (.ix (.var i) (.kint 0)))) X))
theorem shape {v : D} (h : sz 60 v = true) (i : Nat) : (∃ xs w, v = .tup [.tup xs, w]) ∨ ((∀ xs w, v ≠ .tup [.tup xs, w]) ∧ ∀ (c : Call) (ρ : Env) (X : E), ρ.get i = .val v → ev c (shE i X) ρ = some (.v (.bl true), ρ)) := by
  cases v with
  | tup ys =>
    by_cases hl : ys.length = 2
    · match ys, hl with
      | [x, w], _ =>
        cases x with
        | tup xs => exact .inl ⟨xs, w, rfl⟩
        | box =>
          have := (sz_tup.mp h).2 .box (by simp)
          cases this
        | _ =>
          refine .inr ⟨(fun _ _ e => by cases e), fun c ρ X hg => ?_⟩
          have e2 : dEq (.int ((0 + 1 + 1 : Nat) : Int)) (.int 2) = some true := rfl
          have a : ∀ d : D, atI [d, w] 0 = some d := fun d => rfl
          unfold shE
          simp (config := { implicitDefEqProofs := false }) only [entry, exs, exS, ev, evs, evO, evIfs, evIt, evT, tstR_some', tru, at_v, at_p, val_v, atL, valL, get_mk, put_mk, ob_some, ob_none, isTy, op2, dIs, leave, bfn, seqOf_lst, seqOf_tup, srcOf_lst, srcOf_tup, setTg1, setTg2, setTg3, and_self, and_true, true_and, newPut, isOwn, List.map_cons, List.map_nil, List.length_cons, List.length_nil, List.cons_append, List.nil_append, List.getD_cons_zero, List.getD_cons_succ, List.set_cons_zero, List.set_cons_succ, List.replicate_succ, List.replicate_zero, Nat.reduceSub, Nat.reduceAdd, Option.map_some, Option.map_none, Option.some_or, beq_self_eq_true, Bool.true_eq_false, Bool.false_eq_true, Bool.not_true, Bool.not_false, Bool.not_eq_true', if_true, if_false, hg, dEq_int, dIx, a]
          first | rfl | simp
    · refine .inr ⟨(fun _ _ e => by cases e; exact hl rfl), fun c ρ X hg => ?_⟩
      have e2 : dEq (.int (ys.length : Int)) (.int 2) = some false := by
        rw [dEq_int]
        congr 1
        rw [beq_eq_false_iff_ne]
        omega
      unfold shE
      simp (config := { implicitDefEqProofs := false }) only [entry, exs, exS, ev, evs, evO, evIfs, evIt, evT, tstR_some', tru, at_v, at_p, val_v, atL, valL, get_mk, put_mk, ob_some, ob_none, isTy, op2, dIs, leave, bfn, seqOf_lst, seqOf_tup, srcOf_lst, srcOf_tup, setTg1, setTg2, setTg3, and_self, and_true, true_and, newPut, isOwn, List.map_cons, List.map_nil, List.length_cons, List.length_nil, List.cons_append, List.nil_append, List.getD_cons_zero, List.getD_cons_succ, List.set_cons_zero, List.set_cons_succ, List.replicate_succ, List.replicate_zero, Nat.reduceSub, Nat.reduceAdd, Option.map_some, Option.map_none, Option.some_or, beq_self_eq_true, Bool.true_eq_false, Bool.false_eq_true, Bool.not_true, Bool.not_false, Bool.not_eq_true', if_true, if_false, hg, e2]
  | box => cases h
  | _ =>
    refine .inr ⟨(fun _ _ e => by cases e), fun c ρ X hg => ?_⟩
    unfold shE
    simp (config := { implicitDefEqProofs := false }) only [entry, exs, exS, ev, evs, evO, evIfs, evIt, evT, tstR_some', tru, at_v, at_p, val_v, atL, valL, get_mk, put_mk, ob_some, ob_none, isTy, op2, dIs, leave, bfn, seqOf_lst, seqOf_tup, srcOf_lst, srcOf_tup, setTg1, setTg2, setTg3, and_self, and_true, true_and, newPut, isOwn, List.map_cons, List.map_nil, List.length_cons, List.length_nil, List.cons_append, List.nil_append, List.getD_cons_zero, List.getD_cons_succ, List.set_cons_zero, List.set_cons_succ, List.replicate_succ, List.replicate_zero, Nat.reduceSub, Nat.reduceAdd, Option.map_some, Option.map_none, Option.some_or, beq_self_eq_true, Bool.true_eq_false, Bool.false_eq_true, Bool.not_true, Bool.not_false, Bool.not_eq_true', if_true, if_false, hg]
theorem pair_sh {c : Call} {ρ : Env} {X : E} {xs : List D} {w : D} {q : Bool} {i : Nat} (hg : ρ.get i = .val (.tup [.tup xs, w])) (h : ev c X ρ = some (.v (.bl q), ρ)) : ev c (shE i X) ρ = some (.v (.bl q), ρ) := by
  have e2 : dEq (.int ((0 + 1 + 1 : Nat) : Int)) (.int 2) = some true := rfl
  have a : atI [D.tup xs, w] 0 = some (D.tup xs) := rfl
  have t1 : ev c (.not (.isi .tuple (.var i))) ρ = some (.v (.bl false), ρ) := by simp (config := { implicitDefEqProofs := false }) only [entry, exs, exS, ev, evs, evO, evIfs, evIt, evT, tstR_some', tru, at_v, at_p, val_v, atL, valL, get_mk, put_mk, ob_some, ob_none, isTy, op2, dIs, leave, bfn, seqOf_lst, seqOf_tup, srcOf_lst, srcOf_tup, setTg1, setTg2, setTg3, and_self, and_true, true_and, newPut, isOwn, List.map_cons, List.map_nil, List.length_cons, List.length_nil, List.cons_append, List.nil_append, List.getD_cons_zero, List.getD_cons_succ, List.set_cons_zero, List.set_cons_succ, List.replicate_succ, List.replicate_zero, Nat.reduceSub, Nat.reduceAdd, Option.map_some, Option.map_none, Option.some_or, beq_self_eq_true, Bool.true_eq_false, Bool.false_eq_true, Bool.not_true, Bool.not_false, Bool.not_eq_true', if_true, if_false, hg]
  have t2 : ev c (.op .ne (.bi .len (.cons (.var i) .nil)) (.kint 2)) ρ = some (.v (.bl false), ρ) := by
    simp (config := { implicitDefEqProofs := false }) only [entry, exs, exS, ev, evs, evO, evIfs, evIt, evT, tstR_some', tru, at_v, at_p, val_v, atL, valL, get_mk, put_mk, ob_some, ob_none, isTy, op2, dIs, leave, bfn, seqOf_lst, seqOf_tup, srcOf_lst, srcOf_tup, setTg1, setTg2, setTg3, and_self, and_true, true_and, newPut, isOwn, List.map_cons, List.map_nil, List.length_cons, List.length_nil, List.cons_append, List.nil_append, List.getD_cons_zero, List.getD_cons_succ, List.set_cons_zero, List.set_cons_succ, List.replicate_succ, List.replicate_zero, Nat.reduceSub, Nat.reduceAdd, Option.map_some, Option.map_none, Option.some_or, beq_self_eq_true, Bool.true_eq_false, Bool.false_eq_true, Bool.not_true, Bool.not_false, Bool.not_eq_true', if_true, if_false, hg, dEq_int]
    rfl
  have t3 : ev c (.not (.isi .tuple (.ix (.var i) (.kint 0)))) ρ = some (.v (.bl false), ρ) := by simp (config := { implicitDefEqProofs := false }) only [entry, exs, exS, ev, evs, evO, evIfs, evIt, evT, tstR_some', tru, at_v, at_p, val_v, atL, valL, get_mk, put_mk, ob_some, ob_none, isTy, op2, dIs, leave, bfn, seqOf_lst, seqOf_tup, srcOf_lst, srcOf_tup, setTg1, setTg2, setTg3, and_self, and_true, true_and, newPut, isOwn, List.map_cons, List.map_nil, List.length_cons, List.length_nil, List.cons_append, List.nil_append, List.getD_cons_zero, List.getD_cons_succ, List.set_cons_zero, List.set_cons_succ, List.replicate_succ, List.replicate_zero, Nat.reduceSub, Nat.reduceAdd, Option.map_some, Option.map_none, Option.some_or, beq_self_eq_true, Bool.true_eq_false, Bool.false_eq_true, Bool.not_true, Bool.not_false, Bool.not_eq_true', if_true, if_false, hg, dIx, a]
  have := or_ok t1 fun _ => or_ok t2 fun _ => or_ok t3 fun _ => h
  simpa using this
theorem ix0 {c : Call} {ρ : Env} {x w : D} {i : Nat} (hg : ρ.get i = .val (.tup [x, w])) : ev c (.ix (.var i) (.kint 0)) ρ = some (.v x, ρ) := by
  have a : atI [x, w] 0 = some x := rfl
  simp (config := { implicitDefEqProofs := false }) only [entry, exs, exS, ev, evs, evO, evIfs, evIt, evT, tstR_some', tru, at_v, at_p, val_v, atL, valL, get_mk, put_mk, ob_some, ob_none, isTy, op2, dIs, leave, bfn, seqOf_lst, seqOf_tup, srcOf_lst, srcOf_tup, setTg1, setTg2, setTg3, and_self, and_true, true_and, newPut, isOwn, List.map_cons, List.map_nil, List.length_cons, List.length_nil, List.cons_append, List.nil_append, List.getD_cons_zero, List.getD_cons_succ, List.set_cons_zero, List.set_cons_succ, List.replicate_succ, List.replicate_zero, Nat.reduceSub, Nat.reduceAdd, Option.map_some, Option.map_none, Option.some_or, beq_self_eq_true, Bool.true_eq_false, Bool.false_eq_true, Bool.not_true, Bool.not_false, Bool.not_eq_true', if_true, if_false, hg, dIx, a]
theorem ix1 {c : Call} {ρ : Env} {x w : D} {i : Nat} (hg : ρ.get i = .val (.tup [x, w])) : ev c (.ix (.var i) (.kint 1)) ρ = some (.v w, ρ) := by
  have a : atI [x, w] 1 = some w := rfl
  simp (config := { implicitDefEqProofs := false }) only [entry, exs, exS, ev, evs, evO, evIfs, evIt, evT, tstR_some', tru, at_v, at_p, val_v, atL, valL, get_mk, put_mk, ob_some, ob_none, isTy, op2, dIs, leave, bfn, seqOf_lst, seqOf_tup, srcOf_lst, srcOf_tup, setTg1, setTg2, setTg3, and_self, and_true, true_and, newPut, isOwn, List.map_cons, List.map_nil, List.length_cons, List.length_nil, List.cons_append, List.nil_append, List.getD_cons_zero, List.getD_cons_succ, List.set_cons_zero, List.set_cons_succ, List.replicate_succ, List.replicate_zero, Nat.reduceSub, Nat.reduceAdd, Option.map_some, Option.map_none, Option.some_or, beq_self_eq_true, Bool.true_eq_false, Bool.false_eq_true, Bool.not_true, Bool.not_false, Bool.not_eq_true', if_true, if_false, hg, dIx, a]
theorem pair_facts {xs : List D} {w : D} (h : GoodV (.tup [.tup xs, w])) : xs.length ≤ 60 ∧ D.simL xs = true ∧ D.plL xs = true ∧ D.depL xs ≤ 60 ∧ w.sim = true := by
  have h1 := (sz_tup.mp h.sz).2
  have h2 := sz_tup.mp (h1 (.tup xs) (by simp))
  have hd : max (D.depL xs + 1) (max w.dep 0) + 1 ≤ 30 := h.dep
  exact ⟨h2.1, szL_sim (by decide) (szL_iff.mpr h2.2), szL_pl (szL_iff.mpr h2.2), by omega, sz_sim (by decide) (h1 w (by simp))⟩
theorem le_len {c : Call} {ρ : Env} {cc k : E} {xs : List D} {n : Nat} (h : ev c cc ρ = some (.v (.tup xs), ρ)) (hk : ev c k ρ = some (.v (nD n), ρ)) : ev c (.op .lt (.bi .len (.cons cc .nil)) k) ρ = some (.v (.bl (decide (xs.length < n))), ρ) := by
  have e := lt_nat xs.length n
  simp (config := { implicitDefEqProofs := false }) only [entry, exs, exS, ev, evs, evO, evIfs, evIt, evT, tstR_some', tru, at_v, at_p, val_v, atL, valL, get_mk, put_mk, ob_some, ob_none, isTy, op2, dIs, leave, bfn, seqOf_lst, seqOf_tup, srcOf_lst, srcOf_tup, setTg1, setTg2, setTg3, and_self, and_true, true_and, newPut, isOwn, List.map_cons, List.map_nil, List.length_cons, List.length_nil, List.cons_append, List.nil_append, List.getD_cons_zero, List.getD_cons_succ, List.set_cons_zero, List.set_cons_succ, List.replicate_succ, List.replicate_zero, Nat.reduceSub, Nat.reduceAdd, Option.map_some, Option.map_none, Option.some_or, beq_self_eq_true, Bool.true_eq_false, Bool.false_eq_true, Bool.not_true, Bool.not_false, Bool.not_eq_true', if_true, if_false, h, hk, dLt, e]
/-! ### no tuple -/
theorem not_tup {c : Call} {ρ : Env} {v : D} {i : Nat} {X : E} (hg : ρ.get i = .val v) (h : ∀ xs, v ≠ .tup xs) (hs : v.sim = true) : ev c (.or (.not (.isi .tuple (.var i))) X) ρ = some (.v (.bl true), ρ) := by
  cases v with
  | tup xs => exact absurd rfl (h xs)
  | box => cases hs
  | _ => simp (config := { implicitDefEqProofs := false }) only [entry, exs, exS, ev, evs, evO, evIfs, evIt, evT, tstR_some', tru, at_v, at_p, val_v, atL, valL, get_mk, put_mk, ob_some, ob_none, isTy, op2, dIs, leave, bfn, seqOf_lst, seqOf_tup, srcOf_lst, srcOf_tup, setTg1, setTg2, setTg3, and_self, and_true, true_and, newPut, isOwn, List.map_cons, List.map_nil, List.length_cons, List.length_nil, List.cons_append, List.nil_append, List.getD_cons_zero, List.getD_cons_succ, List.set_cons_zero, List.set_cons_succ, List.replicate_succ, List.replicate_zero, Nat.reduceSub, Nat.reduceAdd, Option.map_some, Option.map_none, Option.some_or, beq_self_eq_true, Bool.true_eq_false, Bool.false_eq_true, Bool.not_true, Bool.not_false, Bool.not_eq_true', if_true, if_false, hg]
theorem not_tupA {c : Call} {ρ : Env} {v : D} {i : Nat} {X : E} (hg : ρ.get i = .val v) (h : ∀ xs, v ≠ .tup xs) (hs : v.sim = true) : ev c (.and (.isi .tuple (.var i)) X) ρ = some (.v (.bl false), ρ) := by
  cases v with
  | tup xs => exact absurd rfl (h xs)
  | box => cases hs
  | _ => simp (config := { implicitDefEqProofs := false }) only [entry, exs, exS, ev, evs, evO, evIfs, evIt, evT, tstR_some', tru, at_v, at_p, val_v, atL, valL, get_mk, put_mk, ob_some, ob_none, isTy, op2, dIs, leave, bfn, seqOf_lst, seqOf_tup, srcOf_lst, srcOf_tup, setTg1, setTg2, setTg3, and_self, and_true, true_and, newPut, isOwn, List.map_cons, List.map_nil, List.length_cons, List.length_nil, List.cons_append, List.nil_append, List.getD_cons_zero, List.getD_cons_succ, List.set_cons_zero, List.set_cons_succ, List.replicate_succ, List.replicate_zero, Nat.reduceSub, Nat.reduceAdd, Option.map_some, Option.map_none, Option.some_or, beq_self_eq_true, Bool.true_eq_false, Bool.false_eq_true, Bool.not_true, Bool.not_false, Bool.not_eq_true', if_true, if_false, hg]
theorem is_tup {c : Call} {ρ : Env} {xs : List D} {i : Nat} (hg : ρ.get i = .val (.tup xs)) : ev c (.isi .tuple (.var i)) ρ = some (.v (.bl true), ρ) := by
  simp (config := { implicitDefEqProofs := false }) only [entry, exs, exS, ev, evs, evO, evIfs, evIt, evT, tstR_some', tru, at_v, at_p, val_v, atL, valL, get_mk, put_mk, ob_some, ob_none, isTy, op2, dIs, leave, bfn, seqOf_lst, seqOf_tup, srcOf_lst, srcOf_tup, setTg1, setTg2, setTg3, and_self, and_true, true_and, newPut, isOwn, List.map_cons, List.map_nil, List.length_cons, List.length_nil, List.cons_append, List.nil_append, List.getD_cons_zero, List.getD_cons_succ, List.set_cons_zero, List.set_cons_succ, List.replicate_succ, List.replicate_zero, Nat.reduceSub, Nat.reduceAdd, Option.map_some, Option.map_none, Option.some_or, beq_self_eq_true, Bool.true_eq_false, Bool.false_eq_true, Bool.not_true, Bool.not_false, Bool.not_eq_true', if_true, if_false, hg]
theorem tup_or (v : D) : (∃ xs, v = .tup xs) ∨ ∀ xs, v ≠ .tup xs := by
  cases v with
  | tup xs => exact .inl ⟨xs, rfl⟩
  | _ => exact .inr fun _ e => by cases e
theorem forL_findG {α : Type} {turn : D → Env → Option (Fl × Env)} {g : α → D} {p : α → Bool} {I : Env → Prop} : ∀ (l : List α) (ρ : Env), I ρ → (∀ x ∈ l, ∀ ρ, I ρ → ∃ ρ', turn (g x) ρ = some (if p x then .ret (g x) else .next, ρ') ∧ I ρ') →
    ∃ ρ', forL turn (l.map g) ρ = some (match l.find? p with | some x => .ret (g x) | none => .next, ρ') ∧ I ρ'
  | [], ρ, h, _ => ⟨ρ, rfl, h⟩
  | x :: xs, ρ, h, ht => by
    obtain ⟨ρ1, e, h1⟩ := ht x List.mem_cons_self ρ h
    cases q : p x with
    | true =>
      rw [q, if_pos rfl] at e
      refine ⟨ρ1, ?_, h1⟩
      rw [List.find?_cons_of_pos q]
      simp only [List.map_cons, forL, e, Option.bind_eq_bind, Option.bind_some]
    | false =>
      rw [q, if_neg Bool.false_ne_true] at e
      obtain ⟨ρ2, e2, h2⟩ := forL_findG xs ρ1 h1 fun y hy => ht y (List.mem_cons_of_mem _ hy)
      refine ⟨ρ2, ?_, h2⟩
      rw [List.find?_cons_of_neg (by rw [q]; exact Bool.false_ne_true)]
      simp only [List.map_cons, forL, e, Option.bind_eq_bind, Option.bind_some, e2]
end PV

end
section
set_option Elab.async false
set_option linter.all false
set_option maxRecDepth 100000
set_option maxHeartbeats 4000000
/-! EG: constant tuples of texts; a hook that looks at them. -/
namespace PV
open PySem PySem.Spec PyProof.Rows L2
def tupF (K : PySem.W.Frag) (p : PySem.Str × List PySem.Str) : Bool := match PySem.W.nsIn K mainGlobals p.1 with
  | some (some (.ref a)) => (match K.lookup a with
    | some ⟨.type c, none, .seq its _, _⟩ => decide (c = "tuple") && (decide (its.size ≤ sizeLine) && He.relAll (p.2.map V.str) its.toList)
    | _ => false)
  | _ => false
theorem repL_strs {g : G} {H : Hp} : ∀ zs : List PySem.Str, RepL g H (zs.map V.str) (zs.map D.str)
  | [] => .nil
  | z :: zs => .cons (.str z) (repL_strs zs)
theorem tupF_ok {K : PySem.W.Frag} {h : Heap} {mg : PySem.Str → Option Value} (X : K.In h) (Gn : h.Ns mainGlobals mg) {x : PySem.Str} {zs : List PySem.Str} (c : tupF K (x, zs) = true) : ∃ a, mg x = some (.ref a) ∧ ∀ g : PV.G, g.K = K → ∀ H, Rep g H (.ref a) (.tup (zs.map D.str)) := by
  unfold tupF at c
  simp only at c
  split at c
  · rename_i a ea
    refine ⟨a, PySem.W.mg_of X Gn ea, fun g hg H => ?_⟩
    split at c
    · rename_i cl its n sl eo
      simp only [Bool.and_eq_true, decide_eq_true_eq] at c
      obtain ⟨c1, c2, c3⟩ := c
      subst hg
      exact .tup ⟨.inr ⟨_, its, n, eo, congrArg Value.type c1, rfl, c2, He.relAll_ok c3⟩, .inr ⟨_, eo, congrArg Value.type c1, rfl⟩⟩ (repL_strs zs)
    · cases c
  · cases c
def obsT (n : Nat) (fa : List He.Fa) (fn : List He.DefD) (ts : List (PySem.Str × List PySem.Str)) (g : Addr → Option Obj) : He.AlD × Bool :=
  (He.obsDG n fa fn g, ts.all (tupF (He.frG g (He.asD g n))))
def hookT (n : Nat) (fa : List He.Fa) (fn : List He.DefD) (ts : List (PySem.Str × List PySem.Str)) : PySem.W.Hook where
  α := He.AlD × Bool
  obs := fun s => obsT n fa fn ts s.heap.get?
  val := fun _ => (He.valD fn, true)
  says := fun _ h => ∃ K : PySem.W.Frag, K.In h ∧ He.SaysD fa fn K ∧ ts.all (tupF K) = true
  of := fun _ _ e => ⟨_, He.frG_in, congrArg (fun z : He.AlD × Bool => z.1) e, congrArg (fun z : He.AlD × Bool => z.2) e⟩
  keeps := fun _ _ _ ⟨K, hK, c, d⟩ k => ⟨K, PySem.W.Frag.In.keeps hK k, c, d⟩
theorem obsT_eq {n : Nat} {fa : List He.Fa} {fn : List He.DefD} {ts : List (PySem.Str × List PySem.Str)} {g : Addr → Option Obj} {s : Shared} (h : ∀ a, g a = s.heap.get? a) : obsT n fa fn ts g = (hookT n fa fn ts).obs s := by
  have e : g = s.heap.get? := funext h
  rw [e] <;> rfl
end PV

end
section
set_option Elab.async false
set_option linter.all false
set_option maxRecDepth 100000
set_option maxHeartbeats 4000000

namespace K21
open PySem PySem.Spec PyProof.Rows L2 PV
def top (i : Nat) : Stmt := PySem.Challenge.pw_booksswapped_k21_whole_nested_sayings.main.body.getD i (.Pass ⟨0, 0, 0, 0⟩)
def b_is_inside : Ss :=
  (.cons (.ret (.and (.op .lt (.bi .len (.cons (.var 0) .nil)) (.bi .len (.cons (.var 1) .nil))) (.bi .all (.cons (.comp [2] (.of (.var 0)) .nil (.op .isin (.var 2) (.var 1))) .nil))))
  .nil)
def fi_is_inside : FI := ⟨"is_inside", 2, ["one", "other", "book"], top 1, b_is_inside⟩
def b_are_nested_sayings : Ss :=
  (.cons (.asg 1 (.comp [5, 6] (.of (.var 0)) .nil (.var 5)))
  (.cons (.for_ [2, 3] (.enum (.var 1)) (.cons (.for_ [4] (.of (.sl (.var 1) (.cons (.op .add (.var 2) (.kint 1)) .nil) .nil)) (.cons (.ite (.and (.not (.call 1 (.cons (.var 3) (.cons (.var 4) .nil)))) (.and (.not (.call 1 (.cons (.var 4) (.cons (.var 3) .nil)))) (.bi .any (.cons (.comp [7] (.of (.var 3)) .nil (.op .isin (.var 7) (.var 4))) .nil)))) (.cons (.ret (.kbl false))
        .nil) .nil)
      .nil))
    .nil))
  (.cons (.ret (.kbl true))
  .nil)))
def fi_are_nested_sayings : FI := ⟨"are_nested_sayings", 1, ["sayings", "rows", "k", "one", "other", "books", "_", "book"], top 2, b_are_nested_sayings⟩
def b_next_within : Ss :=
  (.cons (.asg 2 (.comp [5, 6] (.of (.var 0)) .nil (.var 5)))
  (.cons (.asg 3 (.comp [4] (.rng1 (.bi .len (.cons (.var 2) .nil))) (.cons (.call 1 (.cons (.ix (.var 2) (.var 4)) (.cons (.ix (.var 2) (.var 1)) .nil))) .nil) (.var 4)))
  (.cons (.ret (.bi .tuple (.cons (.comp [4] (.of (.var 3)) (.cons (.not (.bi .any (.cons (.comp [7] (.of (.var 3)) .nil (.call 1 (.cons (.ix (.var 2) (.var 4)) (.cons (.ix (.var 2) (.var 7)) .nil)))) .nil))) .nil) (.var 4)) .nil)))
  .nil)))
def fi_next_within : FI := ⟨"next_within", 2, ["sayings", "k", "rows", "inside", "j", "books", "_", "i"], top 3, b_next_within⟩
def b_own_books : Ss :=
  (.cons (.asg 2 (.call 3 (.cons (.var 0) (.cons (.var 1) .nil))))
  (.cons (.ret (.bi .tuple (.cons (.comp [3] (.of (.ix (.ix (.var 0) (.var 1)) (.kint 0))) (.cons (.not (.bi .any (.cons (.comp [4] (.of (.var 2)) .nil (.op .isin (.var 3) (.ix (.ix (.var 0) (.var 4)) (.kint 0)))) .nil))) .nil) (.var 3)) .nil)))
  .nil))
def fi_own_books : FI := ⟨"own_books", 2, ["sayings", "k", "within", "book", "j"], top 4, b_own_books⟩
def b_own_many : Ss :=
  (.cons (.ret (.op .sub (.ix (.ix (.var 0) (.var 1)) (.kint 1)) (.bi .sum (.cons (.comp [2] (.of (.call 3 (.cons (.var 0) (.cons (.var 1) .nil)))) .nil (.ix (.ix (.var 0) (.var 2)) (.kint 1))) .nil))))
  .nil)
def fi_own_many : FI := ⟨"own_many", 2, ["sayings", "k", "j"], top 5, b_own_many⟩
def b_bad_saying : Ss :=
  (.cons (.for_ [1] (.rng1 (.bi .len (.cons (.var 0) .nil))) (.cons (.ite (.not (.chain .le .le (.kint 0) (.call 5 (.cons (.var 0) (.cons (.var 1) .nil))) (.bi .len (.cons (.call 4 (.cons (.var 0) (.cons (.var 1) .nil))) .nil)))) (.cons (.ret (.var 1))
      .nil) .nil)
    .nil))
  (.cons (.ret (.knon))
  .nil))
def fi_bad_saying : FI := ⟨"bad_saying", 1, ["sayings", "k"], top 6, b_bad_saying⟩
def b_nested_list : Ss :=
  (.cons (.ite (.op .isnot (.call 6 (.cons (.var 1) .nil)) (.knon)) (.cons (.ret (.knon))
    .nil) .nil)
  (.cons (.par 4 true (.lst .nil) 5 false (.comp [8] (.rng1 (.bi .len (.cons (.var 1) .nil))) .nil (.tup (.cons (.call 4 (.cons (.var 1) (.cons (.var 8) .nil))) (.cons (.call 5 (.cons (.var 1) (.cons (.var 8) .nil))) .nil)))))
  (.cons (.for_ [2] (.rng1 (.var 0)) (.cons (.for_ [6, 7] (.of (.var 5)) (.cons (.ite (.and (.op .isin (.var 2) (.var 6)) (.op .lt (.bi .len (.cons (.comp [9] (.of (.pk 4)) (.cons (.op .isin (.var 9) (.var 6)) .nil) (.kint 1)) .nil)) (.var 7))) (.cons (.app 4 (.var 2))
        .nil) .nil)
      .nil))
    .nil))
  (.cons (.asg 3 (.comp [2] (.rng1 (.var 0)) (.cons (.not (.bi .any (.cons (.comp [6, 10] (.of (.var 1)) .nil (.op .isin (.var 2) (.var 6))) .nil))) .nil) (.var 2)))
  (.cons (.frz 4)
  (.cons (.ret (.call 8 (.cons (.var 4) (.cons (.var 3) .nil))))
  .nil))))))
def fi_nested_list : FI := ⟨"nested_list", 2, ["m", "sayings", "book", "free", "found", "rooms", "books", "many", "k", "one", "_"], top 7, b_nested_list⟩
def b_first_with_free : Ss :=
  (.cons (.asg 2 (.ite (.var 0) (.bi .max (.cons (.var 0) .nil)) (.neg (.kint 1))))
  (.cons (.ret (.bi .tuple (.cons (.bi .sorted (.cons (.op .add (.var 0) (.comp [3] (.of (.var 1)) (.cons (.op .lt (.var 3) (.var 2)) .nil) (.var 3))) .nil)) .nil)))
  .nil))
def fi_first_with_free : FI := ⟨"first_with_free", 2, ["found", "free", "last", "book"], top 8, b_first_with_free⟩
def b_count_nested : Ss :=
  (.cons (.ite (.op .isnot (.call 6 (.cons (.var 1) .nil)) (.knon)) (.cons (.ret (.kint 0))
    .nil) .nil)
  (.cons (.asg 2 (.kint 1))
  (.cons (.for_ [3] (.rng1 (.bi .len (.cons (.var 1) .nil))) (.cons (.par 6 false (.call 5 (.cons (.var 1) (.cons (.var 3) .nil))) 7 false (.bi .len (.cons (.call 4 (.cons (.var 1) (.cons (.var 3) .nil))) .nil)))
    (.cons (.for_ [5] (.rng1 (.var 6)) (.cons (.asg 2 (.op .mul (.var 2) (.op .sub (.var 7) (.var 5))))
      .nil))
    (.cons (.for_ [5] (.rng1 (.var 6)) (.cons (.asg 2 (.op .fdiv (.var 2) (.op .add (.var 5) (.kint 1))))
      .nil))
    .nil))))
  (.cons (.for_ [4] (.rng1 (.var 0)) (.cons (.asg 2 (.op .mul (.var 2) (.ite (.bi .any (.cons (.comp [8, 9] (.of (.var 1)) .nil (.op .isin (.var 4) (.var 8))) .nil)) (.kint 1) (.kint 2))))
    .nil))
  (.cons (.ret (.var 2))
  .nil)))))
def fi_count_nested : FI := ⟨"count_nested", 2, ["m", "sayings", "found", "k", "book", "i", "many", "rest", "books", "_"], top 9, b_count_nested⟩
def b_is_number : Ss :=
  (.cons (.ret (.and (.isi .int (.var 0)) (.and (.not (.isi .bool (.var 0))) (.chain .le .le (.var 1) (.var 0) (.var 2)))))
  .nil)
def fi_is_number : FI := ⟨"is_number", 3, ["value", "least", "most"], top 11, b_is_number⟩
def b_is_ascending : Ss :=
  (.cons (.ret (.bi .all (.cons (.comp [1] (.rng1 (.op .sub (.bi .len (.cons (.var 0) .nil)) (.kint 1))) .nil (.op .lt (.ix (.var 0) (.var 1)) (.ix (.var 0) (.op .add (.var 1) (.kint 1))))) .nil)))
  .nil)
def fi_is_ascending : FI := ⟨"is_ascending", 1, ["rows", "k"], top 12, b_is_ascending⟩
def b_is_saying : Ss :=
  (.cons (.ite (.or (.not (.isi .tuple (.var 1))) (.or (.op .ne (.bi .len (.cons (.var 1) .nil)) (.kint 2)) (.or (.not (.isi .tuple (.ix (.var 1) (.kint 0)))) (.op .eq (.ix (.var 1) (.kint 0)) (.tup .nil))))) (.cons (.ret (.kbl false))
    .nil) .nil)
  (.cons (.ite (.or (.not (.bi .all (.cons (.comp [2] (.of (.ix (.var 1) (.kint 0))) .nil (.call 10 (.cons (.var 2) (.cons (.kint 0) (.cons (.op .sub (.var 0) (.kint 1)) .nil))))) .nil))) (.not (.call 11 (.cons (.ix (.var 1) (.kint 0)) .nil)))) (.cons (.ret (.kbl false))
    .nil) .nil)
  (.cons (.ret (.call 10 (.cons (.ix (.var 1) (.kint 1)) (.cons (.kint 0) (.cons (.bi .len (.cons (.ix (.var 1) (.kint 0)) .nil)) .nil)))))
  .nil)))
def fi_is_saying : FI := ⟨"is_saying", 2, ["m", "value", "book"], top 15, b_is_saying⟩
def b_are_sayings : Ss :=
  (.cons (.ret (.and (.isi .tuple (.var 1)) (.and (.op .le (.bi .len (.cons (.var 1) .nil)) (.gl "MOST_SAYINGS" (.int 10))) (.bi .all (.cons (.comp [2] (.of (.var 1)) .nil (.call 12 (.cons (.var 0) (.cons (.var 2) .nil)))) .nil)))))
  .nil)
def fi_are_sayings : FI := ⟨"are_sayings", 2, ["m", "value", "one"], top 16, b_are_sayings⟩
def b__law_same : Ss :=
  (.cons (.ite (.or (.and (.isi .tuple (.var 0)) (.isi .tuple (.var 1))) (.and (.isi .list (.var 0)) (.isi .list (.var 1)))) (.cons (.ret (.and (.op .eq (.bi .len (.cons (.var 0) .nil)) (.bi .len (.cons (.var 1) .nil))) (.bi .all (.cons (.comp [2] (.rng1 (.bi .len (.cons (.var 0) .nil))) .nil (.call 14 (.cons (.ix (.var 0) (.var 2)) (.cons (.ix (.var 1) (.var 2)) .nil)))) .nil))))
    .nil) .nil)
  (.cons (.ite (.or (.isi .bool (.var 0)) (.isi .bool (.var 1))) (.cons (.ret (.and (.isi .bool (.var 0)) (.and (.isi .bool (.var 1)) (.op .eq (.var 0) (.var 1)))))
    .nil) .nil)
  (.cons (.ite (.or (.and (.isi .int (.var 0)) (.isi .int (.var 1))) (.and (.isi .str (.var 0)) (.isi .str (.var 1)))) (.cons (.ret (.op .eq (.var 0) (.var 1)))
    .nil) .nil)
  (.cons (.ret (.and (.op .is_ (.var 0) (.knon)) (.op .is_ (.var 1) (.knon))))
  .nil))))
def fi__law_same : FI := ⟨"_law_same", 2, ["a", "b", "k"], top 21, b__law_same⟩
def b__law_nests : Ss :=
  (.cons (.par 3 false (.lst (.cons (.rngl true (.kint 0) (.var 1)) .nil)) 4 true (.lst .nil))
  (.cons (.for_ [2] (.rng1 (.kint 6)) (.cons (.ite (.op .lt (.var 2) (.bi .len (.cons (.var 3) .nil))) (.cons (.asg 5 (.ix (.var 3) (.var 2)))
      (.cons (.ite (.op .gt (.call 0 (.cons (.var 0) (.cons (.kint 3) .nil))) (.kint 0)) (.cons (.app 4 (.tup (.cons (.var 5) (.cons (.call 0 (.cons (.var 0) (.cons (.op .add (.bi .len (.cons (.var 5) .nil)) (.kint 1)) .nil))) .nil))))
        .nil) .nil)
      (.cons (.asg 6 (.call 0 (.cons (.var 0) (.cons (.op .add (.bi .len (.cons (.var 5) .nil)) (.kint 1)) .nil))))
      (.cons (.asg 7 (.op .add (.var 6) (.ite (.op .eq (.call 0 (.cons (.var 0) (.cons (.kint 4) .nil))) (.kint 0)) (.kint 1) (.kint 0))))
      (.cons (.asg 3 (.op .add (.var 3) (.comp [8] (.of (.tup (.cons (.sl (.var 5) .nil (.cons (.var 6) .nil)) (.cons (.sl (.var 5) (.cons (.var 7) .nil) .nil) .nil)))) (.cons (.and (.op .ne (.var 8) (.tup .nil)) (.op .ne (.var 8) (.var 5))) .nil) (.var 8))))
      .nil))))) .nil)
    .nil))
  (.cons (.ret (.bi .tuple (.cons (.pk 4) .nil)))
  .nil)))
def fi__law_nests : FI := ⟨"_law_nests", 2, ["box", "m", "step", "rows", "found", "row", "cut", "gap", "part"], top 22, b__law_nests⟩
def b__law_sets : Ss :=
  (.cons (.asg 1 (.lst (.cons (.tup .nil) .nil)))
  (.cons (.for_ [2] (.rng1 (.var 0)) (.cons (.asg 1 (.op .add (.var 1) (.comp [3] (.of (.var 1)) .nil (.op .add (.var 3) (.tup (.cons (.var 2) .nil))))))
    .nil))
  (.cons (.ret (.bi .sorted (.cons (.var 1) .nil)))
  .nil)))
def fi__law_sets : FI := ⟨"_law_sets", 1, ["many", "rows", "k", "row"], top 23, b__law_sets⟩
def b__law_within : Ss :=
  (.cons (.ret (.and (.op .ne (.var 0) (.var 1)) (.bi .all (.cons (.comp [2] (.of (.var 0)) .nil (.op .isin (.var 2) (.var 1))) .nil))))
  .nil)
def fi__law_within : FI := ⟨"_law_within", 2, ["one", "other", "book"], top 24, b__law_within⟩
def b__law_are_nested : Ss :=
  (.cons (.for_ [1] (.rng1 (.bi .len (.cons (.var 0) .nil))) (.cons (.for_ [2] (.rng1 (.var 1)) (.cons (.asg 3 (.not (.bi .any (.cons (.comp [4] (.of (.ix (.var 0) (.var 1))) .nil (.op .isin (.var 4) (.ix (.var 0) (.var 2)))) .nil))))
      (.cons (.ite (.or (.op .eq (.ix (.var 0) (.var 1)) (.ix (.var 0) (.var 2))) (.and (.not (.var 3)) (.and (.not (.call 17 (.cons (.ix (.var 0) (.var 1)) (.cons (.ix (.var 0) (.var 2)) .nil)))) (.not (.call 17 (.cons (.ix (.var 0) (.var 2)) (.cons (.ix (.var 0) (.var 1)) .nil))))))) (.cons (.ret (.kbl false))
        .nil) .nil)
      .nil)))
    .nil))
  (.cons (.ret (.kbl true))
  .nil))
def fi__law_are_nested : FI := ⟨"_law_are_nested", 1, ["rows", "i", "j", "apart", "book"], top 25, b__law_are_nested⟩
def T : Tab := ⟨"_law_draw", [fi_is_inside, fi_are_nested_sayings, fi_next_within, fi_own_books, fi_own_many, fi_bad_saying, fi_nested_list, fi_first_with_free, fi_count_nested, fi_is_number, fi_is_ascending, fi_is_saying, fi_are_sayings, fi__law_same, fi__law_nests, fi__law_sets, fi__law_within, fi__law_are_nested], [("MOST_SAYINGS", .int 10)]⟩
def b_law : Ss :=
  (.cons (.for_ [2] (.rng1 (.kint 5)) (.cons (.asg 3 (.op .add (.kint 1) (.call 0 (.cons (.var 1) (.cons (.kint 8) .nil)))))
    (.cons (.asg 4 (.call 15 (.cons (.var 1) (.cons (.var 3) .nil))))
    (.cons (.asg 5 (.comp [8, 15] (.of (.var 4)) .nil (.var 8)))
    (.cons (.ite (.or (.op .isnot (.call 13 (.cons (.var 3) (.cons (.var 4) .nil))) (.kbl true)) (.not (.call 14 (.cons (.call 2 (.cons (.var 4) .nil)) (.cons (.call 18 (.cons (.var 5) .nil)) .nil))))) (.cons (.ret (.kbl false))
      .nil) .nil)
    (.cons (.new 6 (.lst .nil))
    (.cons (.for_ [7] (.rng1 (.call 0 (.cons (.var 1) (.cons (.kint 4) .nil)))) (.cons (.asg 8 (.bi .tuple (.cons (.srt (.comp [10] (.rng1 (.op .add (.kint 1) (.call 0 (.cons (.var 1) (.cons (.kint 3) .nil))))) .nil (.call 0 (.cons (.var 1) (.cons (.var 3) .nil))))) .nil)))
      (.cons (.app 6 (.tup (.cons (.var 8) (.cons (.call 0 (.cons (.var 1) (.cons (.op .add (.bi .len (.cons (.var 8) .nil)) (.kint 1)) .nil))) .nil))))
      .nil)))
    (.cons (.ite (.not (.call 14 (.cons (.call 2 (.cons (.bi .tuple (.cons (.pk 6) .nil)) .nil)) (.cons (.call 18 (.cons (.comp [8, 15] (.of (.pk 6)) .nil (.var 8)) .nil)) .nil)))) (.cons (.ret (.kbl false))
      .nil) .nil)
    (.cons (.ite (.call 18 (.cons (.var 5) .nil)) (.cons (.asg 9 (.lst .nil))
      (.cons (.for_ [10] (.rng1 (.bi .len (.cons (.var 5) .nil))) (.cons (.asg 12 (.comp [17] (.rng1 (.bi .len (.cons (.var 5) .nil))) (.cons (.call 17 (.cons (.ix (.var 5) (.var 17)) (.cons (.ix (.var 5) (.var 10)) .nil))) .nil) (.var 17)))
        (.cons (.asg 13 (.comp [17] (.of (.var 12)) (.cons (.not (.bi .any (.cons (.comp [19] (.of (.var 12)) .nil (.call 17 (.cons (.ix (.var 5) (.var 17)) (.cons (.ix (.var 5) (.var 19)) .nil)))) .nil))) .nil) (.var 17)))
        (.cons (.asg 14 (.bi .tuple (.cons (.comp [18] (.of (.ix (.var 5) (.var 10))) (.cons (.not (.bi .any (.cons (.comp [17] (.of (.var 13)) .nil (.op .isin (.var 18) (.ix (.var 5) (.var 17)))) .nil))) .nil) (.var 18)) .nil)))
        (.cons (.asg 15 (.op .sub (.ix (.ix (.var 4) (.var 10)) (.kint 1)) (.bi .sum (.cons (.comp [17] (.of (.var 13)) .nil (.ix (.ix (.var 4) (.var 17)) (.kint 1))) .nil))))
        (.cons (.ite (.not (.call 14 (.cons (.tup (.cons (.call 3 (.cons (.var 4) (.cons (.var 10) .nil))) (.cons (.call 4 (.cons (.var 4) (.cons (.var 10) .nil))) (.cons (.call 5 (.cons (.var 4) (.cons (.var 10) .nil))) .nil)))) (.cons (.tup (.cons (.bi .tuple (.cons (.var 13) .nil)) (.cons (.var 14) (.cons (.var 15) .nil)))) .nil)))) (.cons (.ret (.kbl false))
          .nil) .nil)
        (.cons (.asg 9 (.op .add (.var 9) (.ite (.or (.op .lt (.var 15) (.kint 0)) (.op .gt (.var 15) (.bi .len (.cons (.var 14) .nil)))) (.lst (.cons (.var 10) .nil)) (.lst .nil))))
        .nil)))))))
      (.cons (.asg 11 (.comp [16] (.of (.call 16 (.cons (.var 3) .nil))) (.cons (.not (.bi .any (.cons (.comp [8, 15] (.of (.var 4)) .nil (.op .ne (.bi .len (.cons (.comp [18] (.of (.var 8)) (.cons (.op .isin (.var 18) (.var 16)) .nil) (.var 18)) .nil)) (.var 15))) .nil))) .nil) (.var 16)))
      (.cons (.ite (.or (.not (.call 14 (.cons (.tup (.cons (.call 6 (.cons (.var 4) .nil)) (.cons (.call 9 (.cons (.var 3) (.cons (.var 4) .nil))) .nil))) (.cons (.tup (.cons (.ite (.op .ne (.var 9) (.lst .nil)) (.ix (.var 9) (.kint 0)) (.knon)) (.cons (.bi .len (.cons (.var 11) .nil)) .nil))) .nil)))) (.op .ne (.op .eq (.var 11) (.lst .nil)) (.op .ne (.var 9) (.lst .nil)))) (.cons (.ret (.kbl false))
        .nil) .nil)
      (.cons (.ite (.not (.call 14 (.cons (.call 7 (.cons (.var 3) (.cons (.var 4) .nil))) (.cons (.ite (.op .ne (.var 11) (.lst .nil)) (.ix (.var 11) (.kint 0)) (.knon)) .nil)))) (.cons (.ret (.kbl false))
        .nil) .nil)
      .nil))))) .nil)
    .nil)))))))))
  (.cons (.ret (.and (.op .eq (.call 7 (.cons (.kint 3) (.cons (.tup (.cons (.tup (.cons (.tup (.cons (.kint 0) (.cons (.kint 1) .nil))) (.cons (.kint 1) .nil))) (.cons (.tup (.cons (.tup (.cons (.kint 0) .nil)) (.cons (.kint 0) .nil))) .nil))) .nil))) (.tup (.cons (.kint 1) .nil))) (.op .eq (.call 9 (.cons (.kint 3) (.cons (.tup (.cons (.tup (.cons (.tup (.cons (.kint 0) (.cons (.kint 1) .nil))) (.cons (.kint 1) .nil))) .nil)) .nil))) (.kint 4))))
  .nil))
abbrev nLaw : List PySem.Str := ["script", "box", "turn", "m", "sayings", "rows", "drawn", "step", "books", "bad", "k", "good", "inside", "near", "own", "many", "row", "j", "book", "i"]
theorem ok_is_inside : fiOk T fi_is_inside = true := by decide +kernel
theorem ok_are_nested_sayings : fiOk T fi_are_nested_sayings = true := by decide +kernel
theorem ok_next_within : fiOk T fi_next_within = true := by decide +kernel
theorem ok_own_books : fiOk T fi_own_books = true := by decide +kernel
theorem ok_own_many : fiOk T fi_own_many = true := by decide +kernel
theorem ok_bad_saying : fiOk T fi_bad_saying = true := by decide +kernel
theorem ok_nested_list : fiOk T fi_nested_list = true := by decide +kernel
theorem ok_first_with_free : fiOk T fi_first_with_free = true := by decide +kernel
theorem ok_count_nested : fiOk T fi_count_nested = true := by decide +kernel
theorem ok_is_number : fiOk T fi_is_number = true := by decide +kernel
theorem ok_is_ascending : fiOk T fi_is_ascending = true := by decide +kernel
theorem ok_is_saying : fiOk T fi_is_saying = true := by decide +kernel
theorem ok_are_sayings : fiOk T fi_are_sayings = true := by decide +kernel
theorem ok__law_same : fiOk T fi__law_same = true := by decide +kernel
theorem ok__law_nests : fiOk T fi__law_nests = true := by decide +kernel
theorem ok__law_sets : fiOk T fi__law_sets = true := by decide +kernel
theorem ok__law_within : fiOk T fi__law_within = true := by decide +kernel
theorem ok__law_are_nested : fiOk T fi__law_are_nested = true := by decide +kernel
theorem ok_T : ∀ fi ∈ T.fs, fiOk T fi = true := by
  intro fi h
  simp only [T, List.mem_cons, List.not_mem_nil, or_false] at h
  rcases h with rfl | rfl | rfl | rfl | rfl | rfl | rfl | rfl | rfl | rfl | rfl | rfl | rfl | rfl | rfl | rfl | rfl | rfl
  · exact ok_is_inside
  · exact ok_are_nested_sayings
  · exact ok_next_within
  · exact ok_own_books
  · exact ok_own_many
  · exact ok_bad_saying
  · exact ok_nested_list
  · exact ok_first_with_free
  · exact ok_count_nested
  · exact ok_is_number
  · exact ok_is_ascending
  · exact ok_is_saying
  · exact ok_are_sayings
  · exact ok__law_same
  · exact ok__law_nests
  · exact ok__law_sets
  · exact ok__law_within
  · exact ok__law_are_nested
abbrev sBox : Stmt := top 18
abbrev sLoad : Stmt := top 19
abbrev sDraw : Stmt := top 20
abbrev sLaw : Stmt := top 26
abbrev FnP (K : PySem.W.Frag) (x : PySem.Str) (st : Stmt) (f : Addr) (fd : FuncData) : Prop := FunD K x x (defArgs st) (defBody st) (defScope st) [] [] f fd
theorem okLaw : mSs T nLaw (defScope sLaw) b_law ((defBody sLaw).drop 1) = true := by decide +kernel
theorem scBox : FnScope ["script"] ["script"] (defScope sBox) := ⟨rfl, rfl, rfl, by decide +kernel, rfl, by decide +kernel, by decide +kernel⟩
theorem scLoad : FnScope ["box", "cells", "cell", "size", "first", "second"] ["box"] (defScope sLoad) := ⟨rfl, rfl, rfl, by decide +kernel, rfl, by decide +kernel, by decide +kernel⟩
theorem scDraw : FnScope ["box", "many", "digit"] ["box", "many"] (defScope sDraw) := ⟨rfl, rfl, rfl, by decide +kernel, rfl, by decide +kernel, by decide +kernel⟩
theorem scLaw : FnScope nLaw ["script"] (defScope sLaw) := ⟨rfl, rfl, rfl, by decide +kernel, rfl, by decide +kernel, by decide +kernel⟩
section
variable {P : Program} {w : World} {K : PySem.W.Frag} {mg : PySem.Str → Option Value} {base : Heap} {f fL : Addr} {fd fdL : FuncData} {g : G}
theorem ok_box (F : FnP K "_law_box" sBox f fd) (gI : mg "list" = none) (gL : mg "len" = none) : FnOk P w K mg base CX0 1 f fd ["script"] (spBox K) := by
  refine F.ok scBox (fun vs H Q E h => ?_) (fun cdv A outer s H vs Q E hr h => ⟨t_box K, PSs.nox (pss_one (ps_ret (pe_lst (pa_cons (pe_callTy call_list_of rfl gI rfl (pa_cons (pe_slice sl_list (pv 0) po_none (po_some pe_int)) pa_nil)) (pa_cons pe_int (pa_cons (pe_op op_add pe_int (pe_callB call_len_seq rfl gL boot_len (pa_cons (pv 0) pa_nil))) pa_nil)))))), box_run h⟩)
  obtain ⟨a, ns, rfl, _⟩ := h
  rfl
theorem ok_load (F : FnP K "_law_load" sLoad f fd) (gI : mg "int" = none) (gL : mg "len" = none) : FnOk P w K mg base CX0 2 f fd ["box"] (spLoad g) := by
  refine F.ok scLoad (fun vs H Q E h => ?_) (fun cdv A outer s H vs Q E hr h => ⟨t_load K, PSs.nox (pss_cons (ps_set (i := 1) scLoad.nd rfl (Or.inl rfl) (pe_ix ix_list (pv 0) pe_int fun _ _ => rfl) rfl (.inl rfl)) (pss_cons (ps_if (pt_cmpR op_gt (pe_callB call_len_seq rfl gL boot_len (pa_cons (pv 1) pa_nil)) pe_int rfl)
    (pss_cons (ps_set (i := 2) scLoad.nd rfl (Or.inl rfl) (pe_callTy call_int1 rfl gI rfl (pa_cons (pe_bm PySem.F.plainAttrs_list PySem.F.slot_list_pop PySem.F.type_list_pop mt_popAt (pv 1) (pa_cons pe_int pa_nil)) pa_nil)) rfl (.inl rfl))
    (pss_cons (ps_set (i := 3) scLoad.nd rfl (Or.inl rfl) (pe_ifExp (pt_cmpR op_ge (pv 2) pe_int rfl) (pe_op op_mul pe_int (pv 2)) (pe_op op_sub (pe_op op_mul (pe_un un_neg pe_int) (pv 2)) pe_int)) rfl (.inl rfl))
    (pss_cons (ps_if (pt_cmpR op_ge (pv 3) pe_int rfl) (pss_one (ps_ret (pv 3))) pss_nil)
    (pss_one (ps_asg (pe_op op_mod (pe_callTy call_int1 rfl gI rfl (pa_cons (pe_op op_add (pe_op op_add (pe_op op_mul (pe_ix ix_list (pv 0) pe_int fun _ _ => rfl) pe_int) (pe_op op_mul (pv 3) pe_int)) pe_int) pa_nil)) pe_int) (pg_sub (pv 0) pe_int set_list fun _ => rfl)))))) pss_nil)
    (pss_cons (ps_set (i := 4) scLoad.nd rfl (Or.inl rfl) (pe_op op_mod (pe_callTy call_int1 rfl gI rfl (pa_cons (pe_op op_add (pe_op op_mul (pe_ix ix_list (pv 0) pe_int fun _ _ => rfl) pe_int) pe_int) pa_nil)) pe_int) rfl (.inl rfl))
    (pss_cons (ps_set (i := 5) scLoad.nd rfl (Or.inl rfl) (pe_op op_mod (pe_callTy call_int1 rfl gI rfl (pa_cons (pe_op op_add (pe_op op_mul (pv 4) pe_int) pe_int) pa_nil)) pe_int) rfl (.inl rfl))
    (pss_cons (ps_asg (pe_op op_mod (pe_callTy call_int1 rfl gI rfl (pa_cons (pe_op op_add (pe_op op_mul (pv 5) pe_int) pe_int) pa_nil)) pe_int) (pg_sub (pv 0) pe_int set_list fun _ => rfl))
    (pss_one (ps_ret (pe_op op_add (pe_op op_add (pe_op op_mul (pv 4) pe_int) (pe_op op_mul (pv 5) pe_int)) (pe_ix ix_list (pv 0) pe_int fun _ _ => rfl))))))))), load_run rfl h⟩)
  obtain ⟨b, v, b', rfl, _⟩ := h
  rfl
theorem ok_draw (hK : K = g.K) (F : FnP K "_law_draw" sDraw f fd) (FL : FnOk P w K mg base CX0 2 fL fdL ["box"] (spLoad g)) (kL : PySem.W.keepIn K (.ref fL) = true) (bL : L2.Binds K fdL ["box"] []) (gL : mg "_law_load" = some (.ref fL)) (gI : mg "int" = none) : FnOk P w K mg base CX0 3 f fd ["box", "many"] (spD g (fun _ => drawP) 0) := by
  refine F.ok scDraw (fun vs H Q E h => ?_) (fun cdv A outer s H vs Q E hr h => ⟨fun D σ H => t_draw g K (lenD K D) σ H, PSs.nox (PSs.lend (pss_cons (ps_if (pt_cmpR op_lt (pe_ix ix_list (pv 0) pe_int fun _ _ => rfl) (pv 1) rfl) (pss_one (ps_asg (pe_call FL hr rfl gL kL bL .nil pass0 (pa_cons (pv 0) pa_nil)) (pg_sub (pv 0) pe_int set_list fun _ => rfl))) pss_nil)
    (pss_cons (ps_set (i := 2) scDraw.nd rfl (Or.inl rfl) (pe_op op_modN (pe_callTy call_int1 rfl gI rfl (pa_cons (pe_ix ix_list (pv 0) pe_int fun _ _ => rfl) pa_nil)) (pv 1)) rfl (.inl rfl))
    (pss_cons (ps_asg (pe_op op_fdivN (pe_ix ix_list (pv 0) pe_int fun _ _ => rfl) (pv 1)) (pg_sub (pv 0) pe_int set_list fun _ => rfl)) (pss_one (ps_ret (pv 2))))))), draw_run hK rfl h⟩)
  obtain ⟨Z, ds, b, d, b', _, hr, _, _, e, _⟩ := h
  match ds, e with
  | [.box, .int n], _ => rw [hr.length]; rfl
end
/-! ### the head -/
def d0 : He.DefD := ⟨("_law_box", none), "_law_box", "_law_box", defArgs (top 18), defBody (top 18), defScope (top 18), [], []⟩
def d1 : He.DefD := ⟨("_law_load", none), "_law_load", "_law_load", defArgs (top 19), defBody (top 19), defScope (top 19), [], []⟩
def d2 : He.DefD := ⟨("_law_draw", none), "_law_draw", "_law_draw", defArgs (top 20), defBody (top 20), defScope (top 20), [], []⟩
def d3 : He.DefD := ⟨("is_inside", none), "is_inside", "is_inside", defArgs (top 1), defBody (top 1), defScope (top 1), [], []⟩
def d4 : He.DefD := ⟨("are_nested_sayings", none), "are_nested_sayings", "are_nested_sayings", defArgs (top 2), defBody (top 2), defScope (top 2), [], []⟩
def d5 : He.DefD := ⟨("next_within", none), "next_within", "next_within", defArgs (top 3), defBody (top 3), defScope (top 3), [], []⟩
def d6 : He.DefD := ⟨("own_books", none), "own_books", "own_books", defArgs (top 4), defBody (top 4), defScope (top 4), [], []⟩
def d7 : He.DefD := ⟨("own_many", none), "own_many", "own_many", defArgs (top 5), defBody (top 5), defScope (top 5), [], []⟩
def d8 : He.DefD := ⟨("bad_saying", none), "bad_saying", "bad_saying", defArgs (top 6), defBody (top 6), defScope (top 6), [], []⟩
def d9 : He.DefD := ⟨("nested_list", none), "nested_list", "nested_list", defArgs (top 7), defBody (top 7), defScope (top 7), [], []⟩
def d10 : He.DefD := ⟨("first_with_free", none), "first_with_free", "first_with_free", defArgs (top 8), defBody (top 8), defScope (top 8), [], []⟩
def d11 : He.DefD := ⟨("count_nested", none), "count_nested", "count_nested", defArgs (top 9), defBody (top 9), defScope (top 9), [], []⟩
def d12 : He.DefD := ⟨("is_number", none), "is_number", "is_number", defArgs (top 11), defBody (top 11), defScope (top 11), [], []⟩
def d13 : He.DefD := ⟨("is_ascending", none), "is_ascending", "is_ascending", defArgs (top 12), defBody (top 12), defScope (top 12), [], []⟩
def d14 : He.DefD := ⟨("is_saying", none), "is_saying", "is_saying", defArgs (top 15), defBody (top 15), defScope (top 15), [], []⟩
def d15 : He.DefD := ⟨("are_sayings", none), "are_sayings", "are_sayings", defArgs (top 16), defBody (top 16), defScope (top 16), [], []⟩
def d16 : He.DefD := ⟨("_law_same", none), "_law_same", "_law_same", defArgs (top 21), defBody (top 21), defScope (top 21), [], []⟩
def d17 : He.DefD := ⟨("_law_nests", none), "_law_nests", "_law_nests", defArgs (top 22), defBody (top 22), defScope (top 22), [], []⟩
def d18 : He.DefD := ⟨("_law_sets", none), "_law_sets", "_law_sets", defArgs (top 23), defBody (top 23), defScope (top 23), [], []⟩
def d19 : He.DefD := ⟨("_law_within", none), "_law_within", "_law_within", defArgs (top 24), defBody (top 24), defScope (top 24), [], []⟩
def d20 : He.DefD := ⟨("_law_are_nested", none), "_law_are_nested", "_law_are_nested", defArgs (top 25), defBody (top 25), defScope (top 25), [], []⟩
def d21 : He.DefD := ⟨("law", none), "law", "law", defArgs (top 26), defBody (top 26), defScope (top 26), [], []⟩
def fn : List He.DefD := [d0, d1, d2, d3, d4, d5, d6, d7, d8, d9, d10, d11, d12, d13, d14, d15, d16, d17, d18, d19, d20, d21]
def fa : List He.Fa := [.glo "_law_box", .glo "_law_load", .glo "_law_draw", .glo "is_inside", .glo "are_nested_sayings", .glo "next_within", .glo "own_books", .glo "own_many", .glo "bad_saying", .glo "nested_list", .glo "first_with_free", .glo "count_nested", .glo "is_number", .glo "is_ascending", .glo "is_saying", .glo "are_sayings", .glo "_law_same", .glo "_law_nests", .glo "_law_sets", .glo "_law_within", .glo "_law_are_nested", .glo "law", .free "len", .free "sum", .free "min", .free "max", .free "all", .free "any", .free "sorted", .free "tuple", .free "list", .free "abs", .free "int", .free "bool", .free "str", .free "range", .free "enumerate", .free "zip", .free "isinstance", .free "set", .int "MOST_SAYINGS" 10]
abbrev R : PySem.W.OpenRow := PySem.W.OpenLaw.row PySem.Challenge.rw_booksswapped_k21_whole_nested_sayings
abbrev hk : PySem.W.Hook := He.hookD 4 fa fn
def ob (s : PySem.W.SharedT) : He.AlD := He.obsDG 4 fa fn (HandSHeadRun.getT s)
theorem ob_eq (s : PySem.W.SharedT) : ob s = hk.obs s.abs := He.obsDG_eq (HandSHeadRun.getT_eq s)
abbrev loose : List PySem.Str := "is_inside" :: "are_nested_sayings" :: "next_within" :: "own_books" :: "own_many" :: "bad_saying" :: "nested_list" :: "first_with_free" :: "count_nested" :: "is_number" :: "is_ascending" :: "MOST_SAYINGS" :: "is_saying" :: "are_sayings" :: "_law_box" :: "_law_load" :: "_law_draw" :: "_law_same" :: "_law_nests" :: "_law_sets" :: "_law_within" :: "_law_are_nested" :: []
theorem run (w : World) : HandSHeadRun.RunEq R (PySem.W.view R.prog [26]) hk ob 4000 loose w := by
  intro os
  kernel_rfl
/-- the law's mathematics: what is left -/
def Holds : Prop := ∀ b : Bx, b.ok → ∃ ρ, exs (runF T drawP 40) b_law (lawEnv 18 b) = some (.ret (.bl true), ρ)
theorem facts {P : Program} {w : World} {K : PySem.W.Frag} {h : Heap} {mg : PySem.Str → Option Value} {f : Addr} (hol : Holds) (X : K.In h) (G : h.Ns mainGlobals mg) (hfa : mg ("law" : PySem.Str) = some (.ref f)) (c : He.SaysD fa fn K) :
    ∃ fd : FuncData, (∀ (s : Shared) (v : Value), BindsTo s fd ⟨[v], []⟩ [("script", v)]) ∧ ∀ base : Heap, K.In base → base.Ns mainGlobals mg → FnOk P w K mg base CX0 (40 + 1) f fd ["script"] (PV.spLaw K) := by
  obtain ⟨fd0, F0⟩ := c.def_ 0 (d := d0) rfl
  obtain ⟨fd1, F1⟩ := c.def_ 1 (d := d1) rfl
  obtain ⟨fd2, F2⟩ := c.def_ 2 (d := d2) rfl
  obtain ⟨fd3, F3⟩ := c.def_ 3 (d := d3) rfl
  obtain ⟨fd4, F4⟩ := c.def_ 4 (d := d4) rfl
  obtain ⟨fd5, F5⟩ := c.def_ 5 (d := d5) rfl
  obtain ⟨fd6, F6⟩ := c.def_ 6 (d := d6) rfl
  obtain ⟨fd7, F7⟩ := c.def_ 7 (d := d7) rfl
  obtain ⟨fd8, F8⟩ := c.def_ 8 (d := d8) rfl
  obtain ⟨fd9, F9⟩ := c.def_ 9 (d := d9) rfl
  obtain ⟨fd10, F10⟩ := c.def_ 10 (d := d10) rfl
  obtain ⟨fd11, F11⟩ := c.def_ 11 (d := d11) rfl
  obtain ⟨fd12, F12⟩ := c.def_ 12 (d := d12) rfl
  obtain ⟨fd13, F13⟩ := c.def_ 13 (d := d13) rfl
  obtain ⟨fd14, F14⟩ := c.def_ 14 (d := d14) rfl
  obtain ⟨fd15, F15⟩ := c.def_ 15 (d := d15) rfl
  obtain ⟨fd16, F16⟩ := c.def_ 16 (d := d16) rfl
  obtain ⟨fd17, F17⟩ := c.def_ 17 (d := d17) rfl
  obtain ⟨fd18, F18⟩ := c.def_ 18 (d := d18) rfl
  obtain ⟨fd19, F19⟩ := c.def_ 19 (d := d19) rfl
  obtain ⟨fd20, F20⟩ := c.def_ 20 (d := d20) rfl
  obtain ⟨fd21, F21⟩ := c.def_ 21 (d := d21) rfl
  have e := hfa.symm.trans (He.glo_ok X G (c.fact 21 (f := .glo "law") rfl))
  cases e
  have b := FunD.bindsA (ps := ["script"]) F21 fun _ _ _ _ _ _ us hl => match us, hl with | [_], _ => rfl
  have b0 : L2.Binds K fd0 ["script"] [] := F0.bindsN fun _ _ _ _ _ _ us hl => match us, hl with | [_], _ => rfl
  have g0 := He.glo_ok X G (c.fact 0 (f := .glo "_law_box") rfl)
  have b1 : L2.Binds K fd1 ["box"] [] := F1.bindsN fun _ _ _ _ _ _ us hl => match us, hl with | [_], _ => rfl
  have g1 := He.glo_ok X G (c.fact 1 (f := .glo "_law_load") rfl)
  have b2 : L2.Binds K fd2 ["box", "many"] [] := F2.bindsN fun _ _ _ _ _ _ us hl => match us, hl with | [_, _], _ => rfl
  have g2 := He.glo_ok X G (c.fact 2 (f := .glo "_law_draw") rfl)
  have b3 : L2.Binds K fd3 (fi_is_inside.N.take fi_is_inside.np) [] := F3.bindsN fun _ _ _ _ _ _ us hl => match us, hl with | [_, _], _ => rfl
  have g3 := He.glo_ok X G (c.fact 3 (f := .glo "is_inside") rfl)
  have b4 : L2.Binds K fd4 (fi_are_nested_sayings.N.take fi_are_nested_sayings.np) [] := F4.bindsN fun _ _ _ _ _ _ us hl => match us, hl with | [_], _ => rfl
  have g4 := He.glo_ok X G (c.fact 4 (f := .glo "are_nested_sayings") rfl)
  have b5 : L2.Binds K fd5 (fi_next_within.N.take fi_next_within.np) [] := F5.bindsN fun _ _ _ _ _ _ us hl => match us, hl with | [_, _], _ => rfl
  have g5 := He.glo_ok X G (c.fact 5 (f := .glo "next_within") rfl)
  have b6 : L2.Binds K fd6 (fi_own_books.N.take fi_own_books.np) [] := F6.bindsN fun _ _ _ _ _ _ us hl => match us, hl with | [_, _], _ => rfl
  have g6 := He.glo_ok X G (c.fact 6 (f := .glo "own_books") rfl)
  have b7 : L2.Binds K fd7 (fi_own_many.N.take fi_own_many.np) [] := F7.bindsN fun _ _ _ _ _ _ us hl => match us, hl with | [_, _], _ => rfl
  have g7 := He.glo_ok X G (c.fact 7 (f := .glo "own_many") rfl)
  have b8 : L2.Binds K fd8 (fi_bad_saying.N.take fi_bad_saying.np) [] := F8.bindsN fun _ _ _ _ _ _ us hl => match us, hl with | [_], _ => rfl
  have g8 := He.glo_ok X G (c.fact 8 (f := .glo "bad_saying") rfl)
  have b9 : L2.Binds K fd9 (fi_nested_list.N.take fi_nested_list.np) [] := F9.bindsN fun _ _ _ _ _ _ us hl => match us, hl with | [_, _], _ => rfl
  have g9 := He.glo_ok X G (c.fact 9 (f := .glo "nested_list") rfl)
  have b10 : L2.Binds K fd10 (fi_first_with_free.N.take fi_first_with_free.np) [] := F10.bindsN fun _ _ _ _ _ _ us hl => match us, hl with | [_, _], _ => rfl
  have g10 := He.glo_ok X G (c.fact 10 (f := .glo "first_with_free") rfl)
  have b11 : L2.Binds K fd11 (fi_count_nested.N.take fi_count_nested.np) [] := F11.bindsN fun _ _ _ _ _ _ us hl => match us, hl with | [_, _], _ => rfl
  have g11 := He.glo_ok X G (c.fact 11 (f := .glo "count_nested") rfl)
  have b12 : L2.Binds K fd12 (fi_is_number.N.take fi_is_number.np) [] := F12.bindsN fun _ _ _ _ _ _ us hl => match us, hl with | [_, _, _], _ => rfl
  have g12 := He.glo_ok X G (c.fact 12 (f := .glo "is_number") rfl)
  have b13 : L2.Binds K fd13 (fi_is_ascending.N.take fi_is_ascending.np) [] := F13.bindsN fun _ _ _ _ _ _ us hl => match us, hl with | [_], _ => rfl
  have g13 := He.glo_ok X G (c.fact 13 (f := .glo "is_ascending") rfl)
  have b14 : L2.Binds K fd14 (fi_is_saying.N.take fi_is_saying.np) [] := F14.bindsN fun _ _ _ _ _ _ us hl => match us, hl with | [_, _], _ => rfl
  have g14 := He.glo_ok X G (c.fact 14 (f := .glo "is_saying") rfl)
  have b15 : L2.Binds K fd15 (fi_are_sayings.N.take fi_are_sayings.np) [] := F15.bindsN fun _ _ _ _ _ _ us hl => match us, hl with | [_, _], _ => rfl
  have g15 := He.glo_ok X G (c.fact 15 (f := .glo "are_sayings") rfl)
  have b16 : L2.Binds K fd16 (fi__law_same.N.take fi__law_same.np) [] := F16.bindsN fun _ _ _ _ _ _ us hl => match us, hl with | [_, _], _ => rfl
  have g16 := He.glo_ok X G (c.fact 16 (f := .glo "_law_same") rfl)
  have b17 : L2.Binds K fd17 (fi__law_nests.N.take fi__law_nests.np) [] := F17.bindsN fun _ _ _ _ _ _ us hl => match us, hl with | [_, _], _ => rfl
  have g17 := He.glo_ok X G (c.fact 17 (f := .glo "_law_nests") rfl)
  have b18 : L2.Binds K fd18 (fi__law_sets.N.take fi__law_sets.np) [] := F18.bindsN fun _ _ _ _ _ _ us hl => match us, hl with | [_], _ => rfl
  have g18 := He.glo_ok X G (c.fact 18 (f := .glo "_law_sets") rfl)
  have b19 : L2.Binds K fd19 (fi__law_within.N.take fi__law_within.np) [] := F19.bindsN fun _ _ _ _ _ _ us hl => match us, hl with | [_, _], _ => rfl
  have g19 := He.glo_ok X G (c.fact 19 (f := .glo "_law_within") rfl)
  have b20 : L2.Binds K fd20 (fi__law_are_nested.N.take fi__law_are_nested.np) [] := F20.bindsN fun _ _ _ _ _ _ us hl => match us, hl with | [_], _ => rfl
  have g20 := He.glo_ok X G (c.fact 20 (f := .glo "_law_are_nested") rfl)
  have n_len := He.free_ok X G (c.fact 22 (f := .free "len") rfl)
  have n_sum := He.free_ok X G (c.fact 23 (f := .free "sum") rfl)
  have n_min := He.free_ok X G (c.fact 24 (f := .free "min") rfl)
  have n_max := He.free_ok X G (c.fact 25 (f := .free "max") rfl)
  have n_all := He.free_ok X G (c.fact 26 (f := .free "all") rfl)
  have n_any := He.free_ok X G (c.fact 27 (f := .free "any") rfl)
  have n_sorted := He.free_ok X G (c.fact 28 (f := .free "sorted") rfl)
  have n_tuple := He.free_ok X G (c.fact 29 (f := .free "tuple") rfl)
  have n_list := He.free_ok X G (c.fact 30 (f := .free "list") rfl)
  have n_abs := He.free_ok X G (c.fact 31 (f := .free "abs") rfl)
  have n_int := He.free_ok X G (c.fact 32 (f := .free "int") rfl)
  have n_bool := He.free_ok X G (c.fact 33 (f := .free "bool") rfl)
  have n_str := He.free_ok X G (c.fact 34 (f := .free "str") rfl)
  have n_range := He.free_ok X G (c.fact 35 (f := .free "range") rfl)
  have n_enumerate := He.free_ok X G (c.fact 36 (f := .free "enumerate") rfl)
  have n_zip := He.free_ok X G (c.fact 37 (f := .free "zip") rfl)
  have n_isinstance := He.free_ok X G (c.fact 38 (f := .free "isinstance") rfl)
  have n_set := He.free_ok X G (c.fact 39 (f := .free "set") rfl)
  obtain ⟨t0, c0⟩ := He.int_ok X G (c.fact 40 (f := .int "MOST_SAYINGS" 10) rfl)
  have bu : ∀ x ∈ bNames, mg x = none := by
    intro x hx
    simp only [bNames, List.mem_cons, List.not_mem_nil, or_false] at hx
    rcases hx with rfl | rfl | rfl | rfl | rfl | rfl | rfl | rfl | rfl | rfl | rfl | rfl | rfl | rfl | rfl | rfl | rfl | rfl
    all_goals assumption
  have hcs : ∀ g : PV.G, g.K = K → ∀ p ∈ T.cs, ∃ v u, mg p.1 = some u ∧ RelV v u ∧ ∀ H, Rep g H v p.2 := by
    intro g hg p hp
    simp only [T, List.mem_cons, List.not_mem_nil, or_false] at hp
    rcases hp with rfl
    · exact ⟨.int 10, _, c0, ⟨t0, rfl⟩, fun _ => .int _⟩
  refine ⟨_, fun s v => b s [v] rfl, fun base _ _ => ?_⟩
  have FB : FnOk P w K mg base CX0 1 _ _ ["script"] (spBox K) := ok_box F0 n_list n_len
  have Pg : ∀ ba bc, Prog T ⟨K, ba, bc⟩ P w K mg base drawP := fun ba bc => ⟨rfl, bu, hcs _ rfl, ?_, ok_T, _, _, _, ok_draw rfl F2 (ok_load F1 n_int n_len) F1.kp b1 g1 n_int, g2, F2.kp, b2⟩
  · refine F21.ok scLaw (fun vs H Q E h => ?_) (fun cdv A outer s H vs Q E hr h => ⟨t_law K (wrSs b_law) (exs (runF T drawP 40) b_law), PSs.nox (pss_cons (ps_set (i := 1) scLaw.nd rfl (by first | exact Or.inl rfl | exact Or.inr rfl) (pe_call FB (hr.mono (by decide)) rfl g0 F0.kp b0 .nil pass0 (pa_cons (pv 0) pa_nil)) rfl (.inl rfl)) (pss_ex fun ba bc => sSs (T := T) (n := 40) (N := nLaw) b_law _ _ ⟨⟨rfl, rfl, rfl, scLaw.nd, hr, ?_, bu, hcs _ rfl, fn_all (Pg ba bc) 40⟩, fun _ => rfl, PassesOwn.never, scLaw.kind⟩ okLaw)), law_run 18 rfl hol h⟩)
    · obtain ⟨a, ns, rfl, _⟩ := h
      rfl
    · have h2 : (A.deeper (envOfC "law" (defScope sLaw) s.heap.objs.size (He.fAd K d21.at_) cdv)).units + 16 * 40 + 200 < cLine := hr.un
      show (A.deeper (envOfC "law" (defScope sLaw) s.heap.objs.size (He.fAd K d21.at_) cdv)).units + 100 < cLine
      omega
  · intro fi hfi
    simp only [T, List.mem_cons, List.not_mem_nil, or_false] at hfi
    rcases hfi with rfl | rfl | rfl | rfl | rfl | rfl | rfl | rfl | rfl | rfl | rfl | rfl | rfl | rfl | rfl | rfl | rfl | rfl
    · exact ⟨_, _, F3, g3, b3⟩
    · exact ⟨_, _, F4, g4, b4⟩
    · exact ⟨_, _, F5, g5, b5⟩
    · exact ⟨_, _, F6, g6, b6⟩
    · exact ⟨_, _, F7, g7, b7⟩
    · exact ⟨_, _, F8, g8, b8⟩
    · exact ⟨_, _, F9, g9, b9⟩
    · exact ⟨_, _, F10, g10, b10⟩
    · exact ⟨_, _, F11, g11, b11⟩
    · exact ⟨_, _, F12, g12, b12⟩
    · exact ⟨_, _, F13, g13, b13⟩
    · exact ⟨_, _, F14, g14, b14⟩
    · exact ⟨_, _, F15, g15, b15⟩
    · exact ⟨_, _, F16, g16, b16⟩
    · exact ⟨_, _, F17, g17, b17⟩
    · exact ⟨_, _, F18, g18, b18⟩
    · exact ⟨_, _, F19, g19, b19⟩
    · exact ⟨_, _, F20, g20, b20⟩
end K21
open PySem PySem.W PySem.Calls PyProof.Rows
theorem K21.closed (hol : K21.Holds) : PySem.Challenge.rw_booksswapped_k21_whole_nested_sayings.Holds := by
  w_on; o_law
  refine HandSHeadRun.head_any (r := OpenLaw.row PySem.Challenge.rw_booksswapped_k21_whole_nested_sayings) (q := view (OpenLaw.row PySem.Challenge.rw_booksswapped_k21_whole_nested_sayings).prog [26]) (H := K21.hk) (ob := K21.ob) (M := 4000) (loose := K21.loose) (d := HandSHeadRun.topDef (OpenLaw.row PySem.Challenge.rw_booksswapped_k21_whole_nested_sayings).prog 26) (kwd := []) K21.ob_eq
    (by kernel_rfl) (fun s => by kernel_rfl) K21.run (by kernel_rfl) (by kernel_rfl) (by kernel_rfl) (by rfl) (by first | assumption | decide +kernel) (by decide +kernel) ⟨rfl, rfl, rfl, rfl, rfl, by decide +kernel⟩ ?hw ?hc
  case hw => w_witness2
  case hc =>
    refine L2.walk_ofE (l := PySem.Challenge.rw_booksswapped_k21_whole_nested_sayings) (n := 63) (k := 40 + 1) (x := "script") (CX := L2.CX0) rfl (by decide) (by kernel_rfl) ⟨rfl, by decide, by decide⟩ ?F (fun _ _ _ _ z => z)
    intro w mg fa h Y G hmg0
    obtain ⟨K, KX, c⟩ := Y
    have hmg : mg ("law" : PySem.Str) = some (.ref fa) := by
      have e : (HandSHeadRun.topDef (OpenLaw.row PySem.Challenge.rw_booksswapped_k21_whole_nested_sayings).prog 26).name = ("law" : PySem.Str) := by kernel_rfl
      rw [← e]
      exact hmg0
    obtain ⟨fd, hb, hF⟩ := K21.facts (P := (PySem.Challenge.rw_booksswapped_k21_whole_nested_sayings).prog) (w := w) hol KX G hmg c
    exact ⟨K, fd, PV.spLaw K, KX, hb, fun H a ns hl _ hS => ⟨a, ns, rfl, hS, fun _ => rfl⟩, hF⟩

end
section
set_option Elab.async false
set_option linter.all false
set_option maxRecDepth 100000
set_option maxHeartbeats 2000000
/-! K46a: books on shelves in order: plain mathematics. -/
namespace K46
open PySem L2 PV
abbrev Bk := Nat × Nat × Nat
abbrev bkD (q : Bk) : D := .tup [nD q.1, nD q.2.1, nD q.2.2]
abbrev bsT (bs : List Bk) : D := .tup (bs.map bkD)
def seg (bs : List Bk) (i j : Nat) : List Bk := (bs.drop i).take (j - i)
def thick (bs : List Bk) : Nat := (bs.map (·.1)).sum
def high (bs : List Bk) : Nat := (bs.map (·.2.1)).foldl max 0
structure Bs (bs : List Bk) : Prop where
  n1 : 1 ≤ bs.length
  n2 : bs.length ≤ 20
  pos : ∀ q ∈ bs, (1 ≤ q.1 ∧ q.1 ≤ 50) ∧ (1 ≤ q.2.1 ∧ q.2.1 ≤ 50) ∧ 1 ≤ q.2.2 ∧ q.2.2 ≤ 50
theorem fold_max : ∀ (l : List Nat) (a : Nat), a ≤ l.foldl max a ∧ (∀ x ∈ l, x ≤ l.foldl max a) ∧ (l.foldl max a = a ∨ l.foldl max a ∈ l)
  | [], a => ⟨Nat.le_refl _, (fun x h => by cases h), .inl rfl⟩
  | y :: ys, a => by
    obtain ⟨h1, h2, h3⟩ := fold_max ys (max a y)
    have e : (y :: ys).foldl max a = ys.foldl max (max a y) := rfl
    rw [e]
    refine ⟨by omega, fun x hx => ?_, ?_⟩
    · rcases List.mem_cons.mp hx with rfl | hx
      · omega
      · exact h2 x hx
    · rcases h3 with h3 | h3
      · rcases Nat.le_total a y with q | q
        · right; rw [h3, Nat.max_eq_right q]; exact List.mem_cons_self
        · left; rw [h3, Nat.max_eq_left q]
      · exact .inr (List.mem_cons_of_mem _ h3)
theorem high_le {bs : List Bk} {q : Bk} (h : q ∈ bs) : q.2.1 ≤ high bs := (fold_max _ 0).2.1 _ (List.mem_map.mpr ⟨q, h, rfl⟩)
theorem high_max {bs : List Bk} {m : Nat} (h : ∀ q ∈ bs, q.2.1 ≤ m) : high bs ≤ m := by
  rcases (fold_max (bs.map (·.2.1)) 0).2.2 with e | e
  · unfold high; omega
  · obtain ⟨q, hq, e2⟩ := List.mem_map.mp e
    have := h q hq
    unfold high
    omega
theorem high_add (a b : List Bk) : high (a ++ b) ≤ high a + high b := high_max fun q hq => by
  rcases List.mem_append.mp hq with h | h
  · have := high_le h; omega
  · have := high_le h; omega
theorem seg_mem {bs : List Bk} {i j : Nat} {q : Bk} (h : q ∈ seg bs i j) : q ∈ bs := List.mem_of_mem_drop (List.mem_of_mem_take h)
theorem seg_split {bs : List Bk} {i k j : Nat} (h1 : i ≤ k) (h2 : k ≤ j) : seg bs i j = seg bs i k ++ seg bs k j := by
  unfold seg
  have e : j - i = (k - i) + (j - k) := by omega
  rw [e, List.take_add, List.drop_drop]
  have e2 : i + (k - i) = k := by omega
  rw [e2]
theorem seg_len {bs : List Bk} {i j : Nat} (h : j ≤ bs.length) : (seg bs i j).length = j - i := by
  unfold seg
  rw [List.length_take, List.length_drop]
  omega
theorem seg_pos {bs : List Bk} (hb : Bs bs) {i j : Nat} (h1 : i < j) (h2 : j ≤ bs.length) : 1 ≤ high (seg bs i j) := by
  have hl := seg_len (bs := bs) (i := i) h2
  cases e : seg bs i j with
  | nil => rw [e] at hl; simp at hl; omega
  | cons q t =>
    have hq : q ∈ seg bs i j := by rw [e]; exact List.mem_cons_self
    have := (hb.pos q (seg_mem hq)).2.1.1
    have h2 := high_le (bs := q :: t) (q := q) List.mem_cons_self
    omega
theorem seg_one {bs : List Bk} (hb : Bs bs) {i : Nat} (h : i < bs.length) : thick (seg bs i (i + 1)) ≤ 50 := by
  have hl := seg_len (bs := bs) (i := i) (j := i + 1) h
  cases e : seg bs i (i + 1) with
  | nil => exact Nat.zero_le _
  | cons q t =>
    have hq : q ∈ seg bs i (i + 1) := by rw [e]; exact List.mem_cons_self
    have := (hb.pos q (seg_mem hq)).1.2
    rw [e] at hl
    cases t with
    | nil => show q.1 + 0 ≤ 50; omega
    | cons _ _ => simp at hl
/-! ### cuts -/
def pairs (s : Nat) : List Nat → Nat → List (Nat × Nat)
  | [], e => [(s, e)]
  | k :: c, e => (s, k) :: pairs k c e
def Up (s : Nat) : List Nat → Nat → Prop
  | [], e => s < e
  | k :: c, e => s < k ∧ Up k c e
theorem pairs_snoc {k e : Nat} : ∀ {c : List Nat} {s : Nat}, pairs s (c ++ [k]) e = pairs s c k ++ [(k, e)]
  | [], s => rfl
  | x :: c, s => by
    show (s, x) :: pairs x (c ++ [k]) e = _
    rw [pairs_snoc]; rfl
theorem up_snoc {k e : Nat} : ∀ {c : List Nat} {s : Nat}, Up s (c ++ [k]) e ↔ Up s c k ∧ k < e
  | [], s => Iff.rfl
  | x :: c, s => by
    show (s < x ∧ Up x (c ++ [k]) e) ↔ (s < x ∧ Up x c k) ∧ k < e
    rw [up_snoc, and_assoc]
theorem up_lt : ∀ {c : List Nat} {s e : Nat}, Up s c e → s < e ∧ ∀ k ∈ c, s < k ∧ k < e
  | [], s, e, h => ⟨h, fun k hk => by cases hk⟩
  | x :: c, s, e, h => by
    obtain ⟨h1, h2⟩ := h
    obtain ⟨g1, g2⟩ := up_lt h2
    refine ⟨by omega, fun k hk => ?_⟩
    rcases List.mem_cons.mp hk with rfl | hk
    · exact ⟨h1, g1⟩
    · have := g2 k hk; omega
theorem up_iff : ∀ {c : List Nat} {s e : Nat}, Up s c e ↔ s < e ∧ c.Pairwise (· < ·) ∧ ∀ k ∈ c, s < k ∧ k < e
  | [], s, e => ⟨fun h => ⟨h, List.Pairwise.nil, fun k hk => by cases hk⟩, fun h => h.1⟩
  | x :: c, s, e => by
    constructor
    · intro h
      obtain ⟨g1, g2⟩ := up_lt h
      obtain ⟨u1, u2⟩ := h
      obtain ⟨v1, v2, v3⟩ := up_iff.mp u2
      exact ⟨g1, List.pairwise_cons.mpr ⟨fun k hk => (v3 k hk).1, v2⟩, g2⟩
    · rintro ⟨h1, h2, h3⟩
      obtain ⟨p1, p2⟩ := List.pairwise_cons.mp h2
      have hx := h3 x List.mem_cons_self
      exact ⟨hx.1, up_iff.mpr ⟨hx.2, p2, fun k hk => ⟨p1 k hk, (h3 k (List.mem_cons_of_mem _ hk)).2⟩⟩⟩
def Hs (bs : List Bk) (ps : List (Nat × Nat)) : Nat := (ps.map fun p => high (seg bs p.1 p.2)).sum
def Gs (bs : List Bk) (w : Nat) (ps : List (Nat × Nat)) : Bool := ps.all fun p => decide (thick (seg bs p.1 p.2) ≤ w)
theorem Hs_app (bs : List Bk) (a b : List (Nat × Nat)) : Hs bs (a ++ b) = Hs bs a + Hs bs b := by
  unfold Hs
  rw [List.map_append, List.sum_append]
theorem Gs_app (bs : List Bk) (w : Nat) (a b : List (Nat × Nat)) : Gs bs w (a ++ b) = (Gs bs w a && Gs bs w b) := List.all_append
theorem Hs_one (bs : List Bk) (i j : Nat) : Hs bs [(i, j)] = high (seg bs i j) := by
  show high (seg bs i j) + 0 = high (seg bs i j)
  omega
theorem Hs_ge {bs : List Bk} : ∀ {c : List Nat} {s e : Nat}, Up s c e → high (seg bs s e) ≤ Hs bs (pairs s c e)
  | [], s, e, _ => by
    show _ ≤ Hs bs [(s, e)]
    rw [Hs_one]; exact Nat.le_refl _
  | k :: c, s, e, h => by
    obtain ⟨h1, h2⟩ := h
    have h3 := (up_lt h2).1
    have ih := Hs_ge (bs := bs) h2
    have e1 : Hs bs (pairs s (k :: c) e) = high (seg bs s k) + Hs bs (pairs k c e) := rfl
    rw [e1, seg_split (bs := bs) (i := s) (k := k) (j := e) (by omega) (by omega)]
    have := high_add (seg bs s k) (seg bs k e)
    omega
theorem Hs_gt {bs : List Bk} (hb : Bs bs) {k : Nat} {c : List Nat} {s e : Nat} (h : Up s (k :: c) e) (he : e ≤ bs.length) : high (seg bs s e) < Hs bs (pairs s (k :: c) e) := by
  obtain ⟨h1, h2⟩ := h
  have h3 := (up_lt h2).1
  have ih := Hs_ge (bs := bs) h2
  have e1 : Hs bs (pairs s (k :: c) e) = high (seg bs s k) + Hs bs (pairs k c e) := rfl
  have a := seg_pos hb h1 (show k ≤ bs.length by omega)
  have b := seg_pos hb h3 he
  have : high (seg bs s e) ≤ max (high (seg bs s k)) (high (seg bs k e)) := by
    rw [seg_split (bs := bs) (i := s) (k := k) (j := e) (by omega) (by omega)]
    refine high_max fun q hq => ?_
    rcases List.mem_append.mp hq with h | h
    · have := high_le h; omega
    · have := high_le h; omega
  omega
/-- more cuts behind: higher -/
theorem Hs_pre {bs : List Bk} (hb : Bs bs) {r : Nat} {t : List Nat} {e : Nat} (he : e ≤ bs.length) : ∀ {c : List Nat} {s : Nat}, Up s (c ++ r :: t) e → Hs bs (pairs s c e) < Hs bs (pairs s (c ++ r :: t) e)
  | [], s, h => by
    show Hs bs [(s, e)] < _
    rw [Hs_one]
    exact Hs_gt hb h he
  | x :: c, s, h => by
    have := Hs_pre hb he h.2
    show high (seg bs s x) + Hs bs (pairs x c e) < high (seg bs s x) + Hs bs (pairs x (c ++ r :: t) e)
    omega
/-! ### the order of pairs -/
def lx (a b : List Nat) : Bool := D.ltbL (a.map nD) (b.map nD)
abbrev Pr := Nat × List Nat
abbrev pk (a : Pr) : D := .tup [nD a.1, rN a.2]
def ltP (a b : Pr) : Bool := D.ltb (pk a) (pk b)
theorem ltP_eq (a b : Pr) : ltP a b = if a.1 = b.1 then lx a.2 b.2 else decide (a.1 < b.1) := by
  have e : ltP a b = if D.eqv (nD a.1) (nD b.1) = true then D.ltbL [rN a.2] [rN b.2] else D.ltb (nD a.1) (nD b.1) := rfl
  have e3 : D.ltbL [rN a.2] [rN b.2] = if D.eqvL (a.2.map nD) (b.2.map nD) = true then false else lx a.2 b.2 := rfl
  have e4 : D.ltb (nD a.1) (nD b.1) = decide (a.1 < b.1) := lt_nat _ _
  rw [e, e3, e4, eqv_nat, eqvL_nats]
  by_cases q : a.1 = b.1
  · rw [if_pos q, if_pos (by simp [q])]
    by_cases q2 : a.2 = b.2
    · rw [if_pos (by simp [q2]), q2]
      have := ltbL_tri (b.2.map nD) (b.2.map nD) (same_ints _ _)
      unfold lx
      rcases this with ⟨_, _, h, _⟩ | ⟨h, _⟩
      · exact h.symm
      · rw [eqvL_nats, decide_eq_true rfl] at h; cases h
    · rw [if_neg (by simp [q2])]
  · rw [if_neg q, if_neg (by simp [q])]
theorem same_pk (a b : Pr) : D.same (pk a) (pk b) = true := by
  show (true && (D.sameL (a.2.map nD) (b.2.map nD) && true)) = true
  rw [same_ints]; rfl
theorem nats_inj : ∀ {a b : List Nat}, a.map nD = b.map nD → a = b
  | [], [], _ => rfl
  | [], _ :: _, h => by cases h
  | _ :: _, [], h => by cases h
  | x :: xs, y :: ys, h => by
    rw [List.map_cons, List.map_cons, List.cons.injEq] at h
    have h1 : (x : Int) = (y : Int) := by
      have := h.1
      injection this
    rw [nats_inj h.2, show x = y by omega]
theorem pk_inj {a b : Pr} (h : pk a = pk b) : a = b := by
  injection h with h
  rw [List.cons.injEq, List.cons.injEq] at h
  have h1 : (a.1 : Int) = (b.1 : Int) := by
    have := h.1
    injection this
  have h2 : a.2.map nD = b.2.map nD := by
    have := h.2.1
    injection this
  exact Prod.ext (by omega) (nats_inj h2)
theorem ltP_tri (a b : Pr) : a = b ∨ ltP a b = true ∨ ltP b a = true := by
  rcases ltb_tri (pk a) (pk b) (same_pk a b) with ⟨_, h, _⟩ | ⟨_, _, h⟩
  · exact .inl (pk_inj h)
  · rcases h with ⟨h, _⟩ | ⟨_, h⟩
    · exact .inr (.inl h)
    · exact .inr (.inr h)
theorem ltP_irr (a : Pr) : ltP a a = false := by
  rcases ltb_tri (pk a) (pk a) (same_pk a a) with ⟨_, _, h, _⟩ | ⟨_, _, h⟩
  · exact h
  · rcases h with ⟨h, h2⟩ | ⟨h, h2⟩
    · rw [h] at h2; cases h2
    · rw [h] at h2; cases h2
theorem ltP_trans {a b c : Pr} (h1 : ltP a b = true) (h2 : ltP b c = true) : ltP a c = true :=
  ltb_trans (pk a) (pk b) (pk c) (same_pk _ _) (same_pk _ _) (same_pk _ _) h1 h2
theorem ltP_asym {a b : Pr} (h1 : ltP a b = true) : ltP b a = false := by
  cases h : ltP b a with
  | false => rfl
  | true => rw [← ltP_irr a, ltP_trans h1 h]
def minP : List Pr → Pr
  | [] => (0, [])
  | x :: xs => xs.foldl (fun a y => if ltP y a then y else a) x
theorem min_fold : ∀ (l : List Pr) (a : Pr), (l.foldl (fun a y => if ltP y a then y else a) a = a ∨ l.foldl (fun a y => if ltP y a then y else a) a ∈ l) ∧ ltP a (l.foldl (fun a y => if ltP y a then y else a) a) = false ∧ ∀ y ∈ l, ltP y (l.foldl (fun a y => if ltP y a then y else a) a) = false
  | [], a => ⟨.inl rfl, ltP_irr a, fun y h => by cases h⟩
  | y :: ys, a => by
    rw [List.foldl_cons]
    by_cases q : ltP y a = true
    · rw [if_pos q]
      obtain ⟨h1, h2, h3⟩ := min_fold ys y
      refine ⟨.inr ?_, ?_, fun z hz => ?_⟩
      · rcases h1 with h1 | h1
        · rw [h1]; exact List.mem_cons_self
        · exact List.mem_cons_of_mem _ h1
      · cases h : ltP a (ys.foldl (fun a y => if ltP y a then y else a) y) with
        | false => rfl
        | true => rw [← h2, ltP_trans q h]
      · rcases List.mem_cons.mp hz with rfl | hz
        · exact h2
        · exact h3 z hz
    · rw [if_neg q]
      obtain ⟨h1, h2, h3⟩ := min_fold ys a
      refine ⟨h1.imp id (List.mem_cons_of_mem _), h2, fun z hz => ?_⟩
      rcases List.mem_cons.mp hz with rfl | hz
      · cases h : ltP z (ys.foldl (fun a y => if ltP y a then y else a) a) with
        | false => rfl
        | true =>
          rcases ltP_tri a (ys.foldl (fun a y => if ltP y a then y else a) a) with e | e | e
          · rw [← e] at h; exact absurd h q
          · rw [h2] at e; cases e
          · exact absurd (ltP_trans h e) q
      · exact h3 z hz
theorem minP_spec {l : List Pr} (h : l ≠ []) : minP l ∈ l ∧ ∀ y ∈ l, ltP y (minP l) = false := by
  cases l with
  | nil => exact absurd rfl h
  | cons x xs =>
    obtain ⟨h1, h2, h3⟩ := min_fold xs x
    refine ⟨?_, fun y hy => ?_⟩
    · show xs.foldl _ x ∈ _
      rcases h1 with h1 | h1
      · rw [h1]; exact List.mem_cons_self
      · exact List.mem_cons_of_mem _ h1
    · rcases List.mem_cons.mp hy with rfl | hy
      · exact h2
      · exact h3 y hy
theorem minP_is {l : List Pr} {m : Pr} (h1 : m ∈ l) (h2 : ∀ y ∈ l, ltP y m = false) : minP l = m := by
  obtain ⟨g1, g2⟩ := minP_spec (List.ne_nil_of_mem h1)
  rcases ltP_tri (minP l) m with e | e | e
  · exact e
  · rw [h2 _ g1] at e; cases e
  · rw [g2 _ h1] at e; cases e
theorem minF_pk : ∀ (l : List Pr) (a : Pr), minF (pk a) (l.map pk) = pk (l.foldl (fun a y => if ltP y a then y else a) a)
  | [], a => rfl
  | y :: ys, a => by
    rw [List.foldl_cons, ← minF_pk ys]
    show minF (if D.ltb (pk y) (pk a) then pk y else pk a) (ys.map pk) = _
    by_cases q : ltP y a = true
    · rw [if_pos q, if_pos (show D.ltb (pk y) (pk a) = true from q)]
    · rw [if_neg q, if_neg (show ¬ D.ltb (pk y) (pk a) = true from q)]
theorem dep_pk (a : Pr) : (pk a).dep ≤ 2 := by
  have := dep_rN a.2
  show max 0 (max (rN a.2).dep 0) + 1 ≤ 2
  omega
theorem pl_pk (a : Pr) : (pk a).pl = true := by
  show (true && ((rN a.2).pl && true)) = true
  rw [pl_rN]; rfl
theorem dMin_pk {l : List Pr} (h : l ≠ []) : dMin (l.map pk) = some (pk (minP l)) := by
  have hs : allSame (l.map pk) = true := allSame_of (fun a _ => ⟨pl_pk a, by have := dep_pk a; omega⟩) fun a _ b _ => same_pk a b
  cases l with
  | nil => exact absurd rfl h
  | cons x xs =>
    show (if allSame ((x :: xs).map pk) then some (minF (pk x) (xs.map pk)) else none) = _
    rw [if_pos hs, minF_pk]
    rfl
theorem le_of_nlt {a b : Pr} (h : ltP b a = false) : a.1 ≤ b.1 := by
  rw [ltP_eq] at h
  split at h
  · omega
  · have := of_decide_eq_false h
    omega
/-! ### rows that go on -/
theorem lx_snoc {s : Nat} : ∀ {a b : List Nat}, lx a b = true → (∀ r t, b ≠ a ++ r :: t) → lx (a ++ [s]) (b ++ [s]) = true
  | [], [], h, _ => by cases h
  | [], y :: ys, _, h2 => absurd rfl (h2 y ys)
  | _ :: _, [], h, _ => by cases h
  | x :: xs, y :: ys, h, h2 => by
    have e : ∀ p q : List Nat, lx (x :: p) (y :: q) = if x = y then lx p q else decide (x < y) := by
      intro p q
      show (if D.eqv (nD x) (nD y) then D.ltbL (p.map nD) (q.map nD) else D.ltb (nD x) (nD y)) = _
      rw [eqv_nat]
      by_cases z : x = y
      · rw [if_pos z, if_pos (by simp [z])]; rfl
      · rw [if_neg z, if_neg (by simp [z])]
        exact lt_nat x y
    rw [List.cons_append, List.cons_append, e]
    rw [e] at h
    by_cases z : x = y
    · rw [if_pos z] at h ⊢
      exact lx_snoc h fun r t e => h2 r t (by rw [e, z]; rfl)
    · rw [if_neg z] at h ⊢
      exact h
/-! ### the least of all, by ends -/
def cand (bs : List Bk) (L : List Pr) (e s : Nat) : Pr := ((L.getD s (0, [])).1 + high (seg bs s e), (L.getD s (0, [])).2 ++ (if s = 0 then [] else [s]))
def fitS (bs : List Bk) (w e : Nat) : List Nat := (List.range e).filter fun s => decide (thick (seg bs s e) ≤ w)
def cands (bs : List Bk) (w : Nat) (L : List Pr) (e : Nat) : List Pr := (fitS bs w e).map (cand bs L e)
def FL (bs : List Bk) (w : Nat) : Nat → List Pr
  | 0 => [(0, [])]
  | e + 1 => FL bs w e ++ [minP (cands bs w (FL bs w e) (e + 1))]
def fe (bs : List Bk) (w e : Nat) : Pr := (FL bs w e).getD e (0, [])
theorem FL_len (bs : List Bk) (w : Nat) : ∀ e, (FL bs w e).length = e + 1
  | 0 => rfl
  | e + 1 => by
    show (FL bs w e ++ [_]).length = _
    rw [List.length_append, FL_len bs w e]; rfl
theorem FL_get (bs : List Bk) (w : Nat) : ∀ {e s : Nat}, s ≤ e → (FL bs w e).getD s (0, []) = fe bs w s
  | 0, s, h => by
    have : s = 0 := by omega
    subst this
    rfl
  | e + 1, s, h => by
    by_cases q : s = e + 1
    · subst q; rfl
    · have h1 : s < (FL bs w e).length := by rw [FL_len]; omega
      show (FL bs w e ++ [_]).getD s (0, []) = _
      rw [List.getD_eq_getElem?_getD, List.getElem?_append_left h1, ← List.getD_eq_getElem?_getD]
      exact FL_get bs w (by omega)
theorem fe_zero (bs : List Bk) (w : Nat) : fe bs w 0 = (0, []) := rfl
theorem fe_succ (bs : List Bk) (w e : Nat) : fe bs w (e + 1) = minP (cands bs w (FL bs w e) (e + 1)) := by
  unfold fe
  show (FL bs w e ++ [_]).getD (e + 1) (0, []) = _
  rw [List.getD_eq_getElem?_getD, List.getElem?_append_right (by rw [FL_len]; exact Nat.le_refl _), FL_len, Nat.sub_self]
  rfl
theorem FL_map (bs : List Bk) (w e : Nat) : FL bs w e = (List.range (e + 1)).map (fe bs w) := by
  refine List.ext_getElem (by rw [FL_len]; simp) fun i h1 h2 => ?_
  rw [List.getElem_map, List.getElem_range]
  have := FL_get bs w (e := e) (s := i) (by rw [FL_len] at h1; omega)
  rw [List.getD_eq_getElem?_getD, List.getElem?_eq_getElem h1] at this
  exact this
theorem fit_ne {bs : List Bk} (hb : Bs bs) {w e : Nat} (hw : 50 ≤ w) (he : e + 1 ≤ bs.length) : e ∈ fitS bs w (e + 1) :=
  List.mem_filter.mpr ⟨List.mem_range.mpr (Nat.lt_succ_self e), decide_eq_true (by have := seg_one hb (i := e) (by omega); omega)⟩
theorem cands_eq {bs : List Bk} {w e : Nat} : cands bs w (FL bs w e) (e + 1) = (fitS bs w (e + 1)).map fun s => ((fe bs w s).1 + high (seg bs s (e + 1)), (fe bs w s).2 ++ (if s = 0 then [] else [s])) := by
  unfold cands
  refine List.map_congr_left fun s hs => ?_
  have := List.mem_range.mp (List.mem_filter.mp hs).1
  unfold cand
  rw [FL_get bs w (by omega)]
theorem cands_ne {bs : List Bk} (hb : Bs bs) {w e : Nat} (hw : 50 ≤ w) (he : e + 1 ≤ bs.length) : cands bs w (FL bs w e) (e + 1) ≠ [] := by
  unfold cands
  intro h
  rw [List.map_eq_nil_iff] at h
  have := fit_ne hb hw he
  rw [h] at this
  cases this
abbrev Hc (bs : List Bk) (c : List Nat) (e : Nat) : Nat := Hs bs (pairs 0 c e)
abbrev Gc (bs : List Bk) (w : Nat) (c : List Nat) (e : Nat) : Bool := Gs bs w (pairs 0 c e)
def Sp (bs : List Bk) (w e : Nat) : Prop := (∃ c, (e = 0 ∧ c = [] ∨ Up 0 c e) ∧ Gc bs w c e = true ∧ fe bs w e = (Hc bs c e, c)) ∧ ∀ c, Up 0 c e → Gc bs w c e = true → ltP (Hc bs c e, c) (fe bs w e) = false
theorem Hc_snoc {bs : List Bk} {c : List Nat} {s e : Nat} : Hc bs (c ++ [s]) e = Hc bs c s + high (seg bs s e) := by
  unfold Hc
  rw [pairs_snoc, Hs_app, Hs_one]
theorem Gc_snoc {bs : List Bk} {w : Nat} {c : List Nat} {s e : Nat} : Gc bs w (c ++ [s]) e = (Gc bs w c s && decide (thick (seg bs s e) ≤ w)) := by
  unfold Gc
  rw [pairs_snoc, Gs_app]
  unfold Gs
  rw [List.all_cons, List.all_nil, Bool.and_true]
theorem fe_spec {bs : List Bk} (hb : Bs bs) {w : Nat} (hw : 50 ≤ w) : ∀ e, e ≤ bs.length → Sp bs w e := by
  intro e
  induction e using Nat.strongRecOn with
  | _ e ih =>
    intro he
    cases e with
    | zero =>
      refine ⟨⟨[], .inl ⟨rfl, rfl⟩, ?_, ?_⟩, fun c h => absurd (up_lt h).1 (Nat.lt_irrefl 0)⟩
      · show (decide (thick (seg bs 0 0) ≤ w) && true) = true
        have : seg bs 0 0 = [] := by unfold seg; rw [Nat.sub_self, List.take_zero]
        rw [this]
        exact (by rw [decide_eq_true (show thick [] ≤ w from Nat.zero_le _)]; rfl)
      · rw [fe_zero]
        show _ = (Hs bs [(0, 0)], [])
        rw [Hs_one]
        have : seg bs 0 0 = [] := by unfold seg; rw [Nat.sub_self, List.take_zero]
        rw [this]
        rfl
    | succ e =>
      obtain ⟨g1, g2⟩ := minP_spec (cands_ne hb hw he)
      rw [← fe_succ] at g1 g2
      rw [cands_eq] at g1 g2
      refine ⟨?_, fun c hc hg => ?_⟩
      · obtain ⟨s, hs, es⟩ := List.mem_map.mp g1
        obtain ⟨h1, h2⟩ := List.mem_filter.mp hs
        have h1 := List.mem_range.mp h1
        obtain ⟨⟨c', hc', hg', e'⟩, _⟩ := ih s h1 (by omega)
        by_cases q : s = 0
        · subst q
          rw [fe_zero, if_pos rfl] at es
          refine ⟨[], .inr (Nat.succ_pos e), ?_, ?_⟩
          · show (decide (thick (seg bs 0 (e + 1)) ≤ w) && true) = true
            rw [h2]; rfl
          · rw [← es]
            show _ = (Hs bs [(0, e + 1)], [])
            rw [Hs_one]
            show (0 + _, _) = _
            rw [Nat.zero_add]
            rfl
        · have hc' := hc'.resolve_left fun h => q h.1
          refine ⟨c' ++ [s], .inr (up_snoc.mpr ⟨hc', h1⟩), ?_, ?_⟩
          · rw [Gc_snoc, hg', h2]; rfl
          · rw [← es, e', if_neg q, Hc_snoc]
      · by_cases hn : c = []
        · subst hn
          have hm : (0 : Nat) ∈ fitS bs w (e + 1) := List.mem_filter.mpr ⟨List.mem_range.mpr (Nat.succ_pos e), by
            have : (decide (thick (seg bs 0 (e + 1)) ≤ w) && true) = true := hg
            rw [Bool.and_true] at this
            exact this⟩
          have := g2 _ (List.mem_map.mpr ⟨0, hm, rfl⟩)
          rw [fe_zero, if_pos rfl] at this
          have e0 : Hc bs [] (e + 1) = 0 + high (seg bs 0 (e + 1)) := by
            show Hs bs [(0, e + 1)] = _
            rw [Hs_one, Nat.zero_add]
          rw [e0]
          exact this
        · obtain ⟨c', s, rfl⟩ : ∃ c' s, c = c' ++ [s] := ⟨c.dropLast, c.getLast hn, (List.dropLast_concat_getLast hn).symm⟩
          obtain ⟨u1, u2⟩ := up_snoc.mp hc
          rw [Gc_snoc, Bool.and_eq_true] at hg
          have hs0 : 0 < s := (up_lt u1).1
          obtain ⟨⟨c2, hc2, hg2, e2⟩, hle⟩ := ih s u2 (by omega)
          have hc2 := hc2.resolve_left fun h => by omega
          have hle := hle c' u1 hg.1
          have hm : s ∈ fitS bs w (e + 1) := List.mem_filter.mpr ⟨List.mem_range.mpr u2, hg.2⟩
          have hcand := g2 _ (List.mem_map.mpr ⟨s, hm, rfl⟩)
          rw [if_neg (by omega)] at hcand
          rw [e2] at hle hcand
          -- the candidate of s is no greater
          have key : ((Hc bs c2 s + high (seg bs s (e + 1)), c2 ++ [s]) : Pr) = (Hc bs (c' ++ [s]) (e + 1), c' ++ [s]) ∨ ltP (Hc bs c2 s + high (seg bs s (e + 1)), c2 ++ [s]) (Hc bs (c' ++ [s]) (e + 1), c' ++ [s]) = true := by
            rw [Hc_snoc]
            rcases ltP_tri (Hc bs c2 s, c2) (Hc bs c' s, c') with h | h | h
            · left
              rw [Prod.mk.injEq] at h
              rw [h.1, h.2]
            · right
              rw [ltP_eq] at h ⊢
              dsimp only at h ⊢
              by_cases q : Hc bs c2 s = Hc bs c' s
              · rw [if_pos q] at h
                rw [if_pos (by omega)]
                refine lx_snoc h fun r t er => ?_
                subst er
                have := Hs_pre hb (r := r) (t := t) (show s ≤ bs.length by omega) u1
                unfold Hc at q
                omega
              · rw [if_neg q] at h
                rw [if_neg (by omega)]
                have := of_decide_eq_true h
                exact decide_eq_true (by omega)
            · rw [hle] at h; cases h
          rcases key with h | h
          · rw [← h]; exact hcand
          · cases h3 : ltP (Hc bs (c' ++ [s]) (e + 1), c' ++ [s]) (fe bs w (e + 1)) with
            | false => rfl
            | true =>
              have := ltP_trans h h3
              rw [this] at hcand
              cases hcand
/-! ### what follows -/
theorem fe_mono {bs : List Bk} (hb : Bs bs) {w w' : Nat} (hw : 50 ≤ w) (h : w ≤ w') : (fe bs w' bs.length).1 ≤ (fe bs w bs.length).1 := by
  obtain ⟨⟨c, hc, hg, e⟩, _⟩ := fe_spec hb hw bs.length (Nat.le_refl _)
  obtain ⟨_, h2⟩ := fe_spec hb (show 50 ≤ w' by omega) bs.length (Nat.le_refl _)
  have hc := hc.resolve_left fun z => by have := hb.n1; omega
  have hg' : Gc bs w' c bs.length = true := by
    unfold Gc Gs at hg ⊢
    rw [List.all_eq_true] at hg ⊢
    intro p hp
    have := of_decide_eq_true (hg p hp)
    exact decide_eq_true (by omega)
  have := le_of_nlt (h2 c hc hg')
  rw [e]
  exact this
theorem fe_step {bs : List Bk} (hb : Bs bs) {w : Nat} (hw : 50 ≤ w) {s e : Nat} (hs : s < e) (he : e ≤ bs.length) (ht : thick (seg bs s e) ≤ w) : (fe bs w e).1 ≤ (fe bs w s).1 + high (seg bs s e) := by
  cases e with
  | zero => omega
  | succ e =>
    obtain ⟨_, g2⟩ := minP_spec (cands_ne hb hw he)
    rw [← fe_succ, cands_eq] at g2
    exact le_of_nlt (g2 _ (List.mem_map.mpr ⟨s, List.mem_filter.mpr ⟨List.mem_range.mpr hs, decide_eq_true ht⟩, rfl⟩))
/-- heights alone -/
theorem fe_fst {bs : List Bk} (hb : Bs bs) {w : Nat} (hw : 50 ≤ w) {e : Nat} (he : e + 1 ≤ bs.length) : minI ((fitS bs w (e + 1)).map fun s => (((fe bs w s).1 + high (seg bs s (e + 1)) : Nat) : Int)) = some ((fe bs w (e + 1)).1 : Int) := by
  obtain ⟨g1, g2⟩ := minP_spec (cands_ne hb hw he)
  rw [← fe_succ, cands_eq] at g1 g2
  refine min_is ?_ fun y hy => ?_
  · obtain ⟨s, hs, es⟩ := List.mem_map.mp g1
    exact List.mem_map.mpr ⟨s, hs, by rw [← es]⟩
  · obtain ⟨s, hs, rfl⟩ := List.mem_map.mp hy
    have := le_of_nlt (g2 _ (List.mem_map.mpr ⟨s, hs, rfl⟩))
    have this : (fe bs w (e + 1)).1 ≤ (fe bs w s).1 + high (seg bs s (e + 1)) := this
    omega
/-! ### all cuts -/
def allC0 : Nat → List (List Nat)
  | 0 => [[]]
  | j + 1 => allC0 j ++ (allC0 j).map (· ++ [j + 1])
def allC (n : Nat) : List (List Nat) := allC0 (n - 1)
theorem mem_allC0 : ∀ (j : Nat) (c : List Nat), c ∈ allC0 j ↔ Up 0 c (j + 1)
  | 0, c => by
    show c ∈ [[]] ↔ _
    rw [List.mem_singleton]
    constructor
    · rintro rfl; exact Nat.succ_pos 0
    · intro h
      cases c with
      | nil => rfl
      | cons x c =>
        have := (up_lt h).2 x List.mem_cons_self
        omega
  | j + 1, c => by
    show c ∈ allC0 j ++ (allC0 j).map (· ++ [j + 1]) ↔ _
    rw [List.mem_append, List.mem_map]
    constructor
    · rintro (h | ⟨c', h, rfl⟩)
      · have h := (mem_allC0 j c).mp h
        obtain ⟨h1, h2, h3⟩ := up_iff.mp h
        exact up_iff.mpr ⟨by omega, h2, fun k hk => by have := h3 k hk; omega⟩
      · exact up_snoc.mpr ⟨(mem_allC0 j c').mp h, by omega⟩
    · intro h
      by_cases hn : c = []
      · subst hn
        exact .inl ((mem_allC0 j []).mpr (Nat.succ_pos j))
      · obtain ⟨c', k, rfl⟩ : ∃ c' k, c = c' ++ [k] := ⟨c.dropLast, c.getLast hn, (List.dropLast_concat_getLast hn).symm⟩
        obtain ⟨h1, h2⟩ := up_snoc.mp h
        by_cases q : k = j + 1
        · subst q
          exact .inr ⟨c', (mem_allC0 j c').mpr h1, rfl⟩
        · exact .inl ((mem_allC0 j _).mpr (up_snoc.mpr ⟨h1, by omega⟩))
theorem mem_allC {n : Nat} (hn : 1 ≤ n) {c : List Nat} : c ∈ allC n ↔ Up 0 c n := by
  unfold allC
  rw [mem_allC0]
  have : n - 1 + 1 = n := by omega
  rw [this]
theorem allC0_len : ∀ j, (allC0 j).length = 2 ^ j
  | 0 => rfl
  | j + 1 => by
    show (allC0 j ++ (allC0 j).map _).length = _
    rw [List.length_append, List.length_map, allC0_len j, Nat.pow_succ]
    omega
def good (bs : List Bk) (w : Nat) : List (List Nat) := (allC bs.length).filter fun c => Gc bs w c bs.length
theorem mem_good {bs : List Bk} (hb : Bs bs) {w : Nat} {c : List Nat} : c ∈ good bs w ↔ Up 0 c bs.length ∧ Gc bs w c bs.length = true := by
  unfold good
  rw [List.mem_filter, mem_allC hb.n1]
theorem best_is {bs : List Bk} (hb : Bs bs) {w : Nat} (hw : 50 ≤ w) : minP ((good bs w).map fun c => (Hc bs c bs.length, c)) = fe bs w bs.length ∧ ∃ c ∈ good bs w, fe bs w bs.length = (Hc bs c bs.length, c) := by
  obtain ⟨⟨c, hc, hg, e⟩, h2⟩ := fe_spec hb hw bs.length (Nat.le_refl _)
  have hc := hc.resolve_left fun z => by have := hb.n1; omega
  have hm : c ∈ good bs w := (mem_good hb).mpr ⟨hc, hg⟩
  refine ⟨minP_is (List.mem_map.mpr ⟨c, hm, e.symm⟩) fun y hy => ?_, c, hm, e⟩
  obtain ⟨d, hd, rfl⟩ := List.mem_map.mp hy
  obtain ⟨d1, d2⟩ := (mem_good hb).mp hd
  exact h2 d d1 d2
/-! ### height tables -/
def viol (bs : List Bk) (w : Nat) (zs : List Int) (s e : Nat) : Bool := decide (thick (seg bs s e) ≤ w) && decide (zs.getD s 0 + (high (seg bs s e) : Int) < zs.getD e 0)
def anyV (bs : List Bk) (w : Nat) (zs : List Int) : Bool := (List.range bs.length).any fun i => (List.range (i + 1)).any fun s => viol bs w zs s (i + 1)
def anyL (bs : List Bk) (w : Nat) (zs : List Int) : Bool := (List.range bs.length).any fun i => (List.range (bs.length - i)).any fun d => viol bs w zs i (i + d + 1)
theorem anyV_eq (bs : List Bk) (w : Nat) (zs : List Int) : anyV bs w zs = anyL bs w zs := by
  rw [Bool.eq_iff_iff]
  unfold anyV anyL
  simp only [List.any_eq_true, List.mem_range]
  constructor
  · rintro ⟨i, hi, s, hs, h⟩
    refine ⟨s, by omega, i - s, by omega, ?_⟩
    have : s + (i - s) + 1 = i + 1 := by omega
    rw [this]; exact h
  · rintro ⟨i, hi, d, hd, h⟩
    exact ⟨i + d, by omega, i, by omega, h⟩
theorem noV {bs : List Bk} {w : Nat} {zs : List Int} (h : anyV bs w zs = false) {s e : Nat} (hs : s < e) (he : e ≤ bs.length) (ht : thick (seg bs s e) ≤ w) : zs.getD e 0 ≤ zs.getD s 0 + (high (seg bs s e) : Int) := by
  refine Classical.byContradiction fun hc => ?_
  have : anyV bs w zs = true := by
    unfold anyV
    simp only [List.any_eq_true, List.mem_range]
    refine ⟨e - 1, by omega, s, by omega, ?_⟩
    have e1 : e - 1 + 1 = e := by omega
    rw [e1]
    unfold viol
    rw [decide_eq_true ht, decide_eq_true (by omega)]; rfl
  rw [h] at this
  cases this
theorem noV_sum {bs : List Bk} {w : Nat} {zs : List Int} (h : anyV bs w zs = false) : ∀ {c : List Nat} {s e : Nat}, Up s c e → e ≤ bs.length → Gs bs w (pairs s c e) = true → zs.getD e 0 ≤ zs.getD s 0 + (Hs bs (pairs s c e) : Int)
  | [], s, e, hu, he, hg => by
    have hg : (decide (thick (seg bs s e) ≤ w) && true) = true := hg
    rw [Bool.and_true] at hg
    have := noV h hu he (of_decide_eq_true hg)
    show _ ≤ _ + (Hs bs [(s, e)] : Int)
    rw [Hs_one]
    exact this
  | k :: c, s, e, hu, he, hg => by
    have hg : (decide (thick (seg bs s k) ≤ w) && Gs bs w (pairs k c e)) = true := hg
    rw [Bool.and_eq_true] at hg
    have hk := (up_lt hu.2).1
    have h1 := noV h hu.1 (by omega) (of_decide_eq_true hg.1)
    have h2 := noV_sum h hu.2 he hg.2
    have e1 : Hs bs (pairs s (k :: c) e) = high (seg bs s k) + Hs bs (pairs k c e) := rfl
    rw [e1]
    omega
def tabZ (bs : List Bk) (w : Nat) : List Int := (List.range (bs.length + 1)).map fun e => ((fe bs w e).1 : Int)
theorem tab_get {bs : List Bk} {w e : Nat} (h : e ≤ bs.length) : (tabZ bs w).getD e 0 = ((fe bs w e).1 : Int) := by
  unfold tabZ
  rw [List.getD_eq_getElem?_getD, List.getElem?_map, List.getElem?_range (by omega)]
  rfl
theorem tab_ok {bs : List Bk} (hb : Bs bs) {w : Nat} (hw : 50 ≤ w) : anyV bs w (tabZ bs w) = false := by
  rw [Bool.eq_false_iff]
  intro h
  unfold anyV at h
  simp only [List.any_eq_true, List.mem_range] at h
  obtain ⟨i, hi, s, hs, h⟩ := h
  unfold viol at h
  rw [Bool.and_eq_true, decide_eq_true_eq, decide_eq_true_eq, tab_get (by omega), tab_get (by omega)] at h
  have := fe_step hb hw (s := s) (e := i + 1) hs hi h.1
  omega
end K46

end
section
set_option Elab.async false
set_option linter.all false
set_option maxRecDepth 100000
set_option maxHeartbeats 4000000
/-! K53a: rows of numbers with a sum, the least of them (no program in sight). -/
namespace K53
open PySem L2 PV K46
/-! ### the least of rows -/
theorem lx_P (a b : List Nat) : ltP (0, a) (0, b) = lx a b := by rw [ltP_eq]; exact if_pos rfl
def minR (l : List (List Nat)) : List Nat := (minP (l.map fun r => ((0, r) : Pr))).2
theorem minR_spec {l : List (List Nat)} (h : l ≠ []) : minR l ∈ l ∧ ∀ y ∈ l, lx y (minR l) = false := by
  obtain ⟨h1, h2⟩ := minP_spec (l := l.map fun r => ((0, r) : Pr)) (by intro e; exact h (List.map_eq_nil_iff.mp e))
  obtain ⟨r, hr, e⟩ := List.mem_map.mp h1
  have em : minR l = r := by unfold minR; rw [← e]
  refine ⟨em ▸ hr, fun y hy => ?_⟩
  have := h2 (0, y) (List.mem_map.mpr ⟨y, hy, rfl⟩)
  rw [← e, lx_P] at this
  rw [em]
  exact this
theorem minR_is {l : List (List Nat)} {m : List Nat} (h1 : m ∈ l) (h2 : ∀ y ∈ l, lx y m = false) : minR l = m := by
  have := minP_is (l := l.map fun r => ((0, r) : Pr)) (m := (0, m)) (List.mem_map.mpr ⟨m, h1, rfl⟩) fun y hy => by
    obtain ⟨r, hr, rfl⟩ := List.mem_map.mp hy
    rw [lx_P]
    exact h2 r hr
  unfold minR
  rw [this]
theorem minR_set {a b : List (List Nat)} (hb : b ≠ []) (h : ∀ x, x ∈ a ↔ x ∈ b) : minR a = minR b := by
  obtain ⟨h1, h2⟩ := minR_spec hb
  exact minR_is ((h _).mpr h1) fun y hy => h2 y ((h y).mp hy)
theorem minF_rN : ∀ (l : List (List Nat)) (a : List Nat), minF (rN a) (l.map rN) = rN (l.foldl (fun a y => if lx y a then y else a) a)
  | [], a => rfl
  | y :: ys, a => by
    rw [List.foldl_cons, ← minF_rN ys]
    show minF (if D.ltb (rN y) (rN a) then rN y else rN a) (ys.map rN) = _
    by_cases q : lx y a = true
    · rw [if_pos q, if_pos (show D.ltb (rN y) (rN a) = true from q)]
    · rw [if_neg q, if_neg (show ¬ D.ltb (rN y) (rN a) = true from q)]
theorem fold_P : ∀ (l : List (List Nat)) (a : List Nat), (l.map fun r => ((0, r) : Pr)).foldl (fun a y => if K46.ltP y a then y else a) (0, a) = (0, l.foldl (fun a y => if lx y a then y else a) a)
  | [], a => rfl
  | y :: ys, a => by
    rw [List.map_cons, List.foldl_cons, List.foldl_cons, lx_P]
    by_cases q : lx y a = true
    · rw [if_pos q, if_pos q]; exact fold_P ys y
    · rw [if_neg q, if_neg q]; exact fold_P ys a
theorem same_rows (l : List (List Nat)) : allSame (l.map rN) = true := allSame_of (fun a _ => ⟨pl_rN a, by have := dep_rN a; omega⟩) fun a _ b _ => same_ints a b
theorem dMin_rN {l : List (List Nat)} (h : l ≠ []) : dMin (l.map rN) = some (rN (minR l)) := by
  cases l with
  | nil => exact absurd rfl h
  | cons x xs =>
    show (if allSame ((x :: xs).map rN) then some (minF (rN x) (xs.map rN)) else none) = _
    rw [if_pos (same_rows (x :: xs)), minF_rN]
    have : minR (x :: xs) = xs.foldl (fun a y => if lx y a then y else a) x := by
      unfold minR
      rw [List.map_cons]
      show ((xs.map fun r => ((0, r) : Pr)).foldl _ (0, x)).2 = _
      rw [fold_P]
    rw [this]
theorem lx_swo : SrtO.Swo lx := by
  refine ⟨fun a b h => ?_, fun a b c h1 h2 => ?_⟩
  · rw [← lx_P] at h ⊢
    exact ltP_asym h
  · rw [← lx_P] at h1 h2 ⊢
    cases q : ltP (0, c) (0, a) with
    | false => rfl
    | true =>
      rcases ltP_tri (0, b) (0, a) with e | e | e
      · have : b = a := congrArg Prod.snd e
        subst this
        rw [h2] at q; cases q
      · rw [h1] at e; cases e
      · rw [ltP_trans q e] at h2; cases h2
def sortR (l : List (List Nat)) : List (List Nat) := sortG lx l
theorem sort_ok (l : List (List Nat)) : dSorted (l.map rN) = some ((sortR l).map rN) := sorted_map rN (same_rows l)
theorem sort_mem {l : List (List Nat)} {r : List Nat} : r ∈ sortR l ↔ r ∈ l := (sortG_perm l).mem_iff
theorem sort_len (l : List (List Nat)) : (sortR l).length = l.length := (sortG_perm l).length_eq
theorem sort_head {l : List (List Nat)} {r : List Nat} {t : List (List Nat)} (h : sortR l = r :: t) : minR l = r := by
  have hs := sortG_srtd lx_swo l
  have h' : SrtO.Srtd lx (r :: t) := by rw [← h]; exact hs
  refine minR_is (sort_mem.mp (by rw [h]; exact List.mem_cons_self)) fun y hy => ?_
  have hy := sort_mem.mpr hy
  rw [h] at hy
  rcases List.mem_cons.mp hy with rfl | hy
  · rw [← lx_P]; exact ltP_irr _
  · exact (List.pairwise_cons.mp h').1 y hy
/-! ### rows of so many numbers -/
def RWS (m : Nat) : Nat → List (List Nat)
  | 0 => [[]]
  | k + 1 => (RWS m k).flatMap fun r => ((List.range m).filter fun x => r.isEmpty || decide (r.getLastD 0 < x)).map fun x => r ++ [x]
theorem last_ok {r : List Nat} {x : Nat} (h : r.Pairwise (· < ·)) : (r.isEmpty || decide (r.getLastD 0 < x)) = true ↔ ∀ s ∈ r, s < x := by
  rcases List.eq_nil_or_concat r with rfl | ⟨t, y, rfl⟩
  · simp
  · rw [List.concat_eq_append] at h ⊢
    have e : (t ++ [y]).isEmpty = false := by cases t <;> rfl
    have e2 : (t ++ [y]).getLastD 0 = y := by rw [List.getLastD_eq_getLast?, List.getLast?_concat]; rfl
    rw [e, e2, Bool.false_or, decide_eq_true_eq]
    constructor
    · intro hx s hs
      rcases List.mem_append.mp hs with hs | hs
      · have := (List.pairwise_append.mp h).2.2 s hs y (by simp)
        omega
      · rw [List.mem_singleton] at hs; omega
    · exact fun hx => hx y (by simp)
theorem mem_RWS {m : Nat} : ∀ (k : Nat) (r : List Nat), r ∈ RWS m k ↔ r.length = k ∧ r.Pairwise (· < ·) ∧ ∀ s ∈ r, s < m
  | 0, r => by
    rw [RWS, List.mem_singleton]
    constructor
    · rintro rfl; exact ⟨rfl, List.Pairwise.nil, fun s hs => by cases hs⟩
    · rintro ⟨h, _, _⟩; exact List.eq_nil_of_length_eq_zero h
  | k + 1, r => by
    rw [RWS, List.mem_flatMap]
    constructor
    · rintro ⟨q, hq, hr⟩
      obtain ⟨x, hx, rfl⟩ := List.mem_map.mp hr
      obtain ⟨h1, h2, h3⟩ := (mem_RWS k q).mp hq
      obtain ⟨h4, h5⟩ := List.mem_filter.mp hx
      have h5 := (last_ok h2).mp h5
      refine ⟨by rw [List.length_append, h1]; rfl, List.pairwise_append.mpr ⟨h2, List.pairwise_singleton _ _, fun a ha b hb => ?_⟩, fun s hs => ?_⟩
      · rw [List.mem_singleton] at hb; rw [hb]; exact h5 a ha
      · rcases List.mem_append.mp hs with hs | hs
        · exact h3 s hs
        · rw [List.mem_singleton] at hs; rw [hs]; exact List.mem_range.mp h4
    · rintro ⟨h1, h2, h3⟩
      rcases List.eq_nil_or_concat r with rfl | ⟨t, y, rfl⟩
      · cases h1
      · rw [List.concat_eq_append] at *
        obtain ⟨p1, _, p3⟩ := List.pairwise_append.mp h2
        refine ⟨t, (mem_RWS k t).mpr ⟨by rw [List.length_append] at h1; exact Nat.succ.inj h1, p1, fun s hs => h3 s (List.mem_append_left _ hs)⟩, List.mem_map.mpr ⟨y, List.mem_filter.mpr ⟨List.mem_range.mpr (h3 y (by simp)), (last_ok p1).mpr fun s hs => p3 s hs y (by simp)⟩, rfl⟩⟩
/-! ### rows with a sum -/
def sumV (v : List Int) (r : List Nat) : Int := (r.map fun k => v.getD k 0).sum
def fairL (v : List Int) (n : Nat) (s : Int) : List (List Nat) := (subs0 v.length).filter fun r => r.length == n && decide (sumV v r = s)
def numS : List Int → Nat → Int → Nat
  | [], n, s => if n = 0 ∧ s = 0 then 1 else 0
  | x :: v, 0, s => numS v 0 s
  | x :: v, n + 1, s => numS v (n + 1) s + numS v n (s - x)
theorem sumV_app {v : List Int} {x : Int} {r : List Nat} (h : ∀ k ∈ r, k < v.length) : sumV (v ++ [x]) r = sumV v r := by
  unfold sumV
  congr 1
  refine List.map_congr_left fun k hk => ?_
  rw [List.getD_eq_getElem?_getD, List.getD_eq_getElem?_getD, List.getElem?_append_left (h k hk)]
theorem sumV_last {v : List Int} {x : Int} {r : List Nat} (h : ∀ k ∈ r, k < v.length) : sumV (v ++ [x]) (r ++ [v.length]) = sumV v r + x := by
  have := sumV_app (x := x) h
  unfold sumV at this ⊢
  rw [List.map_append, List.sum_append, this]
  simp
theorem filter_len {α : Type} (p q : α → Bool) (l : List α) (h : ∀ x ∈ l, p x = q x) : (l.filter p).length = (l.filter q).length := by
  rw [List.filter_congr h]
theorem fair_count (v : List Int) : ∀ (n : Nat) (s : Int), (fairL v.reverse n s).length = numS v n s := by
  induction v with
  | nil =>
    intro n s
    show (([[]] : List (List Nat)).filter fun r => r.length == n && decide (sumV [] r = s)).length = _
    rw [numS]
    cases n with
    | zero =>
      by_cases q : s = 0
      · subst q; rfl
      · rw [if_neg (fun h => q h.2), List.filter_cons_of_neg]
        · rfl
        · intro h
          have : decide ((0 : Int) = s) = true := h
          exact q (of_decide_eq_true this).symm
    | succ n => rw [if_neg (fun h => by cases h.1)]; rfl
  | cons x v ih =>
    intro n s
    rw [List.reverse_cons]
    unfold fairL
    rw [show (v.reverse ++ [x]).length = v.reverse.length + 1 by simp, subs0_succ, List.filter_append, List.length_append]
    have hm : ∀ r ∈ subs0 v.reverse.length, ∀ k ∈ r, k < v.reverse.length := fun r hr => ((mem_subs0 _ r).mp hr).2
    have e1 : ((subs0 v.reverse.length).filter fun r => r.length == n && decide (sumV (v.reverse ++ [x]) r = s)).length = numS v n s := by
      rw [← ih n s]
      exact filter_len _ _ _ fun r hr => by rw [sumV_app (hm r hr)]
    rw [e1, List.filter_map, List.length_map]
    cases n with
    | zero =>
      have : ((subs0 v.reverse.length).filter ((fun r => r.length == 0 && decide (sumV (v.reverse ++ [x]) r = s)) ∘ (· ++ [v.reverse.length]))).length = 0 := by
        rw [List.length_eq_zero_iff, List.filter_eq_nil_iff]
        intro r _ h
        simp at h
      rw [this]; rfl
    | succ n =>
      have e2 : ((subs0 v.reverse.length).filter ((fun r => r.length == n + 1 && decide (sumV (v.reverse ++ [x]) r = s)) ∘ (· ++ [v.reverse.length]))).length = numS v n (s - x) := by
        rw [← ih n (s - x)]
        refine filter_len _ _ _ fun r hr => ?_
        show ((r ++ [v.reverse.length]).length == n + 1 && decide (sumV (v.reverse ++ [x]) (r ++ [v.reverse.length]) = s)) = _
        rw [sumV_last (hm r hr), List.length_append, List.length_singleton]
        have a : (r.length + 1 == n + 1) = (r.length == n) := by
          rw [Bool.eq_iff_iff, beq_iff_eq, beq_iff_eq]; omega
        have b : decide (sumV v.reverse r + x = s) = decide (sumV v.reverse r = s - x) := decide_eq_decide.mpr (by omega)
        rw [a, b]
      rw [e2]; rfl
/-! ### the program's numbers -/
def choZ (n k : Int) : Int := if k ≤ n then (List.range k.toNat).foldl (fun (f : Int) (s : Nat) => (f * (n - (s : Int))).fdiv ((s : Int) + 1)) 1 else 0
def cntZ (v : List Int) (x : Int) : Nat := v.count x
def cntF (a b c : Int) (n : Nat) : Int := ((List.range (n / 2 + 1)).map fun (k : Nat) => choZ a k * choZ b k * choZ c ((n : Int) - 2 * (k : Int))).sum
def canF (a b c : Int) (n : Nat) : Bool := decide ((n : Int) ≤ c + 2 * (if b < a then b else a)) && (decide (c > 0) || (n % 2 == 0))
def vecs : Nat → List (List Int)
  | 0 => [[]]
  | m + 1 => (vecs m).flatMap fun v => [1 :: v, 0 :: v, -1 :: v]
def okV (v : List Int) (n : Nat) : Bool := (canF (v.count 1) (v.count (-1)) (v.count 0) n == decide (0 < numS v n 0)) && (cntF (v.count 1) (v.count (-1)) (v.count 0) n == (numS v n 0 : Int))
theorem mem_vecs : ∀ v : List Int, (∀ x ∈ v, x = 1 ∨ x = 0 ∨ x = -1) → v ∈ vecs v.length
  | [], _ => List.mem_singleton.mpr rfl
  | x :: v, h => by
    have := mem_vecs v fun y hy => h y (List.mem_cons_of_mem _ hy)
    refine List.mem_flatMap.mpr ⟨v, this, ?_⟩
    rcases h x List.mem_cons_self with rfl | rfl | rfl <;> simp
end K53

end
section
set_option Elab.async false
set_option linter.all false
set_option maxHeartbeats 4000000
/-! K21m: nested rows of numbers: plain mathematics. -/
namespace K21
abbrev Asc (r : List Nat) : Prop := r.Pairwise (· < ·)
theorem asc_nodup {r : List Nat} (h : Asc r) : r.Nodup := h.imp fun h => Nat.ne_of_lt h
theorem asc_sub : ∀ {b a : List Nat}, Asc a → Asc b → (∀ x ∈ a, x ∈ b) → a.Sublist b
  | [], a, _, _, h => by
    cases a with
    | nil => exact List.Sublist.refl _
    | cons x xs => exact absurd (h x List.mem_cons_self) List.not_mem_nil
  | y :: ys, [], _, _, _ => List.nil_sublist _
  | y :: ys, x :: xs, ha, hb, h => by
    obtain ⟨a1, a2⟩ := List.pairwise_cons.mp ha
    obtain ⟨b1, b2⟩ := List.pairwise_cons.mp hb
    by_cases e : x = y
    · subst e
      refine (asc_sub a2 b2 fun z hz => ?_).cons₂ x
      rcases List.mem_cons.mp (h z (List.mem_cons_of_mem _ hz)) with rfl | h'
      · exact absurd (a1 _ hz) (Nat.lt_irrefl _)
      · exact h'
    · refine (asc_sub ha b2 fun z hz => ?_).cons y
      have hx : x ∈ ys := by
        rcases List.mem_cons.mp (h x List.mem_cons_self) with h' | h'
        · exact absurd h' e
        · exact h'
      rcases List.mem_cons.mp (h z hz) with rfl | h'
      · have h1 := b1 x hx
        rcases List.mem_cons.mp hz with rfl | hz
        · exact absurd h1 (Nat.lt_irrefl _)
        · have := a1 _ hz; omega
      · exact h'
theorem asc_ext {a b : List Nat} (ha : Asc a) (hb : Asc b) (h : ∀ x, x ∈ a ↔ x ∈ b) : a = b :=
  have h1 := asc_sub ha hb fun x hx => (h x).mp hx
  have h2 := asc_sub hb ha fun x hx => (h x).mpr hx
  h1.eq_of_length (Nat.le_antisymm h1.length_le h2.length_le)
theorem asc_filter {r : List Nat} (p : Nat → Bool) (h : Asc r) : Asc (r.filter p) := h.sublist List.filter_sublist
theorem filt_swap {a b : List Nat} (ha : Asc a) (hb : Asc b) : a.filter b.contains = b.filter a.contains :=
  asc_ext (asc_filter _ ha) (asc_filter _ hb) fun x => by
    simp only [List.mem_filter, List.contains_iff_mem]
    exact ⟨fun h => ⟨h.2, h.1⟩, fun h => ⟨h.2, h.1⟩⟩
theorem filt_sub {a b : List Nat} (ha : Asc a) (hb : Asc b) (h : ∀ x ∈ a, x ∈ b) : b.filter a.contains = a := by
  rw [filt_swap hb ha]
  exact List.filter_eq_self.mpr fun x hx => List.contains_iff_mem.mpr (h x hx)
/-! ### insides -/
abbrev Say := List Nat × Nat
def insB (a b : List Nat) : Bool := decide (a.length < b.length) && a.all fun x => b.contains x
def witB (a b : List Nat) : Bool := !decide (a = b) && a.all fun x => b.contains x
theorem ins_wit {a b : List Nat} (ha : Asc a) (hb : Asc b) : insB a b = witB a b := by
  unfold insB witB
  cases q : (a.all fun x => b.contains x) with
  | false => rw [Bool.and_false, Bool.and_false]
  | true =>
    rw [Bool.and_true, Bool.and_true]
    have hs := asc_sub ha hb fun x hx => List.contains_iff_mem.mp (List.all_eq_true.mp q x hx)
    have hl := hs.length_le
    by_cases e : a = b
    · subst e; simp
    · have : a.length ≠ b.length := fun h => e (hs.eq_of_length h)
      rw [decide_eq_true (by omega), decide_eq_false e]; rfl
theorem ins_iff {a b : List Nat} : insB a b = true ↔ a.length < b.length ∧ ∀ x ∈ a, x ∈ b := by
  unfold insB
  rw [Bool.and_eq_true, decide_eq_true_eq, List.all_eq_true]
  simp only [List.contains_iff_mem]
def rw' (L : List Say) (k : Nat) : List Nat := (L.getD k ([], 0)).1
def nm (L : List Say) (k : Nat) : Nat := (L.getD k ([], 0)).2
def ins (L : List Say) (k : Nat) : List Nat := (List.range L.length).filter fun j => insB (rw' L j) (rw' L k)
def near (L : List Say) (k : Nat) : List Nat := (ins L k).filter fun j => !((ins L k).any fun i => insB (rw' L j) (rw' L i))
def own (L : List Say) (k : Nat) : List Nat := (rw' L k).filter fun b => !((near L k).any fun j => (rw' L j).contains b)
def ownN (L : List Say) (k : Nat) : Int := (nm L k : Int) - ((near L k).map (nm L)).sum
def apart (a b : List Nat) : Bool := !(a.any fun x => b.contains x)
theorem apart_iff {a b : List Nat} : apart a b = true ↔ ∀ x ∈ a, x ∉ b := by
  unfold apart
  rw [Bool.not_eq_true', List.any_eq_false]
  simp only [List.contains_iff_mem]
/-- no two of the rows cut each other -/
structure Nest (L : List Say) : Prop where
  asc : ∀ k < L.length, Asc (rw' L k)
  nest : ∀ i < L.length, ∀ j < L.length, i ≠ j → (∀ x ∈ rw' L i, x ∉ rw' L j) ∨ insB (rw' L i) (rw' L j) = true ∨ insB (rw' L j) (rw' L i) = true
theorem mem_ins {L : List Say} {k j : Nat} : j ∈ ins L k ↔ j < L.length ∧ insB (rw' L j) (rw' L k) = true := by
  unfold ins
  rw [List.mem_filter, List.mem_range]
theorem mem_near {L : List Say} {k j : Nat} : j ∈ near L k ↔ j ∈ ins L k ∧ ∀ i ∈ ins L k, insB (rw' L j) (rw' L i) = false := by
  unfold near
  rw [List.mem_filter, Bool.not_eq_true', List.any_eq_false]
  simp only [Bool.not_eq_true]
theorem near_lt {L : List Say} {k j : Nat} (h : j ∈ near L k) : j < L.length := (mem_ins.mp (mem_near.mp h).1).1
theorem near_ins {L : List Say} {k j : Nat} (h : j ∈ near L k) : insB (rw' L j) (rw' L k) = true := (mem_ins.mp (mem_near.mp h).1).2
theorem near_nodup (L : List Say) (k : Nat) : (near L k).Nodup := (asc_nodup (List.pairwise_lt_range (n := L.length))).sublist (List.filter_sublist.trans List.filter_sublist)
theorem mem_own {L : List Say} {k b : Nat} : b ∈ own L k ↔ b ∈ rw' L k ∧ ∀ j ∈ near L k, b ∉ rw' L j := by
  unfold own
  rw [List.mem_filter, Bool.not_eq_true', List.any_eq_false]
  simp only [List.contains_iff_mem]
/-- what lies inside lies within something next within -/
theorem near_of {L : List Say} {k : Nat} : ∀ (d j : Nat), (rw' L k).length - (rw' L j).length ≤ d → j ∈ ins L k → ∃ i ∈ near L k, ∀ x ∈ rw' L j, x ∈ rw' L i
  | 0, j, hd, h => by
    have := (ins_iff.mp (mem_ins.mp h).2).1
    omega
  | d + 1, j, hd, h => by
    by_cases q : j ∈ near L k
    · exact ⟨j, q, fun x hx => hx⟩
    · have : ∃ i ∈ ins L k, insB (rw' L j) (rw' L i) = true := by
        refine Classical.byContradiction fun hc => q (mem_near.mpr ⟨h, fun i hi => ?_⟩)
        cases e : insB (rw' L j) (rw' L i) with
        | false => rfl
        | true => exact absurd ⟨i, hi, e⟩ hc
      obtain ⟨i, hi, e⟩ := this
      obtain ⟨e1, e2⟩ := ins_iff.mp e
      obtain ⟨p, hp, h2⟩ := near_of d i (by omega) hi
      exact ⟨p, hp, fun x hx => h2 x (e2 x hx)⟩
/-- own books of two are apart -/
theorem own_apart {L : List Say} (hL : Nest L) {i j b : Nat} (hi : i < L.length) (hj : j < L.length) (h1 : b ∈ own L i) (h2 : b ∈ own L j) : i = j := by
  refine Classical.byContradiction fun ne => ?_
  have a := mem_own.mp h1
  have c := mem_own.mp h2
  rcases hL.nest i hi j hj ne with h | h | h
  · exact h b a.1 c.1
  · obtain ⟨p, hp, h3⟩ := near_of (L := L) (k := j) _ i (Nat.le_refl _) (mem_ins.mpr ⟨hi, h⟩)
    exact c.2 p hp (h3 b a.1)
  · obtain ⟨p, hp, h3⟩ := near_of (L := L) (k := i) _ j (Nat.le_refl _) (mem_ins.mpr ⟨hj, h⟩)
    exact a.2 p hp (h3 b c.1)
/-- a book of a row is some row's own -/
theorem own_ex {L : List Say} {b : Nat} : ∀ (d k : Nat), (rw' L k).length ≤ d → k < L.length → b ∈ rw' L k → ∃ i, i < L.length ∧ b ∈ own L i
  | 0, k, hd, _, h => by
    have : rw' L k = [] := List.eq_nil_of_length_eq_zero (by omega)
    rw [this] at h; cases h
  | d + 1, k, hd, hk, h => by
    by_cases q : b ∈ own L k
    · exact ⟨k, hk, q⟩
    · have : ∃ j ∈ near L k, b ∈ rw' L j := by
        refine Classical.byContradiction fun hc => q (mem_own.mpr ⟨h, fun j hj hb => hc ⟨j, hj, hb⟩⟩)
      obtain ⟨j, hj, hb⟩ := this
      have := (ins_iff.mp (near_ins hj)).1
      exact own_ex d j (by omega) (near_lt hj) hb
/-- rows next within one are apart -/
theorem near_apart {L : List Say} (hL : Nest L) {k i j : Nat} (hi : i ∈ near L k) (hj : j ∈ near L k) (ne : i ≠ j) : ∀ x ∈ rw' L i, x ∉ rw' L j := by
  rcases hL.nest i (near_lt hi) j (near_lt hj) ne with h | h | h
  · exact h
  · rw [(mem_near.mp hi).2 j (mem_near.mp hj).1] at h; cases h
  · rw [(mem_near.mp hj).2 i (mem_near.mp hi).1] at h; cases h
/-- a row's count is its own and those of the parts -/
theorem split_count {α : Type} (f : α → List Nat) (p : Nat → Bool) : ∀ (J : List α) (S : List Nat), Asc S → (∀ j ∈ J, Asc (f j) ∧ ∀ x ∈ f j, x ∈ S) → J.Pairwise (fun i j => ∀ x ∈ f i, x ∉ f j) →
    S.countP p = (S.filter fun b => !(J.any fun j => (f j).contains b)).countP p + (J.map fun j => (f j).countP p).sum
  | [], S, _, _, _ => by
    have : (S.filter fun b => !(([] : List α).any fun j => (f j).contains b)) = S := List.filter_eq_self.mpr fun _ _ => rfl
    rw [this]; rfl
  | j :: J, S, hS, h, hp => by
    obtain ⟨p1, p2⟩ := List.pairwise_cons.mp hp
    have hj := h j List.mem_cons_self
    have hS' := asc_filter (fun b => !(f j).contains b) hS
    have ih := split_count f p J (S.filter fun b => !(f j).contains b) hS' (fun i hi => ⟨(h i (List.mem_cons_of_mem _ hi)).1, fun x hx => List.mem_filter.mpr ⟨(h i (List.mem_cons_of_mem _ hi)).2 x hx, by
      have : (f j).contains x = false := by
        cases q : (f j).contains x with
        | false => rfl
        | true => exact absurd hx (p1 i hi x (List.contains_iff_mem.mp q))
      rw [this]; rfl⟩⟩) p2
    have e1 : S.countP p = (S.filter (f j).contains).countP p + (S.filter fun b => !(f j).contains b).countP p := by
      clear ih hS' hS h hj
      induction S with
      | nil => rfl
      | cons s S ihS =>
        rw [List.filter_cons, List.filter_cons, List.countP_cons, ihS]
        cases (f j).contains s <;> simp [List.countP_cons] <;> omega
    rw [filt_sub hj.1 hS hj.2] at e1
    rw [e1, ih, List.filter_filter, List.map_cons, List.sum_cons]
    have : (S.filter fun a => (!(J.any fun j => (f j).contains a)) && !(f j).contains a) = S.filter fun b => !((j :: J).any fun j => (f j).contains b) := by
      refine List.filter_congr fun x _ => ?_
      rw [List.any_cons, Bool.not_or, Bool.and_comm]
    rw [this]; omega
theorem own_count {L : List Say} (hL : Nest L) {k : Nat} (hk : k < L.length) (p : Nat → Bool) : (rw' L k).countP p = (own L k).countP p + ((near L k).map fun j => (rw' L j).countP p).sum := by
  refine split_count (rw' L) p (near L k) (rw' L k) (hL.asc k hk) (fun j hj => ⟨hL.asc j (near_lt hj), (ins_iff.mp (near_ins hj)).2⟩) ?_
  have nd := near_nodup L k
  have : ∀ J : List Nat, J.Nodup → (∀ j ∈ J, j ∈ near L k) → J.Pairwise fun i j => ∀ x ∈ rw' L i, x ∉ rw' L j := by
    intro J
    induction J with
    | nil => intro _ _; exact List.Pairwise.nil
    | cons j J ih =>
      intro h1 h2
      obtain ⟨h3, h4⟩ := List.nodup_cons.mp h1
      exact List.pairwise_cons.mpr ⟨fun i hi => near_apart hL (h2 j List.mem_cons_self) (h2 i (List.mem_cons_of_mem _ hi)) (fun e => h3 (e ▸ hi)), ih h4 fun i hi => h2 i (List.mem_cons_of_mem _ hi)⟩
  exact this _ nd fun j hj => hj
/-- all sayings fit exactly if all own ones do -/
theorem good_own {L : List Say} (hL : Nest L) (p : Nat → Bool) : (∀ k < L.length, (rw' L k).countP p = nm L k) ↔ ∀ k < L.length, (((own L k).countP p : Nat) : Int) = ownN L k := by
  constructor
  · intro h k hk
    have e := own_count hL hk p
    have : ((near L k).map fun j => (rw' L j).countP p) = (near L k).map (nm L) := List.map_congr_left fun j hj => h j (near_lt hj)
    rw [this, h k hk] at e
    unfold ownN
    omega
  · intro h
    have key : ∀ (d k : Nat), (rw' L k).length ≤ d → k < L.length → (rw' L k).countP p = nm L k := by
      intro d
      induction d with
      | zero =>
        intro k hd hk
        have e := own_count hL hk p
        have : near L k = [] := List.eq_nil_iff_forall_not_mem.mpr fun j hj => by
          have := (ins_iff.mp (near_ins hj)).1; omega
        have e2 := h k hk
        unfold ownN at e2
        rw [this] at e e2
        simp at e e2
        omega
      | succ d ih =>
        intro k hd hk
        have e := own_count hL hk p
        have : ((near L k).map fun j => (rw' L j).countP p) = (near L k).map (nm L) := List.map_congr_left fun j hj => ih j (by have := (ins_iff.mp (near_ins hj)).1; omega) (near_lt hj)
        have e2 := h k hk
        unfold ownN at e2
        rw [this] at e
        omega
    exact fun k hk => key _ k (Nat.le_refl _) hk
end K21

end
section
set_option Elab.async false
set_option linter.all false
set_option maxHeartbeats 4000000
/-! K21n: how many rows have so many of each kind: plain mathematics. -/
namespace K21
def cho : Nat → Nat → Nat
  | _, 0 => 1
  | 0, _ + 1 => 0
  | n + 1, k + 1 => cho n k + cho n (k + 1)
theorem cho_pos : ∀ (n k : Nat), k ≤ n → 0 < cho n k
  | n, 0, _ => by cases n <;> exact Nat.zero_lt_one
  | 0, k + 1, h => absurd h (Nat.not_succ_le_zero _)
  | n + 1, k + 1, h => by
    have := cho_pos n k (by omega)
    rw [cho]; omega
theorem cho_zero (n : Nat) : cho n 0 = 1 := by cases n <;> rfl
def fac : Nat → Nat
  | 0 => 1
  | n + 1 => fac n * (n + 1)
theorem cho_mul : ∀ (n k : Nat), cho (n + 1) (k + 1) * (k + 1) = (n + 1) * cho n k
  | 0, 0 => rfl
  | 0, k + 1 => by rw [cho]; simp [cho]
  | n + 1, 0 => by
    have := cho_mul n 0
    rw [cho_zero] at this
    show (cho (n + 1) 0 + cho (n + 1) (0 + 1)) * (0 + 1) = (n + 1 + 1) * cho (n + 1) 0
    rw [cho_zero]
    omega
  | n + 1, k + 1 => by
    have h1 := cho_mul n k
    have h2 := cho_mul n (k + 1)
    rw [cho, Nat.add_mul, h2, show k + 1 + 1 = (k + 1) + 1 from rfl, Nat.mul_add, h1]
    rw [show cho (n + 1) (k + 1) = cho n k + cho n (k + 1) from rfl]
    rw [Nat.mul_one, Nat.add_mul (n + 1) 1, Nat.mul_add, Nat.one_mul]
    omega
/-- so many from so many, one after the other -/
def dn (n : Nat) : Nat → Nat
  | 0 => 1
  | k + 1 => dn n k * (n - k)
theorem dn_succ (n : Nat) : ∀ k, dn (n + 1) (k + 1) = (n + 1) * dn n k
  | 0 => by simp [dn]
  | k + 1 => by
    rw [dn, dn_succ n k, show n + 1 - (k + 1) = n - k by omega, Nat.mul_assoc]; rfl
theorem dn_cho : ∀ (n k : Nat), dn n k = cho n k * fac k
  | n, 0 => by rw [cho_zero]; rfl
  | 0, k + 1 => by
    show dn 0 k * (0 - k) = 0 * _
    simp
  | n + 1, k + 1 => by
    rw [dn_succ, dn_cho n k, show fac (k + 1) = fac k * (k + 1) from rfl, ← Nat.mul_assoc (n + 1), ← cho_mul n k, Nat.mul_assoc, Nat.mul_comm (k + 1)]
/-- what is divided by 1, 2, .. -/
theorem divs (z n : Nat) : ∀ k ≤ n, ∃ w, (List.range k).foldl (fun f i => f / (i + 1)) (z * fac n) = w ∧ w * fac k = z * fac n
  | 0, _ => ⟨_, rfl, by simp [fac]⟩
  | k + 1, h => by
    obtain ⟨w, e1, e2⟩ := divs z n k (by omega)
    have hf : ∃ q, fac n = q * fac (k + 1) := by
      clear e1 e2 w
      induction n with
      | zero => omega
      | succ n ih =>
        by_cases e : k + 1 = n + 1
        · exact ⟨1, by rw [e]; omega⟩
        · obtain ⟨q, hq⟩ := ih (by omega)
          exact ⟨q * (n + 1), by rw [fac, hq, Nat.mul_right_comm]⟩
    have pf : ∀ k, 0 < fac k := by
      intro k
      induction k with
      | zero => exact Nat.zero_lt_one
      | succ k ih => exact Nat.mul_pos ih (Nat.succ_pos _)
    obtain ⟨q, hq⟩ := hf
    refine ⟨w / (k + 1), by rw [List.range_succ, List.foldl_append, e1]; rfl, ?_⟩
    have : w = z * q * (k + 1) := by
      have h2 : w * fac k = (z * q * (k + 1)) * fac k := by
        rw [e2, hq, fac]; simp only [Nat.mul_assoc]; rw [Nat.mul_comm (fac k)]
      exact Nat.eq_of_mul_eq_mul_right (pf k) h2
    rw [this, Nat.mul_div_cancel _ (Nat.succ_pos k), hq, Nat.mul_assoc]
theorem divs_all (z n : Nat) : (List.range n).foldl (fun f i => f / (i + 1)) (z * fac n) = z := by
  obtain ⟨w, e1, e2⟩ := divs z n n (Nat.le_refl _)
  have pf : 0 < fac n := by
    clear e1 e2
    induction n with
    | zero => exact Nat.zero_lt_one
    | succ k ih => exact Nat.mul_pos ih (Nat.succ_pos _)
  rw [e1]
  exact Nat.eq_of_mul_eq_mul_right pf e2
theorem downs (z n : Nat) : ∀ k, (List.range k).foldl (fun f i => f * (n - i)) z = z * dn n k
  | 0 => by simp [dn]
  | k + 1 => by rw [List.range_succ, List.foldl_append, downs z n k]; show z * dn n k * (n - k) = _; rw [dn, Nat.mul_assoc]
/-- the program's steps for one room -/
theorem room_steps (z n k : Nat) : (List.range k).foldl (fun f i => f / (i + 1)) ((List.range k).foldl (fun f i => f * (n - i)) z) = z * cho n k := by
  rw [downs, dn_cho, ← Nat.mul_assoc, divs_all]
/-! ### products -/
def prd (f : Nat → Nat) : Nat → Nat
  | 0 => 1
  | n + 1 => prd f n * f n
theorem prd_congr {f g : Nat → Nat} : ∀ {n : Nat}, (∀ i < n, f i = g i) → prd f n = prd g n
  | 0, _ => rfl
  | n + 1, h => by rw [prd, prd, prd_congr fun i hi => h i (by omega), h n (by omega)]
theorem prd_add {f g h : Nat → Nat} {k : Nat} : ∀ {n : Nat}, k < n → f k = g k + h k → (∀ i < n, i ≠ k → f i = g i ∧ f i = h i) → prd f n = prd g n + prd h n
  | 0, hk, _, _ => absurd hk (Nat.not_lt_zero _)
  | n + 1, hk, e, H => by
    rw [prd, prd, prd]
    by_cases q : k = n
    · subst q
      rw [e, Nat.mul_add, prd_congr (f := f) (g := g) fun i hi => (H i (by omega) (by omega)).1]
      congr 1
      rw [← prd_congr (f := f) (g := g) fun i hi => (H i (by omega) (by omega)).1, prd_congr (f := f) (g := h) fun i hi => (H i (by omega) (by omega)).2]
    · rw [prd_add (n := n) (by omega) e fun i hi ne => H i (by omega) ne, Nat.add_mul, (H n (by omega) (Ne.symm q)).1]
      congr 1
      rw [← (H n (by omega) (Ne.symm q)).1, (H n (by omega) (Ne.symm q)).2]
theorem prd_zero {f : Nat → Nat} {k : Nat} : ∀ {n : Nat}, k < n → f k = 0 → prd f n = 0
  | 0, hk, _ => absurd hk (Nat.not_lt_zero _)
  | n + 1, hk, e => by
    rw [prd]
    by_cases q : k = n
    · subst q; rw [e, Nat.mul_zero]
    · rw [prd_zero (n := n) (by omega) e, Nat.zero_mul]
theorem prd_pos {f : Nat → Nat} : ∀ {n : Nat}, (∀ i < n, 0 < f i) → 0 < prd f n
  | 0, _ => Nat.zero_lt_one
  | n + 1, h => Nat.mul_pos (prd_pos fun i hi => h i (by omega)) (h n (by omega))
/-! ### rows by kinds -/
def sbs (n : Nat) : List (List Nat) := (List.range n).foldl (fun rows k => rows ++ rows.map (· ++ [k])) [[]]
theorem sbs_succ (n : Nat) : sbs (n + 1) = sbs n ++ (sbs n).map (· ++ [n]) := by
  unfold sbs
  rw [List.range_succ, List.foldl_append]
  rfl
def isK (c : Nat → Option Nat) (k : Nat) (b : Nat) : Bool := c b == some k
def goodC (c : Nat → Option Nat) (n : Nat) (o : Nat → Nat) (r : List Nat) : Bool := (List.range n).all fun k => r.countP (isK c k) == o k
def szK (c : Nat → Option Nat) (m k : Nat) : Nat := (List.range m).countP (isK c k)
def fr (c : Nat → Option Nat) (m : Nat) : Nat := (List.range m).countP fun b => c b == none
theorem szK_succ (c : Nat → Option Nat) (m k : Nat) : szK c (m + 1) k = szK c m k + if isK c k m then 1 else 0 := by
  unfold szK
  rw [List.range_succ, List.countP_append, List.countP_singleton]
theorem fr_succ (c : Nat → Option Nat) (m : Nat) : fr c (m + 1) = fr c m + if c m == none then 1 else 0 := by
  unfold fr
  rw [List.range_succ, List.countP_append, List.countP_singleton]
theorem goodC_iff {c : Nat → Option Nat} {n : Nat} {o : Nat → Nat} {r : List Nat} : goodC c n o r = true ↔ ∀ k < n, r.countP (isK c k) = o k := by
  unfold goodC
  rw [List.all_eq_true]
  simp only [List.mem_range, beq_iff_eq]
theorem cnt_app (c : Nat → Option Nat) (k : Nat) (r : List Nat) (m : Nat) : (r ++ [m]).countP (isK c k) = r.countP (isK c k) + if isK c k m then 1 else 0 := by
  rw [List.countP_append, List.countP_singleton]
theorem count_rows {c : Nat → Option Nat} {n : Nat} (hc : ∀ b k, c b = some k → k < n) : ∀ (m : Nat) (o : Nat → Nat), ((sbs m).filter (goodC c n o)).length = prd (fun k => cho (szK c m k) (o k)) n * 2 ^ fr c m
  | 0, o => by
    show (([[]] : List (List Nat)).filter (goodC c n o)).length = prd (fun k => cho 0 (o k)) n * 2 ^ 0
    rw [Nat.pow_zero, Nat.mul_one]
    by_cases h : ∀ k < n, o k = 0
    · have : goodC c n o [] = true := goodC_iff.mpr fun k hk => by rw [h k hk]; rfl
      rw [List.filter_cons_of_pos this, prd_congr (f := fun k => cho 0 (o k)) (g := fun _ => 1) fun i hi => by show cho 0 (o i) = 1; rw [h i hi]; rfl]
      clear h hc this
      have p1 : ∀ n, prd (fun _ => 1) n = 1 := by
        intro n
        induction n with
        | zero => rfl
        | succ n ih => rw [prd, ih]
      rw [p1]; rfl
    · have : ∃ k, k < n ∧ o k ≠ 0 := Classical.byContradiction fun q => h fun k hk => Classical.byContradiction fun e => q ⟨k, hk, e⟩
      obtain ⟨k, hk, e⟩ := this
      have g : ¬ goodC c n o [] = true := fun g => e (goodC_iff.mp g k hk).symm
      rw [List.filter_cons_of_neg g, prd_zero hk]
      · rfl
      · show cho 0 (o k) = 0
        cases q : o k with
        | zero => exact absurd q e
        | succ j => rfl
  | m + 1, o => by
    rw [sbs_succ, List.filter_append, List.length_append, count_rows hc m o, List.filter_map, List.length_map]
    cases e : c m with
    | none =>
      have hk : ∀ k, isK c k m = false := fun k => by unfold isK; rw [e]; rfl
      have e1 : ((sbs m).filter (goodC c n o ∘ (· ++ [m]))) = (sbs m).filter (goodC c n o) := List.filter_congr fun r _ => by
        show goodC c n o (r ++ [m]) = _
        unfold goodC
        congr 1
        funext k
        rw [cnt_app, hk k]; rfl
      have e2 : fr c (m + 1) = fr c m + 1 := by rw [fr_succ, e]; rfl
      have e3 : ∀ k, szK c (m + 1) k = szK c m k := fun k => by rw [szK_succ, hk k]; rfl
      rw [e1, count_rows hc m o, e2, Nat.pow_succ]
      rw [prd_congr (f := fun k => cho (szK c (m + 1) k) (o k)) (g := fun k => cho (szK c m k) (o k)) fun i _ => by show cho (szK c (m + 1) i) (o i) = _; rw [e3]]
      rw [← Nat.mul_assoc, Nat.mul_two]
    | some k =>
      have hkn := hc m k e
      have hk : isK c k m = true := by unfold isK; rw [e]; exact beq_self_eq_true _
      have hi : ∀ i, i ≠ k → isK c i m = false := fun i ne => by
        unfold isK; rw [e]
        exact beq_eq_false_iff_ne.mpr fun h => ne (Option.some.inj h).symm
      have e2 : fr c (m + 1) = fr c m := by rw [fr_succ, e]; rfl
      have e3 : ∀ i, i ≠ k → szK c (m + 1) i = szK c m i := fun i ne => by rw [szK_succ, hi i ne]; rfl
      have e4 : szK c (m + 1) k = szK c m k + 1 := by rw [szK_succ, hk]; rfl
      rw [e2]
      cases q : o k with
      | zero =>
        have e1 : ((sbs m).filter (goodC c n o ∘ (· ++ [m]))) = [] := List.filter_eq_nil_iff.mpr fun r _ h => by
          have := goodC_iff.mp h k hkn
          rw [cnt_app, hk, q] at this
          simp at this
        rw [e1, List.length_nil, Nat.add_zero]
        congr 1
        refine prd_congr fun i _ => ?_
        by_cases ne : i = k
        · subst ne; rw [q, cho_zero, cho_zero]
        · rw [e3 i ne]
      | succ s =>
        have e1 : ((sbs m).filter (goodC c n o ∘ (· ++ [m]))) = (sbs m).filter (goodC c n fun i => if i = k then s else o i) := List.filter_congr fun r _ => by
          rw [Bool.eq_iff_iff]
          show goodC c n o (r ++ [m]) = true ↔ _
          rw [goodC_iff, goodC_iff]
          constructor
          · intro h i hin
            have := h i hin
            rw [cnt_app] at this
            by_cases ne : i = k
            · subst ne
              rw [if_pos rfl]
              rw [hk, q] at this
              simpa using this
            · rw [if_neg ne]
              rw [hi i ne] at this
              simpa using this
          · intro h i hin
            have := h i hin
            rw [cnt_app]
            by_cases ne : i = k
            · subst ne
              rw [if_pos rfl] at this
              rw [hk, q, this]; rfl
            · rw [if_neg ne] at this
              rw [hi i ne, this]; rfl
        rw [e1, count_rows hc m, ← Nat.add_mul]
        congr 1
        rw [Nat.add_comm]
        refine (prd_add (k := k) hkn ?_ fun i _ ne => ?_).symm
        · show cho (szK c (m + 1) k) (o k) = cho (szK c m k) (if k = k then s else o k) + cho (szK c m k) (o k)
          rw [e4, q, if_pos rfl, cho]
        · show cho (szK c (m + 1) i) (o i) = cho (szK c m i) (if i = k then s else o i) ∧ cho (szK c (m + 1) i) (o i) = cho (szK c m i) (o i)
          rw [e3 i ne, if_neg ne]
          exact ⟨rfl, rfl⟩
end K21

end
section
set_option Elab.async false
set_option linter.all false
set_option maxHeartbeats 4000000
/-! K21o: the first row with so many of each kind: plain mathematics. -/
namespace K21
/-! ### the order of rows -/
def ltR : List Nat → List Nat → Bool
  | _, [] => false
  | [], _ :: _ => true
  | x :: xs, y :: ys => decide (x < y) || (decide (x = y) && ltR xs ys)
theorem ltR_split : ∀ {a b : List Nat}, ltR a b = true → (∃ t, t ≠ [] ∧ b = a ++ t) ∨ ∃ p x xs y ys, a = p ++ x :: xs ∧ b = p ++ y :: ys ∧ x < y
  | a, [], h => by cases a <;> cases h
  | [], y :: ys, _ => .inl ⟨y :: ys, by simp, rfl⟩
  | x :: xs, y :: ys, h => by
    simp only [ltR, Bool.or_eq_true, Bool.and_eq_true, decide_eq_true_eq] at h
    rcases h with h | ⟨rfl, h⟩
    · exact .inr ⟨[], x, xs, y, ys, rfl, rfl, h⟩
    · rcases ltR_split h with ⟨t, h1, rfl⟩ | ⟨p, u, us, v, vs, rfl, rfl, h1⟩
      · exact .inl ⟨t, h1, rfl⟩
      · exact .inr ⟨x :: p, u, us, v, vs, rfl, rfl, h1⟩
/-! ### the greedy row -/
section
variable (c : Nat → Option Nat) (o : Nat → Nat)
def fb (b : Nat) : Bool := match c b with
  | some k => decide (szK c b k < o k)
  | none => false
/-- the first of each kind -/
def grd (m : Nat) : List Nat := (List.range m).filter (fb c o)
theorem grd_succ (m : Nat) : grd c o (m + 1) = grd c o m ++ if fb c o m then [m] else [] := by
  unfold grd
  rw [List.range_succ, List.filter_append]
  cases h : fb c o m <;> simp [h]
theorem grd_asc (m : Nat) : Asc (grd c o m) := asc_filter _ List.pairwise_lt_range
theorem mem_grd {m b : Nat} : b ∈ grd c o m ↔ b < m ∧ fb c o b = true := by
  unfold grd
  rw [List.mem_filter, List.mem_range]
theorem fb_some {b k : Nat} (h : c b = some k) : fb c o b = decide (szK c b k < o k) := by unfold fb; rw [h]
theorem fb_none {b : Nat} (h : c b = none) : fb c o b = false := by unfold fb; rw [h]
theorem fb_ex {b : Nat} (h : fb c o b = true) : ∃ k, c b = some k ∧ szK c b k < o k := by
  unfold fb at h
  cases e : c b with
  | none => rw [e] at h; cases h
  | some k => rw [e] at h; exact ⟨k, rfl, of_decide_eq_true h⟩
theorem isK_iff {b k : Nat} : isK c k b = true ↔ c b = some k := by unfold isK; rw [beq_iff_eq]
theorem grd_count (k : Nat) : ∀ m, (grd c o m).countP (isK c k) = min (o k) (szK c m k)
  | 0 => by
    show 0 = min (o k) 0
    simp
  | m + 1 => by
    rw [grd_succ, List.countP_append, grd_count k m, szK_succ]
    by_cases q : isK c k m = true
    · have e := (isK_iff c).mp q
      rw [if_pos q, fb_some c o e]
      by_cases h : szK c m k < o k
      · rw [if_pos (decide_eq_true h), List.countP_singleton, if_pos q]; omega
      · rw [if_neg (by simpa using h)]
        simp only [List.countP_nil]
        omega
    · rw [if_neg q]
      have : (if fb c o m = true then [m] else ([] : List Nat)).countP (isK c k) = 0 := by
        split
        · rw [List.countP_singleton, if_neg q]
        · rfl
      rw [this, Nat.add_zero, Nat.add_zero]
/-- last of the row, or none -/
def lst1 (m : Nat) : Nat := match (grd c o m).getLast? with | some x => x + 1 | none => 0
def gb (m b : Nat) : Bool := fb c o b || (c b == none && decide (b + 1 < lst1 c o m))
def best (m : Nat) : List Nat := (List.range m).filter (gb c o m)
theorem lst1_le {m b : Nat} (h : b ∈ grd c o m) : b + 1 ≤ lst1 c o m := by
  unfold lst1
  rcases List.eq_nil_or_concat (grd c o m) with e | ⟨t, y, e⟩
  · rw [e] at h; cases h
  · rw [List.concat_eq_append] at e
    rw [e, List.getLast?_concat]
    show b + 1 ≤ y + 1
    rw [e] at h
    have ha := grd_asc c o m
    rw [e] at ha
    rcases List.mem_append.mp h with h | h
    · have := (List.pairwise_append.mp ha).2.2 b h y (by simp); omega
    · rw [List.mem_singleton] at h; omega
theorem lst1_mem {m b : Nat} (h : b + 1 < lst1 c o m) : ∃ f, f ∈ grd c o m ∧ b < f := by
  unfold lst1 at h
  rcases List.eq_nil_or_concat (grd c o m) with e | ⟨t, y, e⟩
  · rw [e] at h; exact absurd h (Nat.not_lt_zero _)
  · rw [List.concat_eq_append] at e
    rw [e, List.getLast?_concat] at h
    have h : b + 1 < y + 1 := h
    exact ⟨y, by rw [e]; simp, by omega⟩
theorem mem_best {m b : Nat} : b ∈ best c o m ↔ b < m ∧ gb c o m b = true := by
  unfold best
  rw [List.mem_filter, List.mem_range]
theorem best_asc (m : Nat) : Asc (best c o m) := asc_filter _ List.pairwise_lt_range
theorem gb_iff {m b : Nat} : gb c o m b = true ↔ fb c o b = true ∨ (c b = none ∧ b + 1 < lst1 c o m) := by
  unfold gb
  rw [Bool.or_eq_true, Bool.and_eq_true, decide_eq_true_eq, beq_iff_eq]
theorem best_count (k m : Nat) : (best c o m).countP (isK c k) = min (o k) (szK c m k) := by
  rw [← grd_count c o k m]
  unfold best grd
  rw [List.countP_filter, List.countP_filter]
  refine List.countP_congr fun b _ => ?_
  rw [Bool.and_eq_true, Bool.and_eq_true]
  refine and_congr_right fun h => ?_
  rw [gb_iff]
  have := (isK_iff c).mp h
  constructor
  · rintro (h | ⟨h, _⟩)
    · exact h
    · rw [this] at h; cases h
  · exact .inl
theorem best_good {n m : Nat} (h : ∀ k < n, o k ≤ szK c m k) : goodC c n o (best c o m) = true :=
  goodC_iff.mpr fun k hk => by rw [best_count]; have := h k hk; omega
/-- none that fits is ahead -/
theorem best_least {n m : Nat} (hc : ∀ b k, c b = some k → k < n) (h : ∀ k < n, o k ≤ szK c m k) {X : List Nat} (hX : Asc X) (hm : ∀ x ∈ X, x < m) (hg : goodC c n o X = true) : ltR X (best c o m) = false := by
  cases q : ltR X (best c o m) with
  | false => rfl
  | true =>
    exfalso
    have hG := best_asc c o m
    rcases ltR_split q with ⟨t, ht, e⟩ | ⟨p, x, xs, g, gs, e1, e2, hlt⟩
    · obtain ⟨g, hgt⟩ : ∃ g, g ∈ t := List.exists_mem_of_ne_nil t ht
      rw [e] at hG
      have h3 := (List.pairwise_append.mp hG).2.2
      have : ∃ f, f ∈ grd c o m ∧ f ∈ t := by
        have hgb : g ∈ best c o m := by rw [e]; exact List.mem_append_right _ hgt
        obtain ⟨g1, g2⟩ := (mem_best c o).mp hgb
        rcases (gb_iff c o).mp g2 with h | ⟨_, h⟩
        · exact ⟨g, (mem_grd c o).mpr ⟨g1, h⟩, hgt⟩
        · obtain ⟨f, hf, hl⟩ := lst1_mem c o h
          refine ⟨f, hf, ?_⟩
          obtain ⟨f1, f2⟩ := (mem_grd c o).mp hf
          have hfb : f ∈ best c o m := (mem_best c o).mpr ⟨f1, (gb_iff c o).mpr (.inl f2)⟩
          rw [e] at hfb
          rcases List.mem_append.mp hfb with h | h
          · have := h3 f h g hgt; omega
          · exact h
      obtain ⟨f, hf, hft⟩ := this
      obtain ⟨k, hk, _⟩ := fb_ex c o ((mem_grd c o).mp hf).2
      have e3 := goodC_iff.mp hg k (hc f k hk)
      have e4 := goodC_iff.mp (best_good c o h) k (hc f k hk)
      rw [e, List.countP_append, e3] at e4
      have : 0 < t.countP (isK c k) := List.countP_pos_iff.mpr ⟨f, hft, (isK_iff c).mpr hk⟩
      omega
    · rw [e1] at hX
      have hp1 := (List.pairwise_append.mp hX)
      rw [e2] at hG
      have hp2 := (List.pairwise_append.mp hG)
      have hxm : x < m := hm x (by rw [e1]; simp)
      have hgb : g ∈ best c o m := by rw [e2]; simp
      have hpx : ∀ y ∈ p, y < x := fun y hy => hp1.2.2 y hy x (by simp)
      have hgg : ∀ y ∈ g :: gs, x < y := fun y hy => by
        rcases List.mem_cons.mp hy with rfl | hy
        · exact hlt
        · have := (List.pairwise_cons.mp hp2.2.1).1 y hy; omega
      have hx : x ∉ best c o m := fun hx => by
        rw [e2] at hx
        rcases List.mem_append.mp hx with hx | hx
        · exact Nat.lt_irrefl _ (hpx x hx)
        · exact Nat.lt_irrefl _ (hgg x hx)
      have hl : x + 1 < lst1 c o m := by
        obtain ⟨g1, g2⟩ := (mem_best c o).mp hgb
        rcases (gb_iff c o).mp g2 with h | ⟨_, h⟩
        · have := lst1_le c o ((mem_grd c o).mpr ⟨g1, h⟩); omega
        · omega
      have hxg : ¬ (fb c o x = true ∨ (c x = none ∧ x + 1 < lst1 c o m)) := fun h => hx ((mem_best c o).mpr ⟨hxm, (gb_iff c o).mpr h⟩)
      cases e : c x with
      | none => exact hxg (.inr ⟨e, hl⟩)
      | some k =>
        have hf : ¬ szK c x k < o k := fun h => hxg (.inl (by rw [fb_some c o e]; exact decide_eq_true h))
        have e3 := goodC_iff.mp hg k (hc x k e)
        rw [e1, List.countP_append, List.countP_cons, if_pos ((isK_iff c).mpr e)] at e3
        have e5 : p.countP (isK c k) = (grd c o x).countP (isK c k) := by
          have : p = (List.range x).filter (gb c o m) := by
            refine asc_ext hp1.1 (asc_filter _ List.pairwise_lt_range) fun y => ?_
            rw [List.mem_filter, List.mem_range]
            constructor
            · intro hy
              exact ⟨hpx y hy, ((mem_best c o).mp (by rw [e2]; exact List.mem_append_left _ hy)).2⟩
            · rintro ⟨h1, h2⟩
              have : y ∈ best c o m := (mem_best c o).mpr ⟨by omega, h2⟩
              rw [e2] at this
              rcases List.mem_append.mp this with h | h
              · exact h
              · have := hgg y h; omega
          rw [this]
          unfold grd
          rw [List.countP_filter, List.countP_filter]
          refine List.countP_congr fun b _ => ?_
          rw [Bool.and_eq_true, Bool.and_eq_true]
          refine and_congr_right fun h => ?_
          rw [gb_iff]
          have := (isK_iff c).mp h
          constructor
          · rintro (h | ⟨h, _⟩)
            · exact h
            · rw [this] at h; cases h
          · exact .inl
        rw [grd_count c o k x] at e5
        omega
end
end K21

end
section
set_option Elab.async false
set_option linter.all false
set_option maxHeartbeats 4000000
/-! K21p: nested sayings: how many lists, the first list (no program in sight). -/
namespace K21
def cl (L : List Say) (b : Nat) : Option Nat := (List.range L.length).find? fun k => (own L k).contains b
def oN (L : List Say) (k : Nat) : Nat := (ownN L k).toNat
def badB (L : List Say) (k : Nat) : Bool := !(decide (0 ≤ ownN L k) && decide (ownN L k ≤ ((own L k).length : Int)))
def bad (L : List Say) : Option Nat := (List.range L.length).find? (badB L)
def inRow (L : List Say) (b : Nat) : Bool := L.any fun p => p.1.contains b
def goodL (L : List Say) (X : List Nat) : Bool := L.all fun p => (p.1.filter X.contains).length == p.2
structure NestM (L : List Say) (m : Nat) : Prop extends Nest L where
  low : ∀ k < L.length, ∀ x ∈ rw' L k, x < m
section
variable {L : List Say} {m : Nat}
theorem getL {k : Nat} (h : k < L.length) : L.getD k ([], 0) ∈ L := by
  rw [List.getD_eq_getElem?_getD, List.getElem?_eq_getElem h]
  exact List.getElem_mem h
theorem getL_ex {p : Say} (h : p ∈ L) : ∃ k < L.length, L.getD k ([], 0) = p := by
  obtain ⟨k, hk, e⟩ := List.getElem_of_mem h
  exact ⟨k, hk, by rw [List.getD_eq_getElem?_getD, List.getElem?_eq_getElem hk, e]; rfl⟩
theorem own_asc (h : NestM L m) {k : Nat} (hk : k < L.length) : Asc (own L k) := asc_filter _ (h.asc k hk)
theorem own_low (h : NestM L m) {k : Nat} (hk : k < L.length) : ∀ x ∈ own L k, x < m := fun x hx => h.low k hk x (mem_own.mp hx).1
theorem cl_some (h : NestM L m) {b k : Nat} : cl L b = some k ↔ k < L.length ∧ b ∈ own L k := by
  constructor
  · intro e
    have h1 := List.find?_some e
    have h2 := List.mem_of_find?_eq_some e
    exact ⟨List.mem_range.mp h2, List.contains_iff_mem.mp h1⟩
  · rintro ⟨hk, hb⟩
    cases e : cl L b with
    | none =>
      have := List.find?_eq_none.mp e k (List.mem_range.mpr hk)
      exact absurd (List.contains_iff_mem.mpr hb) this
    | some i =>
      have h1 := List.find?_some e
      have h2 := List.mem_of_find?_eq_some e
      rw [own_apart h.toNest (List.mem_range.mp h2) hk (List.contains_iff_mem.mp h1) hb]
theorem cl_lt {b k : Nat} (e : cl L b = some k) : k < L.length := List.mem_range.mp (List.mem_of_find?_eq_some e)
theorem inRow_iff {b : Nat} : inRow L b = true ↔ ∃ k < L.length, b ∈ rw' L k := by
  unfold inRow
  rw [List.any_eq_true]
  constructor
  · rintro ⟨p, hp, hb⟩
    obtain ⟨k, hk, e⟩ := getL_ex hp
    exact ⟨k, hk, by unfold rw'; rw [e]; exact List.contains_iff_mem.mp hb⟩
  · rintro ⟨k, hk, hb⟩
    exact ⟨_, getL hk, List.contains_iff_mem.mpr hb⟩
theorem cl_none {b : Nat} : (cl L b == none) = !inRow L b := by
  rw [Bool.eq_iff_iff, beq_iff_eq, Bool.not_eq_true']
  constructor
  · intro e
    cases q : inRow L b with
    | false => rfl
    | true =>
      obtain ⟨k, hk, hb⟩ := inRow_iff.mp q
      obtain ⟨i, hi, hb⟩ := own_ex _ k (Nat.le_refl _) hk hb
      exact absurd (List.contains_iff_mem.mpr hb) (List.find?_eq_none.mp e i (List.mem_range.mpr hi))
  · intro q
    refine List.find?_eq_none.mpr fun k hk hb => ?_
    have : inRow L b = true := inRow_iff.mpr ⟨k, List.mem_range.mp hk, (mem_own.mp (List.contains_iff_mem.mp hb)).1⟩
    rw [q] at this; cases this
theorem isK_own (h : NestM L m) {k : Nat} (hk : k < L.length) (b : Nat) : isK (cl L) k b = (own L k).contains b := by
  rw [Bool.eq_iff_iff, isK_iff, List.contains_iff_mem, cl_some h]
  exact ⟨fun h => h.2, fun h => ⟨hk, h⟩⟩
theorem cnt_own (h : NestM L m) {k : Nat} (hk : k < L.length) {X : List Nat} (hX : Asc X) : X.countP (isK (cl L) k) = (own L k).countP X.contains := by
  rw [List.countP_eq_length_filter, List.countP_eq_length_filter, ← filt_swap hX (own_asc h hk)]
  congr 1
  exact List.filter_congr fun b _ => isK_own h hk b
theorem szK_own (h : NestM L m) {k : Nat} (hk : k < L.length) : szK (cl L) m k = (own L k).length := by
  unfold szK
  rw [cnt_own h hk List.pairwise_lt_range, List.countP_eq_length]
  exact fun x hx => List.contains_iff_mem.mpr (List.mem_range.mpr (own_low h hk x hx))
theorem badB_iff {k : Nat} : badB L k = false ↔ 0 ≤ ownN L k ∧ ownN L k ≤ ((own L k).length : Int) := by
  unfold badB
  rw [Bool.not_eq_false', Bool.and_eq_true, decide_eq_true_eq, decide_eq_true_eq]
theorem bad_none (h : bad L = none) {k : Nat} (hk : k < L.length) : 0 ≤ ownN L k ∧ ownN L k ≤ ((own L k).length : Int) :=
  badB_iff.mp (by simpa using List.find?_eq_none.mp h k (List.mem_range.mpr hk))
theorem goodL_iff {X : List Nat} : goodL L X = true ↔ ∀ k < L.length, (rw' L k).countP X.contains = nm L k := by
  unfold goodL
  rw [List.all_eq_true]
  constructor
  · intro h k hk
    have := h _ (getL hk)
    rw [beq_iff_eq, ← List.countP_eq_length_filter] at this
    exact this
  · intro h p hp
    obtain ⟨k, hk, e⟩ := getL_ex hp
    have := h k hk
    unfold rw' nm at this
    rw [e] at this
    rw [beq_iff_eq, ← List.countP_eq_length_filter]
    exact this
theorem good_goodC (h : NestM L m) (hb : bad L = none) {X : List Nat} (hX : Asc X) : goodL L X = goodC (cl L) L.length (oN L) X := by
  rw [Bool.eq_iff_iff, goodL_iff, good_own h.toNest, goodC_iff]
  constructor
  · intro g k hk
    have := g k hk
    rw [cnt_own h hk hX]
    unfold oN
    omega
  · intro g k hk
    have := g k hk
    have b := bad_none hb hk
    rw [cnt_own h hk hX] at this
    unfold oN at this
    omega
theorem bad_good (h : NestM L m) {k : Nat} (hb : bad L = some k) (X : List Nat) : goodL L X = false := by
  cases q : goodL L X with
  | false => rfl
  | true =>
    have g := (good_own h.toNest _).mp (goodL_iff.mp q) k (List.mem_range.mp (List.mem_of_find?_eq_some hb))
    have b := List.find?_some hb
    have : ¬ (0 ≤ ownN L k ∧ ownN L k ≤ ((own L k).length : Int)) := fun hc => by rw [badB_iff.mpr hc] at b; cases b
    have := List.countP_le_length (p := X.contains) (l := own L k)
    omega
theorem mem_sbs : ∀ (n : Nat) (r : List Nat), r ∈ sbs n → Asc r ∧ ∀ s ∈ r, s < n
  | 0, r, h => by
    have h : r ∈ [[]] := h
    rw [List.mem_singleton] at h
    subst h
    exact ⟨List.Pairwise.nil, fun s hs => by cases hs⟩
  | n + 1, r, h => by
    rw [sbs_succ, List.mem_append, List.mem_map] at h
    rcases h with h | ⟨q, hq, rfl⟩
    · obtain ⟨h1, h2⟩ := mem_sbs n r h
      exact ⟨h1, fun s hs => Nat.lt_succ_of_lt (h2 s hs)⟩
    · obtain ⟨h1, h2⟩ := mem_sbs n q hq
      refine ⟨List.pairwise_append.mpr ⟨h1, List.pairwise_singleton _ _, fun a ha b hb => ?_⟩, fun s hs => ?_⟩
      · rw [List.mem_singleton] at hb; subst hb; exact h2 a ha
      · rcases List.mem_append.mp hs with h | h
        · exact Nat.lt_succ_of_lt (h2 s h)
        · rw [List.mem_singleton] at h; omega
/-- how many lists -/
def many (L : List Say) (m : Nat) : Nat := if (bad L).isSome then 0 else prd (fun k => cho (own L k).length (oN L k)) L.length * 2 ^ fr (cl L) m
theorem many_ok (h : NestM L m) : ((sbs m).filter (goodL L)).length = many L m := by
  unfold many
  cases hb : bad L with
  | none =>
    rw [if_neg (by simp), List.filter_congr fun r hr => good_goodC h hb (mem_sbs m r hr).1, count_rows fun b k e => cl_lt e]
    congr 1
    exact prd_congr fun k hk => by rw [szK_own h hk]
  | some k =>
    rw [if_pos (show (some k).isSome = true from rfl), List.length_eq_zero_iff, List.filter_eq_nil_iff]
    exact fun r _ g => by rw [bad_good h hb] at g; cases g
theorem many_pos (h : NestM L m) (hb : bad L = none) : 0 < many L m := by
  unfold many
  rw [hb, if_neg (by simp)]
  refine Nat.mul_pos (prd_pos fun k hk => cho_pos _ _ ?_) (Nat.pow_pos (by decide))
  have := bad_none hb hk
  unfold oN; omega
/-- the first list -/
theorem oN_le (h : NestM L m) (hb : bad L = none) : ∀ k < L.length, oN L k ≤ szK (cl L) m k := fun k hk => by
  have := bad_none hb hk
  rw [szK_own h hk]
  unfold oN; omega
def fst (L : List Say) (m : Nat) : List Nat := best (cl L) (oN L) m
theorem fst_asc : Asc (fst L m) := best_asc _ _ m
theorem fst_low : ∀ x ∈ fst L m, x < m := fun x hx => ((mem_best _ _).mp hx).1
theorem fst_good (h : NestM L m) (hb : bad L = none) : goodL L (fst L m) = true := by
  rw [good_goodC h hb fst_asc]
  exact best_good _ _ (oN_le h hb)
theorem fst_least (h : NestM L m) (hb : bad L = none) {X : List Nat} (hX : Asc X) (hm : ∀ x ∈ X, x < m) (hg : goodL L X = true) : ltR X (fst L m) = false :=
  best_least _ _ (fun b k e => cl_lt e) (oN_le h hb) hX hm (by rw [← good_goodC h hb hX]; exact hg)
/-! ### the program's steps -/
def addR (L : List Say) (b : Nat) (f : List Nat) (k : Nat) : List Nat := if (own L k).contains b && decide (((f.filter (own L k).contains).length : Int) < ownN L k) then f ++ [b] else f
def addB (L : List Say) (f : List Nat) (b : Nat) : List Nat := (List.range L.length).foldl (addR L b) f
theorem addB_ok (h : NestM L m) (hb : bad L = none) {j : Nat} (hj : j < m) : addB L (grd (cl L) (oN L) j) j = grd (cl L) (oN L) (j + 1) := by
  rw [grd_succ]
  have key : ∀ n ≤ L.length, (List.range n).foldl (addR L j) (grd (cl L) (oN L) j) = grd (cl L) (oN L) j ++ if fb (cl L) (oN L) j && (match cl L j with | some k => decide (k < n) | none => false) then [j] else [] := by
    intro n
    induction n with
    | zero =>
      intro _
      have : (match cl L j with | some k => decide (k < 0) | none => false) = false := by cases cl L j <;> simp
      rw [this, Bool.and_false]; simp
    | succ n ih =>
      intro hn
      rw [List.range_succ, List.foldl_append, ih (by omega)]
      show addR L j _ n = _
      by_cases q : cl L j = some n
      · have hm := ((cl_some h).mp q)
        rw [q, fb_some _ _ q]
        have e1 : decide (n < n) = false := decide_eq_false (Nat.lt_irrefl _)
        have e2 : decide (n < n + 1) = true := decide_eq_true (Nat.lt_succ_self _)
        simp only [e1, e2, Bool.and_false, Bool.and_true, Bool.false_eq_true, if_false, List.append_nil]
        unfold addR
        rw [List.contains_iff_mem.mpr hm.2, Bool.true_and]
        have e3 : ((grd (cl L) (oN L) j).filter (own L n).contains).length = min (oN L n) (szK (cl L) j n) := by
          rw [← grd_count, List.countP_eq_length_filter]
          congr 1
          exact List.filter_congr fun b _ => (isK_own h hm.1 b).symm
        rw [e3]
        have b := bad_none hb hm.1
        have e4 : decide (((min (oN L n) (szK (cl L) j n) : Nat) : Int) < ownN L n) = decide (szK (cl L) j n < oN L n) := by
          rw [decide_eq_decide]
          unfold oN
          omega
        rw [e4]
        cases decide (szK (cl L) j n < oN L n) <;> simp
      · have hm : (own L n).contains j = false := by
          cases e : (own L n).contains j with
          | false => rfl
          | true => exact absurd ((cl_some h).mpr ⟨by omega, List.contains_iff_mem.mp e⟩) q
        unfold addR
        rw [hm, Bool.false_and, if_neg Bool.false_ne_true]
        congr 3
        cases e : cl L j with
        | none => rfl
        | some k =>
          congr 1
          show decide (k < n) = decide (k < n + 1)
          rw [decide_eq_decide]
          have : k ≠ n := fun e2 => q (e2 ▸ e)
          omega
  have := key L.length (Nat.le_refl _)
  unfold addB
  rw [this]
  congr 2
  rw [eq_iff_iff]
  cases e : cl L j with
  | none => rw [fb_none _ _ e]; simp
  | some k => simp [cl_lt e]
theorem found_ok (h : NestM L m) (hb : bad L = none) : ∀ j ≤ m, (List.range j).foldl (addB L) [] = grd (cl L) (oN L) j
  | 0, _ => rfl
  | j + 1, hj => by
    rw [List.range_succ, List.foldl_append, found_ok h hb j (by omega)]
    exact addB_ok h hb (by omega)
/-- the program's count, room by room, then book by book -/
theorem prod_steps (f : Nat → Nat) : ∀ n z, (List.range n).foldl (fun a k => a * f k) z = z * prd f n
  | 0, z => (Nat.mul_one z).symm
  | n + 1, z => by rw [List.range_succ, List.foldl_append, prod_steps f n z, prd, ← Nat.mul_assoc]; rfl
theorem free_steps : ∀ m z, (List.range m).foldl (fun a b => a * if inRow L b then 1 else 2) z = z * 2 ^ fr (cl L) m
  | 0, z => (Nat.mul_one z).symm
  | m + 1, z => by
    rw [List.range_succ, List.foldl_append, free_steps m z, fr_succ, cl_none]
    show z * 2 ^ fr (cl L) m * (if inRow L m then 1 else 2) = _
    cases inRow L m with
    | true => simp
    | false => simp [Nat.pow_succ, Nat.mul_assoc]
/-- the first list, as the program puts it together -/
def freeL (L : List Say) (m : Nat) : List Nat := (List.range m).filter fun b => !inRow L b
theorem fst_mem (h : NestM L m) {x : Nat} : x ∈ fst L m ↔ x ∈ grd (cl L) (oN L) m ∨ (x ∈ freeL L m ∧ x + 1 < lst1 (cl L) (oN L) m) := by
  unfold fst freeL
  rw [mem_best, gb_iff, mem_grd, List.mem_filter, List.mem_range, ← cl_none, beq_iff_eq]
  constructor
  · rintro ⟨h1, h2 | h2⟩
    · exact .inl ⟨h1, h2⟩
    · exact .inr ⟨⟨h1, h2.1⟩, h2.2⟩
  · rintro (h1 | h1)
    · exact ⟨h1.1, .inl h1.2⟩
    · exact ⟨h1.1.1, .inr ⟨h1.1.2, h1.2⟩⟩
end
end K21

end
section
set_option Elab.async false
set_option linter.all false
set_option maxHeartbeats 4000000
/-! K21q: whether rows are nested, by both looks. -/
namespace K21
def prB (a b : List Nat) : Bool := !insB a b && (!insB b a && a.any fun x => b.contains x)
def lwB (a b : List Nat) : Bool := decide (a = b) || (!apart a b && (!witB a b && !witB b a))
def prN (R : List (List Nat)) : Bool := !((List.range R.length).any fun k => (R.drop (k + 1)).any fun y => prB (R.getD k []) y)
def lwN (R : List (List Nat)) : Bool := !((List.range R.length).any fun i => (List.range i).any fun j => lwB (R.getD i []) (R.getD j []))
structure Rows (R : List (List Nat)) : Prop where
  asc : ∀ r ∈ R, Asc r
  ne : ∀ r ∈ R, r ≠ []
theorem any_comm (a b : List Nat) : (a.any fun x => b.contains x) = b.any fun x => a.contains x := by
  rw [Bool.eq_iff_iff, List.any_eq_true, List.any_eq_true]
  simp only [List.contains_iff_mem]
  exact ⟨fun ⟨x, h1, h2⟩ => ⟨x, h2, h1⟩, fun ⟨x, h1, h2⟩ => ⟨x, h2, h1⟩⟩
theorem lw_pr {a b : List Nat} (ha : Asc a) (hb : Asc b) (hn : a ≠ []) : lwB a b = prB b a := by
  unfold lwB prB apart
  rw [← ins_wit ha hb, ← ins_wit hb ha, Bool.not_not, any_comm b a]
  by_cases e : a = b
  · subst e
    obtain ⟨x, hx⟩ := List.exists_mem_of_ne_nil a hn
    have h1 : insB a a = false := by unfold insB; rw [decide_eq_false (Nat.lt_irrefl _), Bool.false_and]
    have h2 : (a.any fun x => a.contains x) = true := List.any_eq_true.mpr ⟨x, hx, List.contains_iff_mem.mpr hx⟩
    rw [h1, h2, decide_eq_true rfl]; rfl
  · rw [decide_eq_false e, Bool.false_or]
    cases insB a b <;> cases insB b a <;> cases (a.any fun x => b.contains x) <;> rfl
theorem getD_mem {R : List (List Nat)} {k : Nat} (h : k < R.length) : R.getD k [] ∈ R := by
  rw [List.getD_eq_getElem?_getD, List.getElem?_eq_getElem h]
  exact List.getElem_mem h
theorem prN_iff {R : List (List Nat)} : prN R = true ↔ ∀ k < R.length, ∀ l < R.length, k < l → prB (R.getD k []) (R.getD l []) = false := by
  unfold prN
  rw [Bool.not_eq_true', List.any_eq_false]
  constructor
  · intro h k hk l hl hkl
    have h1 := h k (List.mem_range.mpr hk)
    rw [Bool.not_eq_true, List.any_eq_false] at h1
    have : R.getD l [] ∈ R.drop (k + 1) := by
      rw [List.getD_eq_getElem?_getD, List.getElem?_eq_getElem hl]
      refine List.mem_drop_iff_getElem.mpr ⟨l - (k + 1), by omega, ?_⟩
      show R[k + 1 + (l - (k + 1))] = R[l]
      congr 1; omega
    simpa using h1 _ this
  · intro h k hk
    rw [Bool.not_eq_true, List.any_eq_false]
    intro y hy
    obtain ⟨i, hi, e⟩ := List.mem_drop_iff_getElem.mp hy
    have := h k (List.mem_range.mp hk) (k + 1 + i) (by omega) (by omega)
    rw [List.getD_eq_getElem?_getD (i := k + 1 + i), List.getElem?_eq_getElem (by omega)] at this
    have e : R[k + 1 + i] = y := e
    rw [show (some R[k + 1 + i]).getD [] = y from e] at this
    rw [this]; exact Bool.false_ne_true
theorem lwN_iff {R : List (List Nat)} : lwN R = true ↔ ∀ i < R.length, ∀ j < i, lwB (R.getD i []) (R.getD j []) = false := by
  unfold lwN
  rw [Bool.not_eq_true', List.any_eq_false]
  constructor
  · intro h i hi j hj
    have h1 := h i (List.mem_range.mpr hi)
    rw [Bool.not_eq_true, List.any_eq_false] at h1
    simpa using h1 j (List.mem_range.mpr hj)
  · intro h i hi
    rw [Bool.not_eq_true, List.any_eq_false]
    intro j hj
    rw [h i (List.mem_range.mp hi) j (List.mem_range.mp hj)]; exact Bool.false_ne_true
theorem pr_lw {R : List (List Nat)} (h : Rows R) : prN R = lwN R := by
  rw [Bool.eq_iff_iff, prN_iff, lwN_iff]
  constructor
  · intro g i hi j hj
    rw [lw_pr (h.asc _ (getD_mem hi)) (h.asc _ (getD_mem (by omega))) (h.ne _ (getD_mem hi))]
    exact g j (by omega) i hi hj
  · intro g k hk l hl hkl
    have := g l hl k hkl
    rwa [lw_pr (h.asc _ (getD_mem hl)) (h.asc _ (getD_mem hk)) (h.ne _ (getD_mem hl))] at this
def rws (L : List Say) : List (List Nat) := L.map Prod.fst
theorem rw_getD (L : List Say) (k : Nat) : (rws L).getD k [] = rw' L k := by
  unfold rws rw'
  rw [List.getD_eq_getElem?_getD, List.getD_eq_getElem?_getD, List.getElem?_map]
  cases L[k]? <;> rfl
theorem prB_false {a b : List Nat} (h : prB a b = false) : (∀ x ∈ a, x ∉ b) ∨ insB a b = true ∨ insB b a = true := by
  unfold prB at h
  cases h1 : insB a b with
  | true => exact .inr (.inl rfl)
  | false =>
    cases h2 : insB b a with
    | true => exact .inr (.inr rfl)
    | false =>
      rw [h1, h2] at h
      refine .inl fun x hx hb => ?_
      have : (a.any fun x => b.contains x) = true := List.any_eq_true.mpr ⟨x, hx, List.contains_iff_mem.mpr hb⟩
      rw [this] at h; cases h
theorem nest_of {L : List Say} (h : ∀ p ∈ L, Asc p.1) (g : prN (rws L) = true) : Nest L := by
  have g := prN_iff.mp g
  have hl : (rws L).length = L.length := List.length_map ..
  rw [hl] at g
  refine ⟨fun k hk => h _ (getL hk), fun i hi j hj ne => ?_⟩
  rcases Nat.lt_or_gt_of_ne ne with q | q
  · have := g i hi j hj q
    rw [rw_getD, rw_getD] at this
    exact prB_false this
  · have := g j hj i hi q
    rw [rw_getD, rw_getD] at this
    rcases prB_false this with h | h | h
    · exact .inl fun x hx hb => h x hb hx
    · exact .inr (.inr h)
    · exact .inr (.inl h)
end K21

end
section
set_option Elab.async false
set_option linter.all false
set_option maxRecDepth 100000
set_option maxHeartbeats 4000000
/-! K21a: loops that end early, comprehensions over lists of their own, small things (no program in sight). -/
namespace PV
open PySem L2
theorem for_gen {c : Call} {vs : List Nat} {w : Wk} {body : Ss} {ρ ρ1 : Env} {xs : List D} {r : Option (Fl × Env)} (hw : evIt c w ρ = some (.vals xs, ρ1)) (h : forL (fun x ρ => (setTg vs x ρ).bind fun ρ => exs c body ρ) xs ρ1 = r) : exS c (.for_ vs w body) ρ = r := by
  simp only [exS, hw, ob_some]
  exact h
theorem forL_any {α : Type} {turn : D → Env → Option (Fl × Env)} {g : α → D} {p : α → Bool} {d : D} {I : Env → Prop} : ∀ (l : List α) (ρ : Env), I ρ → (∀ x ∈ l, ∀ ρ, I ρ → ∃ ρ', turn (g x) ρ = some (if p x then .ret d else .next, ρ') ∧ I ρ') →
    ∃ ρ', forL turn (l.map g) ρ = some (if l.any p then .ret d else .next, ρ') ∧ I ρ'
  | [], ρ, h, _ => ⟨ρ, rfl, h⟩
  | x :: xs, ρ, h, ht => by
    obtain ⟨ρ1, e, h1⟩ := ht x List.mem_cons_self ρ h
    rw [List.any_cons]
    cases q : p x with
    | true =>
      rw [q, if_pos rfl] at e
      refine ⟨ρ1, ?_, h1⟩
      simp only [List.map_cons, forL, e, Option.bind_eq_bind, Option.bind_some, Bool.true_or, if_true]
    | false =>
      rw [q, if_neg Bool.false_ne_true] at e
      obtain ⟨ρ2, e2, h2⟩ := forL_any xs ρ1 h1 fun y hy => ht y (List.mem_cons_of_mem _ hy)
      refine ⟨ρ2, ?_, h2⟩
      rw [Bool.false_or]
      simp only [List.map_cons, forL, e, Option.bind_eq_bind, Option.bind_some, e2]
theorem for_any {α : Type} {c : Call} {vs : List Nat} {w : Wk} {body : Ss} {ρ ρ1 : Env} {l : List α} {g : α → D} {p : α → Bool} {d : D} (I : Env → Prop) (hw : evIt c w ρ = some (.vals (l.map g), ρ1)) (h0 : I ρ1)
    (h : ∀ x ∈ l, ∀ ρ, I ρ → ∃ ρ0 ρ', setTg vs (g x) ρ = some ρ0 ∧ exs c body ρ0 = some (if p x then .ret d else .next, ρ') ∧ I ρ') : ∃ ρ', exS c (.for_ vs w body) ρ = some (if l.any p then .ret d else .next, ρ') ∧ I ρ' := by
  obtain ⟨ρ', e, hI⟩ := forL_any (turn := fun x ρ => (setTg vs x ρ).bind fun ρ => exs c body ρ) l ρ1 h0 (fun x hx ρ hρ => by
    obtain ⟨ρ0, ρ', e1, e2, e3⟩ := h x hx ρ hρ
    exact ⟨ρ', by rw [e1, Option.bind_some]; exact e2, e3⟩)
  exact ⟨ρ', for_gen hw e, hI⟩
theorem for_find {α : Type} {c : Call} {vs : List Nat} {w : Wk} {body : Ss} {ρ ρ1 : Env} {l : List α} {g : α → D} {p : α → Bool} (I : Env → Prop) (hw : evIt c w ρ = some (.vals (l.map g), ρ1)) (h0 : I ρ1)
    (h : ∀ x ∈ l, ∀ ρ, I ρ → ∃ ρ0 ρ', setTg vs (g x) ρ = some ρ0 ∧ exs c body ρ0 = some (if p x then .ret (g x) else .next, ρ') ∧ I ρ') : ∃ ρ', exS c (.for_ vs w body) ρ = some (match l.find? p with | some x => .ret (g x) | none => .next, ρ') ∧ I ρ' := by
  obtain ⟨ρ', e, hI⟩ := forL_findG (turn := fun x ρ => (setTg vs x ρ).bind fun ρ => exs c body ρ) l ρ1 h0 (fun x hx ρ hρ => by
    obtain ⟨ρ0, ρ', e1, e2, e3⟩ := h x hx ρ hρ
    exact ⟨ρ', by rw [e1, Option.bind_some]; exact e2, e3⟩)
  exact ⟨ρ', for_gen hw e, hI⟩
/-- a loop over data with a state -/
theorem for_st {α β : Type} {c : Call} {vs : List Nat} {w : Wk} {body : Ss} {ρ ρ1 : Env} {l : List α} {g : α → D} {st : β → α → β} {z : β} (I : β → Env → Prop) (hw : evIt c w ρ = some (.vals (l.map g), ρ1)) (h0 : I z ρ1)
    (h : ∀ x ∈ l, ∀ b ρ, I b ρ → ∃ ρ0 ρ', setTg vs (g x) ρ = some ρ0 ∧ exs c body ρ0 = some (.next, ρ') ∧ I (st b x) ρ') : ∃ ρ', exS c (.for_ vs w body) ρ = some (.next, ρ') ∧ I (l.foldl st z) ρ' := by
  have key : ∀ (l : List α) (z : β) (ρ1 : Env), I z ρ1 → (∀ x ∈ l, ∀ b ρ, I b ρ → ∃ ρ', ((setTg vs (g x) ρ).bind fun ρ => exs c body ρ) = some (.next, ρ') ∧ I (st b x) ρ') → ∃ ρ', forL (fun x ρ => (setTg vs x ρ).bind fun ρ => exs c body ρ) (l.map g) ρ1 = some (.next, ρ') ∧ I (l.foldl st z) ρ' := by
    intro l
    induction l with
    | nil => intro z ρ1 h _; exact ⟨ρ1, rfl, h⟩
    | cons x xs ih =>
      intro z ρ1 h0 h
      obtain ⟨ρ2, e, h2⟩ := h x List.mem_cons_self z ρ1 h0
      obtain ⟨ρ3, e3, h3⟩ := ih (st z x) ρ2 h2 fun y hy => h y (List.mem_cons_of_mem _ hy)
      exact ⟨ρ3, by simp only [List.map_cons, forL, e, Option.bind_eq_bind, Option.bind_some, e3], h3⟩
  obtain ⟨ρ', e, hI⟩ := key l z ρ1 h0 fun x hx b ρ hρ => by
    obtain ⟨ρ0, ρ', e1, e2, e3⟩ := h x hx b ρ hρ
    exact ⟨ρ', by rw [e1, Option.bind_some]; exact e2, e3⟩
  exact ⟨ρ', for_gen hw e, hI⟩
theorem exs_one {c : Call} {s : S} {ρ ρ' : Env} {q : Bool} {d : D} (h : exS c s ρ = some (if q then .ret d else .next, ρ')) : exs c (.cons s .nil) ρ = some (if q then .ret d else .next, ρ') := by
  cases q with
  | true => exact exs_ret h
  | false => exact (exs_cons h).trans rfl
theorem exs_nx {c : Call} {s : S} {ρ ρ' : Env} (h : exS c s ρ = some (.next, ρ')) : exs c (.cons s .nil) ρ = some (.next, ρ') := (exs_cons h).trans rfl
theorem ite_retE {c : Call} {t e : E} {ρ ρ' : Env} {q : Bool} {d : D} (h : ev c t ρ = some (.v (.bl q), ρ')) (hv : ev c e ρ' = some (.v d, ρ')) : exS c (.ite t (.cons (.ret e) .nil) .nil) ρ = some (if q then .ret d else .next, ρ') := by
  cases q with
  | true => exact ite_go h (exs_ret (ret_ok hv))
  | false => exact ite_no h
theorem enum_from {α : Type} {g : α → D} (z : α) : ∀ (l : List α) (k : Nat), enumL k (l.map g) = (List.range l.length).map fun i => .tup [nD (k + i), g (l.getD i z)]
  | [], _ => rfl
  | x :: xs, k => by
    rw [List.map_cons, enumL, enum_from z xs (k + 1), List.length_cons, List.range_succ_eq_map, List.map_cons, List.map_map]
    congr 1
    refine List.map_congr_left fun i _ => ?_
    show D.tup [nD (k + 1 + i), _] = D.tup [nD (k + (i + 1)), _]
    rw [show k + 1 + i = k + (i + 1) by omega]; rfl
theorem enum_ok {α : Type} {c : Call} {e : E} {ρ ρ1 : Env} {l : List α} {g : α → D} (z : α) (h : ev c e ρ = some (.v (.lst (l.map g)), ρ1)) : evIt c (.enum e) ρ = some (.vals ((List.range l.length).map fun i => .tup [nD i, g (l.getD i z)]), ρ1) := by
  have e1 := enum_from (g := g) z l 0
  simp only [Nat.zero_add] at e1
  simp only [evIt, h, ob_some, Option.bind_eq_bind, Option.bind_some, val_v, seqOf_lst, e1]
theorem slc_drop {α : Type} (l : List α) (k : Nat) : slc l (some (k : Int)) none = l.drop k := by
  unfold slc
  have e : HT.sIx l.length 0 (some (k : Int)) = min k l.length := by
    show (if (k : Int) < 0 then ((k : Int) + (l.length : Int)).toNat else min (k : Int).toNat l.length) = _
    rw [if_neg (by omega), Int.toNat_natCast]
  have e0 : HT.sIx l.length l.length none = l.length := rfl
  rw [e, e0]
  rcases Nat.le_total k l.length with q | q
  · rw [Nat.min_eq_left q, ← List.length_drop, List.take_length]
  · rw [Nat.min_eq_right q, Nat.sub_self, List.take_zero, List.drop_of_length_le q]
/-! ### comprehensions over a list of one's own -/
theorem compL_stepIf {β : Type} {turn : D → Env → Option (List D × Env)} {l : List β} {g f : β → D} {p : β → Bool} {J : Env → Prop} (h : ∀ y ∈ l, ∀ ρ, J ρ → ∃ ρ', turn (g y) ρ = some (if p y then [f y] else [], ρ') ∧ J ρ') : ∀ ρ, J ρ → ∃ ρ', compL turn (l.map g) ρ = some ((l.filter p).map f, ρ') ∧ J ρ' := by
  induction l with
  | nil => intro ρ j; exact ⟨ρ, rfl, j⟩
  | cons y ys ih =>
    intro ρ j
    obtain ⟨ρ1, e1, j1⟩ := h y List.mem_cons_self ρ j
    obtain ⟨ρ2, e2, j2⟩ := ih (fun z hz => h z (List.mem_cons_of_mem _ hz)) ρ1 j1
    refine ⟨ρ2, ?_, j2⟩
    simp only [List.map_cons, compL, e1, Option.bind_eq_bind, Option.bind_some, e2]
    rw [List.filter_cons]
    cases p y <;> rfl
theorem compV_eq {turn : D → Env → Option (List D × Env)} {i : Nat} {ds : List D} {J : Env → Prop} (hJ : ∀ ρ, J ρ → ρ.get i = .own ds) (ht : ∀ d ∈ ds, ∀ ρ, J ρ → ∃ r ρ', turn d ρ = some (r, ρ') ∧ J ρ') :
    ∀ (n k : Nat) (ρ : Env), J ρ → ds.length ≤ k + n → compV turn i (n + 1) k ρ = compL turn (ds.drop k) ρ
  | n, k, ρ, h, hl => by
    unfold compV
    rw [hJ ρ h]
    simp only
    cases q : ds[k]? with
    | none =>
      rw [List.drop_eq_nil_of_le (List.getElem?_eq_none_iff.mp q)]; rfl
    | some x =>
      obtain ⟨hk, e⟩ := List.getElem?_eq_some_iff.mp q
      rw [List.drop_eq_getElem_cons hk, e]
      obtain ⟨r, ρ', e1, h1⟩ := ht x (e ▸ List.getElem_mem hk) ρ h
      match n, hl with
      | 0, hl => omega
      | n + 1, hl =>
        have ih := compV_eq hJ ht n (k + 1) ρ' h1 (by omega)
        simp only [compL, e1, Option.bind_eq_bind, Option.bind_some, ih]
theorem of_pk {c : Call} {i : Nat} {ds : List D} {ρ : Env} (h : ρ.get i = .own ds) : evIt c (.of (.pk i)) ρ = some (.live i, ρ) := by
  simp only [evIt, ev, h, isOwn, if_true, ob_some, Option.bind_eq_bind, Option.bind_some, srcOf]
theorem compIf_live {α : Type} {c : Call} {i k : Nat} {t elt : E} {ρ : Env} {l : List α} {g f : α → D} (p : α → Bool) (hk : i ≠ k) (hg : ρ.get k = .own (l.map g)) (hl : l.length < 100000) (ho : isOwn (ρ.get i) = false)
    (ht : ∀ x ∈ l, ev c t (ρ.put i (.val (g x))) = some (.v (.bl (p x)), ρ.put i (.val (g x))))
    (h : ∀ x ∈ l, p x = true → ev c elt (ρ.put i (.val (g x))) = some (.v (f x), ρ.put i (.val (g x)))) : ev c (.comp [i] (.of (.pk k)) (.cons t .nil) elt) ρ = some (.v (.lst ((l.filter p).map f)), ρ) := by
  simp only [ev, of_pk hg, Option.bind_eq_bind, Option.bind_some, List.any_cons, List.any_nil, ho, Bool.or_false, compS]
  rw [if_neg (by decide)]
  generalize htn : (fun (x : D) (ρ : Env) => (setTg [i] x (ρ.wipe [i])).bind fun ρ => _) = turn
  have one : ∀ x ∈ l, ∀ ρ1 : Env, ρ1.put i .un = ρ.put i .un → turn (g x) ρ1 = some (if p x then [f x] else [], ρ.put i (.val (g x))) := by
    intro x hx ρ1 e
    have ew : (ρ1.wipe [i]).put i (.val (g x)) = ρ.put i (.val (g x)) := by
      show (ρ1.put i .un).put i (.val (g x)) = _
      rw [e, put_put]
    subst htn
    show Option.bind (some ((ρ1.wipe [i]).put i (.val (g x)))) _ = _
    rw [ew]
    have hb := ht x hx
    simp only [Option.bind_some, evIfs, hb, tstR_some', at_v, ob_some, tru]
    cases hp : p x with
    | true => simp only [h x hx hp, Option.bind_some, Hd.val]; rfl
    | false => rfl
  obtain ⟨ρ2, e2, e3⟩ := compL_stepIf (turn := turn) (l := l) (g := g) (f := f) (p := p) (J := fun ρ1 => ρ1.put i .un = ρ.put i .un) (fun y hy ρ1 e => ⟨_, one y hy ρ1 e, put_put⟩) (ρ.wipe [i]) put_put
  have ev1 := compV_eq (turn := turn) (i := k) (ds := l.map g) (J := fun ρ1 => ρ1.put i .un = ρ.put i .un) (fun ρ1 e => by
    have := congrArg (fun ρ : Env => ρ.get k) e
    simp only [get_put_ne hk] at this
    rw [this, hg]) (fun d hd ρ1 e => by
    obtain ⟨x, hx, rfl⟩ := List.mem_map.mp hd
    exact ⟨_, _, one x hx ρ1 e, put_put⟩) 999999 0 (ρ.wipe [i]) put_put (by rw [List.length_map]; omega)
  rw [show fuel = 999999 + 1 from rfl, ev1, List.drop_zero, e2]
  simp only [Option.bind_some]
  rw [rest1 e3]
theorem compP_live {α : Type} {c : Call} {i j k : Nat} {elt : E} {ρ : Env} {l : List α} {g1 g2 f : α → D} (hij : i ≠ j) (hk : i ≠ k) (hk2 : j ≠ k) (hg : ρ.get k = .own (l.map fun x => .tup [g1 x, g2 x])) (hl : l.length < 100000) (ho : isOwn (ρ.get i) = false) (ho2 : isOwn (ρ.get j) = false)
    (h : ∀ x ∈ l, ev c elt ((ρ.put i (.val (g1 x))).put j (.val (g2 x))) = some (.v (f x), (ρ.put i (.val (g1 x))).put j (.val (g2 x)))) : ev c (.comp [i, j] (.of (.pk k)) .nil elt) ρ = some (.v (.lst (l.map f)), ρ) := by
  simp only [ev, of_pk hg, Option.bind_eq_bind, Option.bind_some, List.any_cons, List.any_nil, ho, ho2, Bool.or_false, compS]
  rw [if_neg (by decide)]
  generalize ht : (fun (x : D) (ρ : Env) => (setTg [i, j] x (ρ.wipe [i, j])).bind fun ρ => _) = turn
  have one : ∀ x ∈ l, ∀ ρ1 : Env, (ρ1.put j .un).put i .un = (ρ.put j .un).put i .un → turn (.tup [g1 x, g2 x]) ρ1 = some ([f x], (ρ.put i (.val (g1 x))).put j (.val (g2 x))) ∧ ((((ρ.put i (.val (g1 x))).put j (.val (g2 x))).put j .un).put i .un) = (ρ.put j .un).put i .un := by
    intro y hy ρ1 e
    subst ht
    have h2 := h y hy
    have ew : ((ρ1.wipe [i, j]).put i (.val (g1 y))).put j (.val (g2 y)) = (ρ.put i (.val (g1 y))).put j (.val (g2 y)) := by
      show ((((ρ1.put j .un).put i .un).put i (.val (g1 y))).put j (.val (g2 y))) = _
      rw [e, put_put, put_comm (fun q => hij q.symm), put_put]
    have ej : ((((ρ.put i (.val (g1 y))).put j (.val (g2 y))).put j .un).put i .un) = (ρ.put j .un).put i .un := by
      rw [put_put, put_comm hij, put_put]
    refine ⟨?_, ej⟩
    show Option.bind (some (((ρ1.wipe [i, j]).put i (.val (g1 y))).put j (.val (g2 y)))) _ = _
    rw [ew]
    simp only [Option.bind_some, evIfs, h2, Hd.val]
  have h0 : (((ρ.wipe [i, j]).put j .un).put i .un) = (ρ.put j .un).put i .un := by
    show (((ρ.put j .un).put i .un).put j .un).put i .un = _
    rw [put_comm (ρ := ρ.put j .un) hij, put_put, put_put]
  obtain ⟨ρ2, e2, e3⟩ := compL_step (turn := turn) (l := l) (g := fun x => .tup [g1 x, g2 x]) (f := f) (J := fun ρ1 => (ρ1.put j .un).put i .un = (ρ.put j .un).put i .un) (fun y hy ρ1 e => ⟨_, (one y hy ρ1 e).1, (one y hy ρ1 e).2⟩) (ρ.wipe [i, j]) h0
  have ev1 := compV_eq (turn := turn) (i := k) (ds := l.map fun x => .tup [g1 x, g2 x]) (J := fun ρ1 => (ρ1.put j .un).put i .un = (ρ.put j .un).put i .un) (fun ρ1 e => by
    have := congrArg (fun ρ : Env => ρ.get k) e
    simp only [get_put_ne hk, get_put_ne hk2] at this
    rw [this, hg]) (fun d hd ρ1 e => by
    obtain ⟨x, hx, rfl⟩ := List.mem_map.mp hd
    exact ⟨_, _, (one x hx ρ1 e).1, (one x hx ρ1 e).2⟩) 999999 0 (ρ.wipe [i, j]) h0 (by rw [List.length_map]; omega)
  rw [show fuel = 999999 + 1 from rfl, ev1, List.drop_zero, e2]
  simp only [Option.bind_some]
  rw [rest2 hij e3]
/-! ### small things -/
theorem eqZ (a b : Int) : dEq (.int a) (.int b) = some (decide (a = b)) := by
  show some (a == b) = _
  congr 1
theorem mulZ2 {i j : Int} (h : -1000 < j ∧ j < 1000) : dMul (.int i) (.int j) = some (.int (i * j)) := if_pos (.inr ⟨Int.lt_of_le_of_lt (by decide) h.1, Int.lt_of_lt_of_le h.2 (by decide)⟩)
theorem mulN {a b : Nat} (h : b < 1000) : dMul (nD a) (nD b) = some (nD (a * b)) :=
  (mulZ2 ⟨by omega, by omega⟩).trans (congrArg (fun z => some (D.int z)) (Int.natCast_mul a b).symm)
theorem fdiv_ok {a b : Int} (hb : 1 ≤ b) (hb2 : b ≤ 1000000) : dFdiv (.int a) (.int b) = some (.int (a / b)) := by
  show (if b ≠ 0 ∧ b.natAbs < 1073741824 then some (D.int (a.fdiv b)) else none) = _
  rw [if_pos ⟨by omega, by omega⟩, Int.fdiv_eq_ediv_of_nonneg _ (by omega)]
theorem fdivN {a k : Nat} (hk : 1 ≤ k) (hk2 : k ≤ 1000) : dFdiv (nD a) (nD k) = some (nD (a / k)) := by
  rw [fdiv_ok (by omega) (by omega)]
  rfl
theorem sumZ {α : Type} {c : Call} {cc : E} {l : List α} {f : α → Int} {ρ ρ1 : Env} (h : ev c cc ρ = some (.v (.lst (l.map fun x => .int (f x))), ρ1)) : ev c (.bi .sum (.cons cc .nil)) ρ = some (.v (.int (l.map f).sum), ρ1) := by
  have e := intL_mapf f l
  simp (config := { implicitDefEqProofs := false }) only [entry, exs, exS, ev, evs, evO, evIfs, evIt, evT, tstR_some', tru, at_v, at_p, val_v, atL, valL, get_mk, put_mk, ob_some, ob_none, isTy, op2, dIs, leave, bfn, seqOf_lst, seqOf_tup, srcOf_lst, srcOf_tup, setTg1, setTg2, setTg3, and_self, and_true, true_and, newPut, isOwn, List.map_cons, List.map_nil, List.length_cons, List.length_nil, List.cons_append, List.nil_append, List.getD_cons_zero, List.getD_cons_succ, List.set_cons_zero, List.set_cons_succ, List.replicate_succ, List.replicate_zero, Nat.reduceSub, Nat.reduceAdd, Option.map_some, Option.map_none, Option.some_or, beq_self_eq_true, Bool.true_eq_false, Bool.false_eq_true, Bool.not_true, Bool.not_false, Bool.not_eq_true', if_true, if_false, h, e]
theorem eq_rN (a b : List Nat) : dEq (rN a) (rN b) = some (decide (a = b)) := by
  show (if (rN a).cmpb && (rN b).cmpb then some (D.eqvL (a.map nD) (b.map nD)) else none) = _
  rw [if_pos (by rw [cmpb_tup (n := 0) (plL_map fun _ _ => rfl) (depL_map fun _ _ => Nat.le_refl _) (by decide), cmpb_tup (n := 0) (plL_map fun _ _ => rfl) (depL_map fun _ _ => Nat.le_refl _) (by decide)]; rfl), eqvL_nats]
theorem call2b {c : Call} {f : Nat} {a e : E} {x y d : D} {ρ : Env} (h1 : ev c a ρ = some (.v x, ρ)) (h2 : ev c e ρ = some (.v y, ρ)) (h : c f [x, y] ρ.bx = some (d, ρ.bx)) : ev c (.call f (.cons a (.cons e .nil))) ρ = some (.v d, ρ) := call2 h1 h2 h
theorem lx_cons (x y : Nat) (xs ys : List Nat) : K46.lx (x :: xs) (y :: ys) = (decide (x < y) || (decide (x = y) && K46.lx xs ys)) := by
  show (if D.eqv (nD x) (nD y) then D.ltbL (xs.map nD) (ys.map nD) else D.ltb (nD x) (nD y)) = _
  rw [eqv_nat]
  by_cases e : x = y
  · subst e
    rw [if_pos (beq_self_eq_true x), decide_eq_false (Nat.lt_irrefl x), decide_eq_true rfl]
    rfl
  · rw [if_neg (by simpa using e), decide_eq_false e, Bool.false_and, Bool.or_false]
    exact lt_nat x y
theorem lx_ltR : ∀ a b : List Nat, K46.lx a b = K21.ltR a b
  | [], [] => rfl
  | [], _ :: _ => rfl
  | _ :: _, [] => rfl
  | x :: xs, y :: ys => by rw [lx_cons, lx_ltR xs ys]; rfl
end PV

end
section
set_option Elab.async false
set_option linter.all false
set_option maxRecDepth 100000
set_option maxHeartbeats 4000000
/-! K21b: what the smaller defs give. -/
namespace PV
open PySem L2
theorem ltN (a b : Nat) : op2 .lt (nD a) (nD b) = some (.bl (decide (a < b))) := by
  show some (D.bl (decide ((a : Int) < (b : Int)))) = _
  rw [lt_nat]
theorem in_put {c : Call} {i j x : Nat} {s : List Nat} {ρ : Env} (hl : i < ρ.sl.length) (hij : i ≠ j) (hj : ρ.get j = .val (rN s)) : ev c (.op .isin (.var i) (.var j)) (ρ.put i (.val (nD x))) = some (.v (.bl (s.contains x)), ρ.put i (.val (nD x))) := by
  have g1 := get_put_eq (ρ := ρ) (s := .val (nD x)) hl
  have g2 : (ρ.put i (.val (nD x))).get j = .val (rN s) := by rw [get_put_ne hij, hj]
  have e := in_rN s x
  exact op_ok (o := .isin) (x := nD x) (y := rN s) (ρ1 := ρ.put i (.val (nD x))) (ρ2 := ρ.put i (.val (nD x))) (by simp only [ev, g1]) (by simp only [ev, g2]) (by show (dIn _ _).map D.bl = _; rw [e]; rfl)
theorem all_in {c : Call} {i j : Nat} {it : Wk} {r s : List Nat} {ρ : Env} (hi : evIt c it ρ = some (.vals (r.map nD), ρ)) (ho : isOwn (ρ.get i) = false) (hl : i < ρ.sl.length) (hij : i ≠ j) (hj : ρ.get j = .val (rN s)) :
    ev c (.bi .all (.cons (.comp [i] it .nil (.op .isin (.var i) (.var j))) .nil)) ρ = some (.v (.bl (r.all fun x => s.contains x)), ρ) :=
  all_ok (comp_of (l := r) (g := nD) hi ho fun x _ => in_put hl hij hj)
theorem any_in {c : Call} {i j : Nat} {it : Wk} {r s : List Nat} {ρ : Env} (hi : evIt c it ρ = some (.vals (r.map nD), ρ)) (ho : isOwn (ρ.get i) = false) (hl : i < ρ.sl.length) (hij : i ≠ j) (hj : ρ.get j = .val (rN s)) :
    ev c (.bi .any (.cons (.comp [i] it .nil (.op .isin (.var i) (.var j))) .nil)) ρ = some (.v (.bl (r.any fun x => s.contains x)), ρ) :=
  any_ok (comp_of (l := r) (g := nD) hi ho fun x _ => in_put hl hij hj)
theorem iteE_tru {c : Call} {i : Nat} {a b : E} {ρ : Env} {d : D} {r : Option (Hd × Env)} (h : ρ.get i = .val d) (ht : tru d = some true) (h2 : ev c a ρ = r) : ev c (.ite (.var i) a b) ρ = r := by
  subst h2
  simp only [ev, h, tstR_some', at_v, ob_some, ht, Option.bind_eq_bind, Option.bind_some]
theorem iteE_fls {c : Call} {i : Nat} {a b : E} {ρ : Env} {d : D} {r : Option (Hd × Env)} (h : ρ.get i = .val d) (ht : tru d = some false) (h2 : ev c b ρ = r) : ev c (.ite (.var i) a b) ρ = r := by
  subst h2
  simp only [ev, h, tstR_some', at_v, ob_some, ht, Option.bind_eq_bind, Option.bind_some]
end PV
namespace K21
open PySem L2 PV K46
abbrev go := runF T drawP
abbrev sayD (p : Say) : D := .tup [rN p.1, nD p.2]
abbrev sayT (L : List Say) : D := .tup (L.map sayD)
theorem is_inside {n : Nat} {a b : List Nat} {x : Bx} : go (n + 1) 1 [rN a, rN b] x = some (.bl (insB a b), x) := by
  show runF T drawP (n + 1) (0 + 1) _ x = _
  rw [go_step (fi := fi_is_inside) rfl rfl]
  show leave (exs (go n) b_is_inside ⟨[.val (rN a), .val (rN b), .un], x⟩) = _
  have h1 : ev (go n) (.op .lt (.bi .len (.cons (.var 0) .nil)) (.bi .len (.cons (.var 1) .nil))) ⟨[.val (rN a), .val (rN b), .un], x⟩ = some (.v (.bl (decide (a.length < b.length))), ⟨[.val (rN a), .val (rN b), .un], x⟩) := by
    refine op_ok (o := .lt) (x := nD (a.map nD).length) (y := nD (b.map nD).length) (ρ1 := ⟨[.val (rN a), .val (rN b), .un], x⟩) (lenT rfl) (lenT rfl) ?_
    rw [List.length_map, List.length_map]
    exact ltN _ _
  have h2 := all_in (c := go n) (i := 2) (j := 1) (it := .of (.var 0)) (r := a) (s := b) (ρ := ⟨[.val (rN a), .val (rN b), .un], x⟩) (of_tup rfl) rfl (by simp) (by decide) rfl
  exact (congrArg leave (exs_ret (ret_ok (and_ok h1 fun _ => h2)))).trans rfl
theorem law_within {n : Nat} {a b : List Nat} {x : Bx} : go (n + 1) 17 [rN a, rN b] x = some (.bl (witB a b), x) := by
  show runF T drawP (n + 1) (16 + 1) _ x = _
  rw [go_step (fi := fi__law_within) rfl rfl]
  show leave (exs (go n) b__law_within ⟨[.val (rN a), .val (rN b), .un], x⟩) = _
  have h1 : ev (go n) (.op .ne (.var 0) (.var 1)) ⟨[.val (rN a), .val (rN b), .un], x⟩ = some (.v (.bl (!decide (a = b))), ⟨[.val (rN a), .val (rN b), .un], x⟩) := by
    refine op_ok (o := .ne) (x := rN a) (y := rN b) (ρ1 := ⟨[.val (rN a), .val (rN b), .un], x⟩) rfl rfl ?_
    show (dEq _ _).map (fun r => D.bl !r) = _
    rw [eq_rN]; rfl
  have h2 := all_in (c := go n) (i := 2) (j := 1) (it := .of (.var 0)) (r := a) (s := b) (ρ := ⟨[.val (rN a), .val (rN b), .un], x⟩) (of_tup rfl) rfl (by simp) (by decide) rfl
  exact (congrArg leave (exs_ret (ret_ok (and_ok h1 fun _ => h2)))).trans rfl
theorem is_number {n : Nat} {v : D} {lo hi : Int} {b : Bx} (h : v.sim = true) : go (n + 1) 10 [v, .int lo, .int hi] b = some (.bl (numB lo hi v), b) := by
  show runF T drawP (n + 1) (9 + 1) _ b = _
  rw [go_step (fi := fi_is_number) rfl rfl]
  show leave (exs (go n) (.cons (.ret numE) .nil) ⟨[.val v, .val (.int lo), .val (.int hi)], b⟩) = _
  rw [exs_ret (ret_ok (numE_ok h))]
  rfl
theorem is_ascending {n : Nat} {r : List Nat} {b : Bx} (h2 : r.length ≤ 1000000) : go (n + 1) 11 [rN r] b = some (.bl (ascN r), b) := by
  show runF T drawP (n + 1) (10 + 1) _ b = _
  rw [go_step (fi := fi_is_ascending) rfl rfl]
  show leave (exs (go n) b_is_ascending ⟨[.val (rN r), .un], b⟩) = _
  exact (congrArg leave (exs_ret (ret_ok (all_asc (c := go n) (i := 1) (ve := .var 0) (r := r) (ρ := ⟨[.val (rN r), .un], b⟩) rfl (fun x => rfl) rfl (by simp) h2)))).trans rfl
/-! ### sayings -/
structure Ok (m : Nat) (p : Say) : Prop where
  ne : p.1 ≠ []
  asc : Asc p.1
  low : ∀ x ∈ p.1, x < m
  num : p.2 ≤ p.1.length
theorem ok_len {m : Nat} {p : Say} (h : Ok m p) : p.1.length ≤ m := PV.asc_len ((PV.asc_pair _).mpr h.asc) h.low
theorem is_saying {n m : Nat} {p : Say} {b : Bx} (h : Ok m p) (hm : m ≤ 100) : go (n + 2) 12 [nD m, sayD p] b = some (.bl true, b) := by
  show runF T drawP (n + 1 + 1) (11 + 1) _ b = _
  rw [go_step (fi := fi_is_saying) rfl rfl]
  show leave (exs (go (n + 1)) b_is_saying ⟨[.val (nD m), .val (.tup [rN p.1, nD p.2]), .un], b⟩) = _
  unfold b_is_saying
  have hl := ok_len h
  have t1 : ev (go (n + 1)) (shE 1 (.op .eq (.ix (.var 1) (.kint 0)) (.tup .nil))) ⟨[.val (nD m), .val (.tup [rN p.1, nD p.2]), .un], b⟩ = some (.v (.bl p.1.isEmpty), ⟨[.val (nD m), .val (.tup [rN p.1, nD p.2]), .un], b⟩) := by
    refine pair_sh (xs := p.1.map nD) rfl (op_ok (o := .eq) (x := rN p.1) (y := .tup []) (ix0 rfl) (by simp (config := { implicitDefEqProofs := false }) only [entry, exs, exS, ev, evs, evO, evIfs, evIt, evT, tstR_some', tru, at_v, at_p, val_v, atL, valL, get_mk, put_mk, ob_some, ob_none, isTy, op2, dIs, leave, bfn, seqOf_lst, seqOf_tup, srcOf_lst, srcOf_tup, setTg1, setTg2, setTg3, and_self, and_true, true_and, newPut, isOwn, List.map_cons, List.map_nil, List.length_cons, List.length_nil, List.cons_append, List.nil_append, List.getD_cons_zero, List.getD_cons_succ, List.set_cons_zero, List.set_cons_succ, List.replicate_succ, List.replicate_zero, Nat.reduceSub, Nat.reduceAdd, Option.map_some, Option.map_none, Option.some_or, beq_self_eq_true, Bool.true_eq_false, Bool.false_eq_true, Bool.not_true, Bool.not_false, Bool.not_eq_true', if_true, if_false, valL]) ?_)
    show (dEq _ _).map D.bl = _
    rw [eq_nil]; rfl
  have q : p.1.isEmpty = false := by
    cases e : p.1 with
    | nil => exact absurd e h.ne
    | cons x xs => rfl
  rw [q] at t1
  have hsim : D.simL (p.1.map nD) = true := by
    have := simL_rN (r := p.1) (by omega)
    simp only [D.sim, Bool.and_eq_true] at this
    exact this.2
  have a1 := all_num (c := go (n + 1)) (f := 10) (i := 2) (ve := .ix (.var 1) (.kint 0)) (lE := .kint 0) (hE := .op .sub (.var 0) (.kint 1)) (ρ := ⟨[.val (nD m), .val (.tup [rN p.1, nD p.2]), .un], b⟩) (xs := p.1.map nD) (lo := 0) (hi := (m : Int) - 1) (ix0 rfl) hsim rfl (by simp) (fun x => by simp (config := { implicitDefEqProofs := false }) only [entry, exs, exS, ev, evs, evO, evIfs, evIt, evT, tstR_some', tru, at_v, at_p, val_v, atL, valL, get_mk, put_mk, ob_some, ob_none, isTy, op2, dIs, leave, bfn, seqOf_lst, seqOf_tup, srcOf_lst, srcOf_tup, setTg1, setTg2, setTg3, and_self, and_true, true_and, newPut, isOwn, List.map_cons, List.map_nil, List.length_cons, List.length_nil, List.cons_append, List.nil_append, List.getD_cons_zero, List.getD_cons_succ, List.set_cons_zero, List.set_cons_succ, List.replicate_succ, List.replicate_zero, Nat.reduceSub, Nat.reduceAdd, Option.map_some, Option.map_none, Option.some_or, beq_self_eq_true, Bool.true_eq_false, Bool.false_eq_true, Bool.not_true, Bool.not_false, Bool.not_eq_true', if_true, if_false]) (fun x => by simp (config := { implicitDefEqProofs := false }) only [entry, exs, exS, ev, evs, evO, evIfs, evIt, evT, tstR_some', tru, at_v, at_p, val_v, atL, valL, get_mk, put_mk, ob_some, ob_none, isTy, op2, dIs, leave, bfn, seqOf_lst, seqOf_tup, srcOf_lst, srcOf_tup, setTg1, setTg2, setTg3, and_self, and_true, true_and, newPut, isOwn, List.map_cons, List.map_nil, List.length_cons, List.length_nil, List.cons_append, List.nil_append, List.getD_cons_zero, List.getD_cons_succ, List.set_cons_zero, List.set_cons_succ, List.replicate_succ, List.replicate_zero, Nat.reduceSub, Nat.reduceAdd, Option.map_some, Option.map_none, Option.some_or, beq_self_eq_true, Bool.true_eq_false, Bool.false_eq_true, Bool.not_true, Bool.not_false, Bool.not_eq_true', if_true, if_false, dSub]) fun x b hx => is_number (n := n) hx
  have qa : (p.1.map nD).all (numB 0 ((m : Int) - 1)) = true := by
    rw [List.all_map, List.all_eq_true]
    intro x hx
    have := h.low x hx
    show (decide ((0 : Int) ≤ (x : Int)) && decide ((x : Int) ≤ (m : Int) - 1)) = true
    rw [decide_eq_true (by omega), decide_eq_true (by omega)]; rfl
  rw [qa] at a1
  have a2 : go (n + 1) 11 [rN p.1] b = some (.bl (ascN p.1), b) := is_ascending (n := n) (by omega)
  rw [(PV.asc_pair _).mpr h.asc] at a2
  have t2 := or_ok (not_ok a1) fun _ => not_ok (call1 (f := 11) (a := .ix (.var 1) (.kint 0)) (ρ := ⟨[.val (nD m), .val (.tup [rN p.1, nD p.2]), .un], b⟩) (ix0 rfl) a2)
  rw [exs_cons (ite_no t1)]
  refine (congrArg leave (exs_cons (ite_no t2))).trans ?_
  have a3 : go (n + 1) 10 [nD p.2, .int 0, .int (p.1.length : Int)] b = some (.bl (numB 0 (p.1.length : Int) (nD p.2)), b) := is_number (n := n) rfl
  have i0 := ix0 (c := go (n + 1)) (ρ := ⟨[.val (nD m), .val (.tup [rN p.1, nD p.2]), .un], b⟩) (x := rN p.1) (w := nD p.2) (i := 1) rfl
  have i1 := ix1 (c := go (n + 1)) (ρ := ⟨[.val (nD m), .val (.tup [rN p.1, nD p.2]), .un], b⟩) (x := rN p.1) (w := nD p.2) (i := 1) rfl
  have q3 : numB 0 (p.1.length : Int) (nD p.2) = true := by
    have := h.num
    show (decide ((0 : Int) ≤ (p.2 : Int)) && decide ((p.2 : Int) ≤ (p.1.length : Int))) = true
    rw [decide_eq_true (by omega), decide_eq_true (by omega)]; rfl
  rw [q3] at a3
  have h3 : ev (go (n + 1)) (.call 10 (.cons (.ix (.var 1) (.kint 1)) (.cons (.kint 0) (.cons (.bi .len (.cons (.ix (.var 1) (.kint 0)) .nil)) .nil)))) ⟨[.val (nD m), .val (.tup [rN p.1, nD p.2]), .un], b⟩ = some (.v (.bl true), ⟨[.val (nD m), .val (.tup [rN p.1, nD p.2]), .un], b⟩) := by
    generalize E.ix (.var 1) (.kint 0) = g0 at i0 ⊢
    generalize E.ix (.var 1) (.kint 1) = g1 at i1 ⊢
    simp (config := { implicitDefEqProofs := false }) only [entry, exs, exS, ev, evs, evO, evIfs, evIt, evT, tstR_some', tru, at_v, at_p, val_v, atL, valL, get_mk, put_mk, ob_some, ob_none, isTy, op2, dIs, leave, bfn, seqOf_lst, seqOf_tup, srcOf_lst, srcOf_tup, setTg1, setTg2, setTg3, and_self, and_true, true_and, newPut, isOwn, List.map_cons, List.map_nil, List.length_cons, List.length_nil, List.cons_append, List.nil_append, List.getD_cons_zero, List.getD_cons_succ, List.set_cons_zero, List.set_cons_succ, List.replicate_succ, List.replicate_zero, Nat.reduceSub, Nat.reduceAdd, Option.map_some, Option.map_none, Option.some_or, beq_self_eq_true, Bool.true_eq_false, Bool.false_eq_true, Bool.not_true, Bool.not_false, Bool.not_eq_true', if_true, if_false, i0, i1, len_rN, valL, a3]
  exact (congrArg leave (exs_ret (ret_ok h3))).trans rfl
theorem are_sayings {n m : Nat} {L : List Say} {b : Bx} (h : ∀ p ∈ L, Ok m p) (hm : m ≤ 100) (hl : L.length ≤ 10) : go (n + 3) 13 [nD m, sayT L] b = some (.bl true, b) := by
  show runF T drawP (n + 2 + 1) (12 + 1) _ b = _
  rw [go_step (fi := fi_are_sayings) rfl rfl]
  show leave (exs (go (n + 2)) b_are_sayings ⟨[.val (nD m), .val (sayT L), .un], b⟩) = _
  have t0 := is_tup (c := go (n + 2)) (ρ := ⟨[.val (nD m), .val (sayT L), .un], b⟩) (xs := L.map sayD) (i := 1) rfl
  have t1 : ev (go (n + 2)) (.op .le (.bi .len (.cons (.var 1) .nil)) (.gl "MOST_SAYINGS" (.int 10))) ⟨[.val (nD m), .val (sayT L), .un], b⟩ = some (.v (.bl true), ⟨[.val (nD m), .val (sayT L), .un], b⟩) := by
    refine op_ok (o := .le) (x := nD (L.map sayD).length) (y := .int 10) (ρ1 := ⟨[.val (nD m), .val (sayT L), .un], b⟩) (lenT rfl) rfl ?_
    rw [List.length_map]
    show some (D.bl (decide ((L.length : Int) ≤ 10))) = _
    rw [decide_eq_true (by omega)]
  have t2 := all_ok (c := go (n + 2)) (l := L) (f := fun _ => true) (comp_of (c := go (n + 2)) (i := 2) (it := .of (.var 1)) (elt := .call 12 (.cons (.var 0) (.cons (.var 2) .nil))) (ρ := ⟨[.val (nD m), .val (sayT L), .un], b⟩) (l := L) (g := sayD) (f := fun _ => .bl true) (of_tup rfl) rfl fun p hp => by
    have := is_saying (n := n) (b := b) (h p hp) hm
    exact call2b (x := nD m) (y := sayD p) (ρ := ⟨[.val (nD m), .val (sayT L), .val (sayD p)], b⟩) rfl rfl this)
  have e : (L.all fun _ => true) = true := List.all_eq_true.mpr fun _ _ => rfl
  rw [e] at t2
  exact (congrArg leave (exs_ret (ret_ok (and_ok t0 fun _ => and_ok t1 fun _ => t2)))).trans rfl
/-! ### rows of sayings -/
theorem rows_ev {c : Call} {i j k : Nat} {L : List Say} {ρ : PV.Env} (hk : ρ.get k = .val (sayT L)) (hij : i ≠ j) (ho : isOwn (ρ.get i) = false) (ho2 : isOwn (ρ.get j) = false) (hl : i < ρ.sl.length) : ev c (.comp [i, j] (.of (.var k)) .nil (.var i)) ρ = some (.v (rD (rws L)), ρ) := by
  have key := compP_of (c := c) (i := i) (j := j) (it := .of (.var k)) (elt := .var i) (ρ := ρ) (l := L) (g1 := fun p => rN p.1) (g2 := fun p => nD p.2) (f := fun p => rN p.1) hij (of_tup (xs := L.map sayD) (by simp only [ev, hk])) ho ho2 fun p _ => by
    have g1 : ((ρ.put i (.val (rN p.1))).put j (.val (nD p.2))).get i = .val (rN p.1) := by rw [get_put_ne (fun e => hij e.symm), get_put_eq hl]
    simp only [ev, g1]
  have e : (L.map fun p => rN p.1) = (rws L).map rN := by unfold rws; rw [List.map_map]; rfl
  rw [e] at key
  exact key
theorem rws_len (L : List Say) : (rws L).length = L.length := List.length_map ..
theorem ixRow {c : Call} {i j k : Nat} {R : List (List Nat)} {ρ : PV.Env} (hi : ρ.get i = .val (rD R)) (hj : ρ.get j = .val (nD k)) (hk : k < R.length) : ev c (.ix (.var i) (.var j)) ρ = some (.v (rN (R.getD k [])), ρ) := by
  have a : atI (R.map rN) (k : Int) = some (rN (R.getD k [])) := by
    rw [atI_mapf hk, List.getD_eq_getElem?_getD, List.getElem?_eq_getElem hk]; rfl
  exact ix_ok (x := rD R) (y := nD k) (ρ1 := ρ) (ρ2 := ρ) (by simp only [ev, hi]) (by simp only [ev, hj]) a
theorem ixSay {c : Call} {i j k : Nat} {L : List Say} {ρ : PV.Env} (hi : ρ.get i = .val (sayT L)) (hj : ρ.get j = .val (nD k)) (hk : k < L.length) : ev c (.ix (.var i) (.var j)) ρ = some (.v (.tup [rN (rw' L k), nD (nm L k)]), ρ) := by
  have a : atI (L.map sayD) (k : Int) = some (.tup [rN (rw' L k), nD (nm L k)]) := by
    rw [atI_mapf hk]
    unfold rw' nm
    rw [List.getD_eq_getElem?_getD, List.getElem?_eq_getElem hk]; rfl
  exact ix_ok (x := sayT L) (y := nD k) (ρ1 := ρ) (ρ2 := ρ) (by simp only [ev, hi]) (by simp only [ev, hj]) a
theorem ixBooks {c : Call} {i j k : Nat} {L : List Say} {ρ : PV.Env} (hi : ρ.get i = .val (sayT L)) (hj : ρ.get j = .val (nD k)) (hk : k < L.length) : ev c (.ix (.ix (.var i) (.var j)) (.kint 0)) ρ = some (.v (rN (rw' L k)), ρ) :=
  ix_ok (y := .int 0) (ρ2 := ρ) (ixSay hi hj hk) rfl rfl
theorem ixMany {c : Call} {i j k : Nat} {L : List Say} {ρ : PV.Env} (hi : ρ.get i = .val (sayT L)) (hj : ρ.get j = .val (nD k)) (hk : k < L.length) : ev c (.ix (.ix (.var i) (.var j)) (.kint 1)) ρ = some (.v (nD (nm L k)), ρ) :=
  ix_ok (y := .int 1) (ρ2 := ρ) (ixSay hi hj hk) rfl rfl
end K21

end
section
set_option Elab.async false
set_option linter.all false
set_option maxRecDepth 100000
set_option maxHeartbeats 4000000
/-! K21c: nested or not; what is next within; one's own; the first bad one. -/
namespace K21
open PySem L2 PV K46
theorem law_are_nested {n : Nat} {R : List (List Nat)} {b : Bx} (hR : R.length ≤ 1000) : go (n + 2) 18 [rD R] b = some (.bl (lwN R), b) := by
  show runF T drawP (n + 1 + 1) (17 + 1) _ b = _
  rw [go_step (fi := fi__law_are_nested) rfl rfl]
  show leave (exs (go (n + 1)) b__law_are_nested ⟨[.val (rD R), .un, .un, .un, .un], b⟩) = _
  unfold b__law_are_nested
  have hlen := lenL (c := go (n + 1)) (cc := .var 0) (ρ := ⟨[.val (rD R), .un, .un, .un, .un], b⟩) (xs := R.map rN) rfl
  rw [List.length_map] at hlen
  obtain ⟨ρ', e, s1, s2, s3, rfl⟩ := for_any (c := go (n + 1)) (vs := [1]) (l := List.range R.length) (g := nD) (p := fun i => (List.range i).any fun j => lwB (R.getD i []) (R.getD j [])) (d := .bl false) (w := .rng1 (.bi .len (.cons (.var 0) .nil))) (body := .cons (.for_ [2] (.rng1 (.var 1)) (.cons (.asg 3 (.not (.bi .any (.cons (.comp [4] (.of (.ix (.var 0) (.var 1))) .nil (.op .isin (.var 4) (.ix (.var 0) (.var 2)))) .nil))))
      (.cons (.ite (.or (.op .eq (.ix (.var 0) (.var 1)) (.ix (.var 0) (.var 2))) (.and (.not (.var 3)) (.and (.not (.call 17 (.cons (.ix (.var 0) (.var 1)) (.cons (.ix (.var 0) (.var 2)) .nil)))) (.not (.call 17 (.cons (.ix (.var 0) (.var 2)) (.cons (.ix (.var 0) (.var 1)) .nil))))))) (.cons (.ret (.kbl false))
        .nil) .nil)
      .nil))) .nil) (fun ρ => ∃ s1 s2 s3, ρ = ⟨[.val (rD R), s1, s2, s3, .un], b⟩) (rng_ok hlen (by omega)) ⟨_, _, _, rfl⟩ (by
    rintro i hi ρ ⟨s1, s2, s3, rfl⟩
    have hi := List.mem_range.mp hi
    obtain ⟨ρ', e, s2', s3', rfl⟩ := for_any (c := go (n + 1)) (vs := [2]) (l := List.range i) (g := nD) (p := fun j => lwB (R.getD i []) (R.getD j [])) (d := .bl false) (w := .rng1 (.var 1)) (body := .cons (.asg 3 (.not (.bi .any (.cons (.comp [4] (.of (.ix (.var 0) (.var 1))) .nil (.op .isin (.var 4) (.ix (.var 0) (.var 2)))) .nil))))
      (.cons (.ite (.or (.op .eq (.ix (.var 0) (.var 1)) (.ix (.var 0) (.var 2))) (.and (.not (.var 3)) (.and (.not (.call 17 (.cons (.ix (.var 0) (.var 1)) (.cons (.ix (.var 0) (.var 2)) .nil)))) (.not (.call 17 (.cons (.ix (.var 0) (.var 2)) (.cons (.ix (.var 0) (.var 1)) .nil))))))) (.cons (.ret (.kbl false))
        .nil) .nil)
      .nil)) (ρ1 := ⟨[.val (rD R), .val (nD i), s2, s3, .un], b⟩) (fun ρ => ∃ s2 s3, ρ = ⟨[.val (rD R), .val (nD i), s2, s3, .un], b⟩) (rng_ok (n := i) (ρ := ⟨[.val (rD R), .val (nD i), s2, s3, .un], b⟩) rfl (by omega)) ⟨_, _, rfl⟩ (by
      rintro j hj ρ ⟨s2, s3, rfl⟩
      have hj := List.mem_range.mp hj
      have r1 := ixRow (c := go (n + 1)) (i := 0) (j := 1) (k := i) (R := R) (ρ := ⟨[.val (rD R), .val (nD i), .val (nD j), s3, .un], b⟩) rfl rfl hi
      have k1 := any_ok (c := go (n + 1)) (l := R.getD i []) (f := fun x => (R.getD j []).contains x) (comp_of (i := 4) (it := .of (.ix (.var 0) (.var 1))) (elt := .op .isin (.var 4) (.ix (.var 0) (.var 2))) (g := nD) (of_tup r1) rfl fun x _ => by
        have r2 := ixRow (c := go (n + 1)) (i := 0) (j := 2) (k := j) (R := R) (ρ := ⟨[.val (rD R), .val (nD i), .val (nD j), s3, .val (nD x)], b⟩) rfl rfl (by omega)
        have e := in_rN (R.getD j []) x
        exact op_ok (o := .isin) (x := nD x) (y := rN (R.getD j [])) (ρ1 := ⟨[.val (rD R), .val (nD i), .val (nD j), s3, .val (nD x)], b⟩) (ρ2 := ⟨[.val (rD R), .val (nD i), .val (nD j), s3, .val (nD x)], b⟩) rfl r2 (by show (dIn _ _).map D.bl = _; rw [e]; rfl))
      have a1 := asg_ok (i := 3) (not_ok k1)
      have r1 := ixRow (c := go (n + 1)) (i := 0) (j := 1) (k := i) (R := R) (ρ := ⟨[.val (rD R), .val (nD i), .val (nD j), .val (.bl (apart (R.getD i []) (R.getD j []))), .un], b⟩) rfl rfl hi
      have r2 := ixRow (c := go (n + 1)) (i := 0) (j := 2) (k := j) (R := R) (ρ := ⟨[.val (rD R), .val (nD i), .val (nD j), .val (.bl (apart (R.getD i []) (R.getD j []))), .un], b⟩) rfl rfl (by omega)
      have t1 := op_ok (o := .eq) (z := .bl (decide (R.getD i [] = R.getD j []))) r1 r2 (by show (dEq _ _).map D.bl = _; rw [eq_rN]; rfl)
      have t2 := not_ok (c := go (n + 1)) (a := .var 3) (k := apart (R.getD i []) (R.getD j [])) (ρ := ⟨[.val (rD R), .val (nD i), .val (nD j), .val (.bl (apart (R.getD i []) (R.getD j []))), .un], b⟩) (ρ1 := ⟨[.val (rD R), .val (nD i), .val (nD j), .val (.bl (apart (R.getD i []) (R.getD j []))), .un], b⟩) rfl
      have t3 := not_ok (call2b (f := 17) r1 r2 (law_within (n := n)))
      have t4 := not_ok (call2b (f := 17) r2 r1 (law_within (n := n)))
      have tt := or_ok t1 fun _ => and_ok t2 fun _ => and_ok t3 fun _ => t4
      exact ⟨_, _, rfl, (exs_cons a1).trans (exs_one (ite_retE tt rfl)), _, _, rfl⟩)
    exact ⟨_, _, rfl, exs_one e, _, _, _, rfl⟩)
  unfold lwN
  cases q : (List.range R.length).any fun i => (List.range i).any fun j => lwB (R.getD i []) (R.getD j []) with
  | true =>
    rw [q] at e
    exact (congrArg leave (exs_ret e)).trans rfl
  | false =>
    rw [q] at e
    exact (congrArg leave ((exs_cons e).trans (exs_ret (ret_ok rfl)))).trans rfl
theorem are_nested {n : Nat} {L : List Say} {b : Bx} (hL : L.length ≤ 1000) : go (n + 2) 2 [sayT L] b = some (.bl (prN (rws L)), b) := by
  show runF T drawP (n + 1 + 1) (1 + 1) _ b = _
  rw [go_step (fi := fi_are_nested_sayings) rfl rfl]
  show leave (exs (go (n + 1)) b_are_nested_sayings ⟨[.val (sayT L), .un, .un, .un, .un, .un, .un, .un], b⟩) = _
  unfold b_are_nested_sayings
  have s1 := asg_ok (i := 1) (rows_ev (c := go (n + 1)) (i := 5) (j := 6) (k := 0) (L := L) (ρ := ⟨[.val (sayT L), .un, .un, .un, .un, .un, .un, .un], b⟩) rfl (by decide) rfl rfl (by simp))
  rw [exs_cons s1]
  generalize hR : rws L = R
  have hR1 : R.length ≤ 1000 := by rw [← hR, rws_len]; exact hL
  obtain ⟨ρ', e, s2, s3, s4, rfl⟩ := for_any (c := go (n + 1)) (vs := [2, 3]) (l := List.range R.length) (g := fun k => .tup [nD k, rN (R.getD k [])]) (p := fun k => (R.drop (k + 1)).any fun y => prB (R.getD k []) y) (d := .bl false) (w := .enum (.var 1)) (body := .cons (.for_ [4] (.of (.sl (.var 1) (.cons (.op .add (.var 2) (.kint 1)) .nil) .nil)) (.cons (.ite (.and (.not (.call 1 (.cons (.var 3) (.cons (.var 4) .nil)))) (.and (.not (.call 1 (.cons (.var 4) (.cons (.var 3) .nil)))) (.bi .any (.cons (.comp [7] (.of (.var 3)) .nil (.op .isin (.var 7) (.var 4))) .nil)))) (.cons (.ret (.kbl false))
        .nil) .nil)
      .nil)) .nil) (ρ := ⟨[.val (sayT L), .val (rD R), .un, .un, .un, .un, .un, .un], b⟩) (fun ρ => ∃ s2 s3 s4, ρ = ⟨[.val (sayT L), .val (rD R), s2, s3, s4, .un, .un, .un], b⟩) (enum_ok (l := R) (g := rN) [] rfl) ⟨_, _, _, rfl⟩ (by
    rintro k hk ρ ⟨s2, s3, s4, rfl⟩
    have hk := List.mem_range.mp hk
    have hs : evIt (go (n + 1)) (.of (.sl (.var 1) (.cons (.op .add (.var 2) (.kint 1)) .nil) .nil)) ⟨[.val (sayT L), .val (rD R), .val (nD k), .val (rN (R.getD k [])), s4, .un, .un, .un], b⟩ = some (.vals ((R.drop (k + 1)).map rN), ⟨[.val (sayT L), .val (rD R), .val (nD k), .val (rN (R.getD k [])), s4, .un, .un, .un], b⟩) := by
      refine of_lst ?_
      have e := slc_drop (R.map rN) (k + 1)
      rw [← List.map_drop] at e
      have e1 : ((k + 1 : Nat) : Int) = (k : Int) + 1 := by omega
      rw [e1] at e
      have hd : dSl (rD R) (some ((k : Int) + 1)) none = some (.lst ((R.drop (k + 1)).map rN)) := by show some (D.lst _) = _; rw [e]
      simp only [rD] at hd
      simp (config := { implicitDefEqProofs := false }) only [entry, exs, exS, ev, evs, evO, evIfs, evIt, evT, tstR_some', tru, at_v, at_p, val_v, atL, valL, get_mk, put_mk, ob_some, ob_none, isTy, op2, dIs, leave, bfn, seqOf_lst, seqOf_tup, srcOf_lst, srcOf_tup, setTg1, setTg2, setTg3, and_self, and_true, true_and, newPut, isOwn, List.map_cons, List.map_nil, List.length_cons, List.length_nil, List.cons_append, List.nil_append, List.getD_cons_zero, List.getD_cons_succ, List.set_cons_zero, List.set_cons_succ, List.replicate_succ, List.replicate_zero, Nat.reduceSub, Nat.reduceAdd, Option.map_some, Option.map_none, Option.some_or, beq_self_eq_true, Bool.true_eq_false, Bool.false_eq_true, Bool.not_true, Bool.not_false, Bool.not_eq_true', if_true, if_false, dSl, hd]
      first | done | exact congrArg (fun x => some (Hd.v (.lst x), _)) e
    obtain ⟨ρ', e, s4', rfl⟩ := for_any (c := go (n + 1)) (vs := [4]) (l := R.drop (k + 1)) (g := rN) (p := fun y => prB (R.getD k []) y) (d := .bl false) (body := .cons (.ite (.and (.not (.call 1 (.cons (.var 3) (.cons (.var 4) .nil)))) (.and (.not (.call 1 (.cons (.var 4) (.cons (.var 3) .nil)))) (.bi .any (.cons (.comp [7] (.of (.var 3)) .nil (.op .isin (.var 7) (.var 4))) .nil)))) (.cons (.ret (.kbl false))
        .nil) .nil)
      .nil) (fun ρ => ∃ s4, ρ = ⟨[.val (sayT L), .val (rD R), .val (nD k), .val (rN (R.getD k [])), s4, .un, .un, .un], b⟩) hs ⟨_, rfl⟩ (by
      rintro y hy ρ ⟨s4, rfl⟩
      have t1 := not_ok (call2b (c := go (n + 1)) (f := 1) (a := .var 3) (e := .var 4) (x := rN (R.getD k [])) (y := rN y) (ρ := ⟨[.val (sayT L), .val (rD R), .val (nD k), .val (rN (R.getD k [])), .val (rN y), .un, .un, .un], b⟩) rfl rfl (is_inside (n := n)))
      have t2 := not_ok (call2b (c := go (n + 1)) (f := 1) (a := .var 4) (e := .var 3) (x := rN y) (y := rN (R.getD k [])) (ρ := ⟨[.val (sayT L), .val (rD R), .val (nD k), .val (rN (R.getD k [])), .val (rN y), .un, .un, .un], b⟩) rfl rfl (is_inside (n := n)))
      have t3 := any_in (c := go (n + 1)) (i := 7) (j := 4) (it := .of (.var 3)) (r := R.getD k []) (s := y) (ρ := ⟨[.val (sayT L), .val (rD R), .val (nD k), .val (rN (R.getD k [])), .val (rN y), .un, .un, .un], b⟩) (of_tup rfl) rfl (by simp) (by decide) rfl
      exact ⟨_, _, rfl, exs_one (ite_retE (and_ok t1 fun _ => and_ok t2 fun _ => t3) rfl), _, rfl⟩)
    exact ⟨_, _, rfl, exs_one e, _, _, _, rfl⟩)
  unfold prN
  cases q : (List.range R.length).any fun k => (R.drop (k + 1)).any fun y => prB (R.getD k []) y with
  | true =>
    rw [q] at e
    exact (congrArg leave (exs_ret e)).trans rfl
  | false =>
    rw [q] at e
    exact (congrArg leave ((exs_cons e).trans (exs_ret (ret_ok rfl)))).trans rfl
/-! ### what is next within -/
theorem not_any {c : Call} {cc : E} {ρ : PV.Env} {q : Bool} (h : ev c (.bi .any (.cons cc .nil)) ρ = some (.v (.bl q), ρ)) : ev c (.not (.bi .any (.cons cc .nil))) ρ = some (.v (.bl !q), ρ) := not_ok h
theorem next_within {n k : Nat} {L : List Say} {b : Bx} (hL : L.length ≤ 1000) (hk : k < L.length) : go (n + 2) 3 [sayT L, nD k] b = some (rN (near L k), b) := by
  show runF T drawP (n + 1 + 1) (2 + 1) _ b = _
  rw [go_step (fi := fi_next_within) rfl rfl]
  show leave (exs (go (n + 1)) b_next_within ⟨[.val (sayT L), .val (nD k), .un, .un, .un, .un, .un, .un], b⟩) = _
  unfold b_next_within
  have s1 := asg_ok (i := 2) (rows_ev (c := go (n + 1)) (i := 5) (j := 6) (k := 0) (L := L) (ρ := ⟨[.val (sayT L), .val (nD k), .un, .un, .un, .un, .un, .un], b⟩) rfl (by decide) rfl rfl (by simp))
  refine (congrArg leave (exs_cons s1)).trans ?_
  have hlen := lenL (c := go (n + 1)) (cc := .var 2) (ρ := ⟨[.val (sayT L), .val (nD k), .val (rD (rws L)), .un, .un, .un, .un, .un], b⟩) (xs := (rws L).map rN) rfl
  rw [List.length_map, rws_len] at hlen
  have hcall : ∀ (s3 s7 : PV.Slot) (j : Nat), j < L.length → ev (go (n + 1)) (.call 1 (.cons (.ix (.var 2) (.var 4)) (.cons (.ix (.var 2) (.var 1)) .nil))) ⟨[.val (sayT L), .val (nD k), .val (rD (rws L)), s3, .val (nD j), .un, .un, s7], b⟩ = some (.v (.bl (insB (rw' L j) (rw' L k))), ⟨[.val (sayT L), .val (nD k), .val (rD (rws L)), s3, .val (nD j), .un, .un, s7], b⟩) := fun s3 s7 j hj => by
    have r1 := ixRow (c := go (n + 1)) (i := 2) (j := 4) (k := j) (R := rws L) (ρ := ⟨[.val (sayT L), .val (nD k), .val (rD (rws L)), s3, .val (nD j), .un, .un, s7], b⟩) rfl rfl (by rw [rws_len]; exact hj)
    have r2 := ixRow (c := go (n + 1)) (i := 2) (j := 1) (k := k) (R := rws L) (ρ := ⟨[.val (sayT L), .val (nD k), .val (rD (rws L)), s3, .val (nD j), .un, .un, s7], b⟩) rfl rfl (by rw [rws_len]; exact hk)
    rw [rw_getD] at r1 r2
    exact call2b r1 r2 (is_inside (n := n))
  have s2 := asg_ok (i := 3) (comp_if (c := go (n + 1)) (i := 4) (it := .rng1 (.bi .len (.cons (.var 2) .nil))) (t := .call 1 (.cons (.ix (.var 2) (.var 4)) (.cons (.ix (.var 2) (.var 1)) .nil))) (elt := .var 4) (ρ := ⟨[.val (sayT L), .val (nD k), .val (rD (rws L)), .un, .un, .un, .un, .un], b⟩) (l := List.range L.length) (g := nD) (f := nD) (fun j => insB (rw' L j) (rw' L k)) (rng_ok hlen (by omega)) rfl (fun j hj => hcall .un .un j (List.mem_range.mp hj)) fun j _ _ => rfl)
  refine (congrArg leave (exs_cons s2)).trans ?_
  have key := comp_if (c := go (n + 1)) (i := 4) (it := .of (.var 3)) (t := .not (.bi .any (.cons (.comp [7] (.of (.var 3)) .nil (.call 1 (.cons (.ix (.var 2) (.var 4)) (.cons (.ix (.var 2) (.var 7)) .nil)))) .nil))) (elt := .var 4) (ρ := ⟨[.val (sayT L), .val (nD k), .val (rD (rws L)), .val (.lst ((ins L k).map nD)), .un, .un, .un, .un], b⟩) (l := ins L k) (g := nD) (f := nD) (fun j => !((ins L k).any fun i => insB (rw' L j) (rw' L i))) (of_lst rfl) rfl (fun j hj => by
    refine not_any (any_ok (l := ins L k) (f := fun i => insB (rw' L j) (rw' L i)) (comp_of (c := go (n + 1)) (i := 7) (it := .of (.var 3)) (elt := .call 1 (.cons (.ix (.var 2) (.var 4)) (.cons (.ix (.var 2) (.var 7)) .nil))) (ρ := ⟨[.val (sayT L), .val (nD k), .val (rD (rws L)), .val (.lst ((ins L k).map nD)), .val (nD j), .un, .un, .un], b⟩) (g := nD) (of_lst rfl) rfl fun i hi => ?_))
    have r1 := ixRow (c := go (n + 1)) (i := 2) (j := 4) (k := j) (R := rws L) (ρ := ⟨[.val (sayT L), .val (nD k), .val (rD (rws L)), .val (.lst ((ins L k).map nD)), .val (nD j), .un, .un, .val (nD i)], b⟩) rfl rfl (by rw [rws_len]; exact (mem_ins.mp hj).1)
    have r2 := ixRow (c := go (n + 1)) (i := 2) (j := 7) (k := i) (R := rws L) (ρ := ⟨[.val (sayT L), .val (nD k), .val (rD (rws L)), .val (.lst ((ins L k).map nD)), .val (nD j), .un, .un, .val (nD i)], b⟩) rfl rfl (by rw [rws_len]; exact (mem_ins.mp hi).1)
    rw [rw_getD] at r1 r2
    exact call2b r1 r2 (is_inside (n := n))) fun j _ _ => rfl
  exact (congrArg leave (exs_ret (ret_ok (tupL key)))).trans rfl
theorem own_books {n k : Nat} {L : List Say} {b : Bx} (hL : L.length ≤ 1000) (hk : k < L.length) : go (n + 3) 4 [sayT L, nD k] b = some (rN (own L k), b) := by
  show runF T drawP (n + 2 + 1) (3 + 1) _ b = _
  rw [go_step (fi := fi_own_books) rfl rfl]
  show leave (exs (go (n + 2)) b_own_books ⟨[.val (sayT L), .val (nD k), .un, .un, .un], b⟩) = _
  unfold b_own_books
  have s1 := asg_ok (i := 2) (call2b (c := go (n + 2)) (f := 3) (a := .var 0) (e := .var 1) (x := sayT L) (y := nD k) (ρ := ⟨[.val (sayT L), .val (nD k), .un, .un, .un], b⟩) rfl rfl (next_within (n := n) hL hk))
  refine (congrArg leave (exs_cons s1)).trans ?_
  have r0 := ixBooks (c := go (n + 2)) (i := 0) (j := 1) (L := L) (ρ := ⟨[.val (sayT L), .val (nD k), .val (rN (near L k)), .un, .un], b⟩) rfl rfl hk
  have key := comp_if (c := go (n + 2)) (i := 3) (it := .of (.ix (.ix (.var 0) (.var 1)) (.kint 0))) (t := .not (.bi .any (.cons (.comp [4] (.of (.var 2)) .nil (.op .isin (.var 3) (.ix (.ix (.var 0) (.var 4)) (.kint 0)))) .nil))) (elt := .var 3) (ρ := ⟨[.val (sayT L), .val (nD k), .val (rN (near L k)), .un, .un], b⟩) (l := rw' L k) (g := nD) (f := nD) (fun x => !((near L k).any fun j => (rw' L j).contains x)) (of_tup r0) rfl (fun x hx => by
    refine not_any (any_ok (l := near L k) (f := fun j => (rw' L j).contains x) (comp_of (c := go (n + 2)) (i := 4) (it := .of (.var 2)) (elt := .op .isin (.var 3) (.ix (.ix (.var 0) (.var 4)) (.kint 0))) (ρ := ⟨[.val (sayT L), .val (nD k), .val (rN (near L k)), .val (nD x), .un], b⟩) (g := nD) (of_tup rfl) rfl fun j hj => ?_))
    have r1 := ixBooks (c := go (n + 2)) (i := 0) (j := 4) (L := L) (ρ := ⟨[.val (sayT L), .val (nD k), .val (rN (near L k)), .val (nD x), .val (nD j)], b⟩) rfl rfl (near_lt hj)
    have e := in_rN (rw' L j) x
    exact op_ok (o := .isin) (x := nD x) (y := rN (rw' L j)) (ρ1 := ⟨[.val (sayT L), .val (nD k), .val (rN (near L k)), .val (nD x), .val (nD j)], b⟩) rfl r1 (by show (dIn _ _).map D.bl = _; rw [e]; rfl)) fun x _ _ => rfl
  exact (congrArg leave (exs_ret (ret_ok (tupL key)))).trans rfl
theorem own_many {n k : Nat} {L : List Say} {b : Bx} (hL : L.length ≤ 1000) (hk : k < L.length) : go (n + 3) 5 [sayT L, nD k] b = some (.int (ownN L k), b) := by
  show runF T drawP (n + 2 + 1) (4 + 1) _ b = _
  rw [go_step (fi := fi_own_many) rfl rfl]
  show leave (exs (go (n + 2)) b_own_many ⟨[.val (sayT L), .val (nD k), .un], b⟩) = _
  have r0 := ixMany (c := go (n + 2)) (i := 0) (j := 1) (L := L) (ρ := ⟨[.val (sayT L), .val (nD k), .un], b⟩) rfl rfl hk
  have c0 := call2b (c := go (n + 2)) (f := 3) (a := .var 0) (e := .var 1) (x := sayT L) (y := nD k) (ρ := ⟨[.val (sayT L), .val (nD k), .un], b⟩) rfl rfl (next_within (n := n) hL hk)
  have k1 := sum_ok (c := go (n + 2)) (l := near L k) (f := nm L) (comp_of (i := 2) (it := .of (.call 3 (.cons (.var 0) (.cons (.var 1) .nil)))) (elt := .ix (.ix (.var 0) (.var 2)) (.kint 1)) (ρ := ⟨[.val (sayT L), .val (nD k), .un], b⟩) (g := nD) (of_tup c0) rfl fun j hj => ixMany (c := go (n + 2)) (i := 0) (j := 2) (L := L) (ρ := ⟨[.val (sayT L), .val (nD k), .val (nD j)], b⟩) rfl rfl (near_lt hj))
  exact (congrArg leave (exs_ret (ret_ok (op_ok (o := .sub) r0 k1 rfl)))).trans rfl
abbrev optK : Option Nat → D | some k => nD k | none => .non
theorem bad_saying {n : Nat} {L : List Say} {b : Bx} (hL : L.length ≤ 1000) : go (n + 4) 6 [sayT L] b = some (optK (bad L), b) := by
  show runF T drawP (n + 3 + 1) (5 + 1) _ b = _
  rw [go_step (fi := fi_bad_saying) rfl rfl]
  show leave (exs (go (n + 3)) b_bad_saying ⟨[.val (sayT L), .un], b⟩) = _
  unfold b_bad_saying
  have hlen := lenT (c := go (n + 3)) (cc := .var 0) (ρ := ⟨[.val (sayT L), .un], b⟩) (xs := L.map sayD) rfl
  rw [List.length_map] at hlen
  obtain ⟨ρ', e, s1, rfl⟩ := for_find (c := go (n + 3)) (vs := [1]) (l := List.range L.length) (g := nD) (p := badB L) (w := .rng1 (.bi .len (.cons (.var 0) .nil))) (body := .cons (.ite (.not (.chain .le .le (.kint 0) (.call 5 (.cons (.var 0) (.cons (.var 1) .nil))) (.bi .len (.cons (.call 4 (.cons (.var 0) (.cons (.var 1) .nil))) .nil)))) (.cons (.ret (.var 1))
      .nil) .nil)
    .nil) (fun ρ => ∃ s1, ρ = ⟨[.val (sayT L), s1], b⟩) (rng_ok hlen (by omega)) ⟨_, rfl⟩ (by
    rintro k hk ρ ⟨s1, rfl⟩
    have hk := List.mem_range.mp hk
    have c1 := call2b (c := go (n + 3)) (f := 5) (a := .var 0) (e := .var 1) (x := sayT L) (y := nD k) (ρ := ⟨[.val (sayT L), .val (nD k)], b⟩) rfl rfl (own_many (n := n) hL hk)
    have c2 := lenT (call2b (c := go (n + 3)) (f := 4) (a := .var 0) (e := .var 1) (x := sayT L) (y := nD k) (ρ := ⟨[.val (sayT L), .val (nD k)], b⟩) rfl rfl (own_books (n := n) hL hk))
    rw [List.length_map] at c2
    have t := not_ok (chain_le (a := .kint 0) (x := 0) rfl c1 c2)
    exact ⟨_, _, rfl, exs_one (ite_retE t rfl), _, rfl⟩)
  cases q : bad L with
  | some k =>
    unfold bad at q
    rw [q] at e
    exact (congrArg leave (exs_ret e)).trans rfl
  | none =>
    unfold bad at q
    rw [q] at e
    exact (congrArg leave ((exs_cons e).trans (exs_ret (ret_ok rfl)))).trans rfl
end K21

end
section
set_option Elab.async false
set_option linter.all false
set_option maxRecDepth 100000
set_option maxHeartbeats 4000000
/-! K21d: the first list, the number of lists. -/
namespace PV
open PySem L2
theorem for_idx {c : Call} {vs : List Nat} {w : Wk} {body : Ss} {ρ ρ1 : Env} {n : Nat} {g : Nat → D} (I : Nat → Env → Prop) (hw : evIt c w ρ = some (.vals ((List.range n).map g), ρ1)) (h0 : I 0 ρ1)
    (h : ∀ j < n, ∀ ρ, I j ρ → ∃ ρ0 ρ', setTg vs (g j) ρ = some ρ0 ∧ exs c body ρ0 = some (.next, ρ') ∧ I (j + 1) ρ') : ∃ ρ', exS c (.for_ vs w body) ρ = some (.next, ρ') ∧ I n ρ' := by
  obtain ⟨ρ', e, hI⟩ := forL_inv (turn := fun x ρ => (setTg vs x ρ).bind fun ρ => exs c body ρ) I (xs := (List.range n).map g) (k := 0) (ρ := ρ1) h0 fun j x ρ hx hI => by
    rw [Nat.zero_add] at hI ⊢
    have hj : j < n := by
      have := (List.getElem?_eq_some_iff.mp hx).1
      rw [List.length_map, List.length_range] at this
      exact this
    have hxk : x = g j := by
      rw [List.getElem?_map, List.getElem?_range hj] at hx
      cases hx
      rfl
    subst hxk
    obtain ⟨ρ0, ρ', e1, e2, e3⟩ := h j hj ρ hI
    exact ⟨ρ', by rw [e1, Option.bind_some]; exact e2, e3⟩
  rw [Nat.zero_add, List.length_map, List.length_range] at hI
  exact ⟨ρ', for_gen hw e, hI⟩
theorem par_nv {c : Call} {i j : Nat} {a e : E} {ρ ρ1 ρ2 : Env} {xs : List D} {y : D} (h1 : ev c a ρ = some (.v (.lst xs), ρ1)) (h2 : ev c e ρ1 = some (.v y, ρ2)) : exS c (.par i true a j false e) ρ = some (.next, (ρ2.put i (.own xs)).put j (.val y)) := by
  simp only [exS, h1, h2, ob_some, Option.bind_eq_bind, Option.bind_some, val_v, newPut]
theorem par_vv {c : Call} {i j : Nat} {a e : E} {ρ ρ1 ρ2 : Env} {x y : D} (h1 : ev c a ρ = some (.v x, ρ1)) (h2 : ev c e ρ1 = some (.v y, ρ2)) : exS c (.par i false a j false e) ρ = some (.next, (ρ2.put i (.val x)).put j (.val y)) := by
  simp only [exS, h1, h2, ob_some, Option.bind_eq_bind, Option.bind_some, val_v, newPut]
theorem frz_ok {c : Call} {i : Nat} {ρ : Env} {ds : List D} (h : ρ.get i = .own ds) : exS c (.frz i) ρ = some (.next, ρ.put i (.val (.lst ds))) := by
  simp only [exS, h]
theorem sorted_asc {l t : List Nat} (hl : l.Nodup) (ht : K21.Asc t) (hm : ∀ x, x ∈ l ↔ x ∈ t) : dSorted (l.map nD) = some (t.map nD) := by
  have hlt : ∀ a b : Nat, D.ltb (nD a) (nD b) = decide (a < b) := fun a b => lt_nat a b
  rw [sorted_map nD (l := l) (allSame_of (fun x _ => ⟨rfl, Nat.zero_le _⟩) (fun x _ y _ => rfl))]
  congr 2
  have hp := sortG_perm (lt := fun a b => D.ltb (nD a) (nD b)) l
  have hs := sortG_srtd (lt := fun a b => D.ltb (nD a) (nD b)) ⟨fun a b h => by
    simp only [hlt, decide_eq_true_eq, decide_eq_false_iff_not] at h ⊢
    omega, fun a b c h1 h2 => by
    simp only [hlt, decide_eq_true_eq, decide_eq_false_iff_not] at h1 h2 ⊢
    omega⟩ l
  generalize sortG (fun a b => D.ltb (nD a) (nD b)) l = r at hp hs
  have hn : r.Nodup := hp.nodup_iff.mpr hl
  refine K21.asc_ext ?_ ht fun x => by rw [hp.mem_iff, hm]
  refine (List.Pairwise.and hs hn).imp fun {a b} h => ?_
  have h1 := h.1
  simp only [hlt, decide_eq_false_iff_not] at h1
  have h2 : a ≠ b := h.2
  omega
theorem srt_ev {c : Call} {e : E} {ρ ρ1 : Env} {l t : List Nat} (h : ev c e ρ = some (.v (.lst (l.map nD)), ρ1)) (hl : l.Nodup) (ht : K21.Asc t) (hm : ∀ x, x ∈ l ↔ x ∈ t) : ev c (.bi .sorted (.cons e .nil)) ρ = some (.v (.lst (t.map nD)), ρ1) := by
  have hs := sorted_asc hl ht hm
  simp (config := { implicitDefEqProofs := false }) only [entry, exs, exS, ev, evs, evO, evIfs, evIt, evT, tstR_some', tru, at_v, at_p, val_v, atL, valL, get_mk, put_mk, ob_some, ob_none, isTy, op2, dIs, leave, bfn, seqOf_lst, seqOf_tup, srcOf_lst, srcOf_tup, setTg1, setTg2, setTg3, and_self, and_true, true_and, newPut, isOwn, List.map_cons, List.map_nil, List.length_cons, List.length_nil, List.cons_append, List.nil_append, List.getD_cons_zero, List.getD_cons_succ, List.set_cons_zero, List.set_cons_succ, List.replicate_succ, List.replicate_zero, Nat.reduceSub, Nat.reduceAdd, Option.map_some, Option.map_none, Option.some_or, beq_self_eq_true, Bool.true_eq_false, Bool.false_eq_true, Bool.not_true, Bool.not_false, Bool.not_eq_true', if_true, if_false, h, hs]
theorem subN {a b : Nat} (h : b ≤ a) : op2 .sub (nD a) (nD b) = some (nD (a - b)) := by
  show some (D.int ((a : Int) - (b : Int))) = some (D.int _)
  congr 2; omega
end PV
namespace K21
open PySem L2 PV K46
def lastZ (F : List Nat) : Int := match F.getLast? with | some x => (x : Int) | none => -1
theorem first_with_free {n : Nat} {F fr G : List Nat} {b : Bx} (hF : Asc F) (hf : Asc fr) (hd : ∀ x ∈ F, x ∉ fr) (hG : Asc G) (hm : ∀ x, x ∈ G ↔ x ∈ F ∨ (x ∈ fr ∧ (x : Int) < lastZ F)) (h1 : F.length ≤ 1000) (h2 : fr.length ≤ 1000) :
    go (n + 1) 8 [.lst (F.map nD), .lst (fr.map nD)] b = some (rN G, b) := by
  show runF T drawP (n + 1) (7 + 1) _ b = _
  rw [go_step (fi := fi_first_with_free) rfl rfl]
  show leave (exs (go n) b_first_with_free ⟨[.val (.lst (F.map nD)), .val (.lst (fr.map nD)), .un, .un], b⟩) = _
  unfold b_first_with_free
  have s1 : exS (go n) (.asg 2 (.ite (.var 0) (.bi .max (.cons (.var 0) .nil)) (.neg (.kint 1)))) ⟨[.val (.lst (F.map nD)), .val (.lst (fr.map nD)), .un, .un], b⟩ = some (.next, ⟨[.val (.lst (F.map nD)), .val (.lst (fr.map nD)), .val (.int (lastZ F)), .un], b⟩) := by
    refine asg_ok (ρ' := ⟨[.val (.lst (F.map nD)), .val (.lst (fr.map nD)), .un, .un], b⟩) (d := .int (lastZ F)) ?_
    rcases List.eq_nil_or_concat F with rfl | ⟨t, y, rfl⟩
    · exact iteE_fls (d := .lst []) rfl rfl (by simp (config := { implicitDefEqProofs := false }) only [entry, exs, exS, ev, evs, evO, evIfs, evIt, evT, tstR_some', tru, at_v, at_p, val_v, atL, valL, get_mk, put_mk, ob_some, ob_none, isTy, op2, dIs, leave, bfn, seqOf_lst, seqOf_tup, srcOf_lst, srcOf_tup, setTg1, setTg2, setTg3, and_self, and_true, true_and, newPut, isOwn, List.map_cons, List.map_nil, List.length_cons, List.length_nil, List.cons_append, List.nil_append, List.getD_cons_zero, List.getD_cons_succ, List.set_cons_zero, List.set_cons_succ, List.replicate_succ, List.replicate_zero, Nat.reduceSub, Nat.reduceAdd, Option.map_some, Option.map_none, Option.some_or, beq_self_eq_true, Bool.true_eq_false, Bool.false_eq_true, Bool.not_true, Bool.not_false, Bool.not_eq_true', if_true, if_false]; rfl)
    · rw [List.concat_eq_append] at *
      refine iteE_tru (d := .lst ((t ++ [y]).map nD)) rfl (by show some (!((t ++ [y]).map nD).isEmpty) = _; cases t <;> rfl) ?_
      refine max_ints (l := toZ (t ++ [y])) (by rw [← toZ_D]; rfl) ?_
      have e : lastZ (t ++ [y]) = (y : Int) := by unfold lastZ; rw [List.getLast?_concat]
      rw [e]
      refine max_is (List.mem_map.mpr ⟨y, by simp, rfl⟩) fun z hz => ?_
      obtain ⟨x, hx, rfl⟩ := List.mem_map.mp hz
      rcases List.mem_append.mp hx with h | h
      · have := (List.pairwise_append.mp hF).2.2 x h y (by simp); omega
      · rw [List.mem_singleton] at h; subst h; exact Int.le_refl _
  have k1 := comp_if (c := go n) (i := 3) (it := .of (.var 1)) (t := .op .lt (.var 3) (.var 2)) (elt := .var 3) (ρ := ⟨[.val (.lst (F.map nD)), .val (.lst (fr.map nD)), .val (.int (lastZ F)), .un], b⟩) (l := fr) (g := nD) (f := nD) (fun x => decide ((x : Int) < lastZ F)) (of_lst rfl) rfl (fun x _ => op_ok (o := .lt) (x := nD x) (y := .int (lastZ F)) (ρ1 := ⟨[.val (.lst (F.map nD)), .val (.lst (fr.map nD)), .val (.int (lastZ F)), .val (nD x)], b⟩) rfl rfl rfl) fun x _ _ => rfl
  have k2 := add_vals (c := go n) (a := .var 0) (xs := F.map nD) (ρ := ⟨[.val (.lst (F.map nD)), .val (.lst (fr.map nD)), .val (.int (lastZ F)), .un], b⟩) rfl k1 (by
    rw [List.length_map, List.length_map]
    have := List.length_filter_le (fun x : Nat => decide ((x : Int) < lastZ F)) fr
    omega)
  rw [← List.map_append] at k2
  have k3 := srt_ev (t := G) k2 (by
    refine List.nodup_append.mpr ⟨asc_nodup hF, (asc_nodup hf).sublist List.filter_sublist, fun x hx y hy e => ?_⟩
    subst e
    exact hd x hx (List.mem_filter.mp hy).1) hG (fun x => by
    rw [hm, List.mem_append, List.mem_filter, decide_eq_true_eq])
  exact (congrArg leave ((exs_cons s1).trans (exs_ret (ret_ok (tupL k3))))).trans rfl
end K21

end
section
set_option Elab.async false
set_option linter.all false
set_option maxRecDepth 100000
set_option maxHeartbeats 4000000
/-! K21e: nested_list, count_nested, _law_sets. -/
namespace K21
open PySem L2 PV K46
theorem grd_len {L : List Say} (j : Nat) : (grd (cl L) (oN L) j).length ≤ j :=
  PV.asc_len ((PV.asc_pair _).mpr (grd_asc _ _ j)) fun s hs => ((mem_grd _ _).mp hs).1
theorem addR_len {L : List Say} {j : Nat} {f : List Nat} : ∀ k, ((List.range k).foldl (addR L j) f).length ≤ f.length + k
  | 0 => Nat.le_refl _
  | k + 1 => by
    rw [List.range_succ, List.foldl_append]
    have := addR_len (L := L) (j := j) (f := f) k
    generalize (List.range k).foldl (addR L j) f = F at this
    show (addR L j F k).length ≤ _
    unfold addR
    split
    · rw [List.length_append]; simp; omega
    · omega
theorem bad_t {n : Nat} {L : List Say} {ρ : PV.Env} {i : Nat} (hL : L.length ≤ 1000) (h : ρ.get i = .val (sayT L)) : ev (go (n + 4)) (.op .isnot (.call 6 (.cons (.var i) .nil)) (.knon)) ρ = some (.v (.bl (bad L).isSome), ρ) := by
  refine op_ok (o := .isnot) (x := optK (bad L)) (y := .non) (ρ1 := ρ) (call1 (x := sayT L) (ρ1 := ρ) (by simp only [ev, h]) (bad_saying (n := n) (b := ρ.bx) hL)) rfl ?_
  cases bad L <;> rfl
abbrev nE (m : Nat) (L : List Say) (s2 : PV.Slot) (F : List Nat) (s6 s7 : PV.Slot) (b : Bx) : PV.Env := ⟨[.val (nD m), .val (sayT L), s2, .un, .own (F.map nD), .val (.lst ((List.range L.length).map fun k => .tup [rN (own L k), .int (ownN L k)])), s6, s7, .un, .un, .un], b⟩
abbrev lstD (L : List Say) (m : Nat) : D := if (bad L).isSome then .non else rN (fst L m)
theorem lstZ_lst1 {L : List Say} {m x : Nat} : ((x : Int) < lastZ (grd (cl L) (oN L) m)) ↔ x + 1 < lst1 (cl L) (oN L) m := by
  unfold lastZ lst1
  cases (grd (cl L) (oN L) m).getLast? with
  | none => show (x : Int) < -1 ↔ x + 1 < 0; omega
  | some y => show (x : Int) < (y : Int) ↔ x + 1 < y + 1; omega
theorem inRow_ev {c : Call} {i j k l x : Nat} {L : List Say} {ρ : PV.Env} (hk : ρ.get k = .val (sayT L)) (hij : i ≠ j) (hx : ρ.get l = .val (nD x)) (hil : i ≠ l) (hjl : j ≠ l) (ho : isOwn (ρ.get i) = false) (ho2 : isOwn (ρ.get j) = false) (hl : i < ρ.sl.length) :
    ev c (.bi .any (.cons (.comp [i, j] (.of (.var k)) .nil (.op .isin (.var l) (.var i))) .nil)) ρ = some (.v (.bl (inRow L x)), ρ) := by
  refine any_ok (l := L) (f := fun p => p.1.contains x) (compP_of (c := c) (i := i) (j := j) (it := .of (.var k)) (elt := .op .isin (.var l) (.var i)) (ρ := ρ) (l := L) (g1 := fun p => rN p.1) (g2 := fun p => nD p.2) (f := fun p => .bl (p.1.contains x)) hij (of_tup (xs := L.map sayD) (by simp only [ev, hk])) ho ho2 fun p _ => ?_)
  have g1 : ((ρ.put i (.val (rN p.1))).put j (.val (nD p.2))).get i = .val (rN p.1) := by rw [get_put_ne (fun e => hij e.symm), get_put_eq hl]
  have g2 : ((ρ.put i (.val (rN p.1))).put j (.val (nD p.2))).get l = .val (nD x) := by rw [get_put_ne hjl, get_put_ne hil, hx]
  have e := in_rN p.1 x
  exact op_ok (o := .isin) (x := nD x) (y := rN p.1) (ρ1 := (ρ.put i (.val (rN p.1))).put j (.val (nD p.2))) (ρ2 := (ρ.put i (.val (rN p.1))).put j (.val (nD p.2))) (by simp only [ev, g2]) (by simp only [ev, g1]) (by show (dIn _ _).map D.bl = _; rw [e]; rfl)
theorem nested_list {n m : Nat} {L : List Say} {b : Bx} (h : NestM L m) (hm : m ≤ 100) (hL : L.length ≤ 1000) : go (n + 5) 7 [nD m, sayT L] b = some (lstD L m, b) := by
  show runF T drawP (n + 4 + 1) (6 + 1) _ b = _
  rw [go_step (fi := fi_nested_list) rfl rfl]
  show leave (exs (go (n + 4)) b_nested_list ⟨[.val (nD m), .val (sayT L), .un, .un, .un, .un, .un, .un, .un, .un, .un], b⟩) = _
  unfold b_nested_list
  have t1 := ite_retE (e := .knon) (d := .non) (bad_t (n := n) (i := 1) (ρ := ⟨[.val (nD m), .val (sayT L), .un, .un, .un, .un, .un, .un, .un, .un, .un], b⟩) hL rfl) rfl
  unfold lstD
  cases q : bad L with
  | some k =>
    rw [q] at t1
    exact (congrArg leave (exs_ret t1)).trans rfl
  | none =>
    rw [q] at t1
    refine (congrArg leave (exs_cons t1)).trans ?_
    have hlen := lenT (c := go (n + 4)) (cc := .var 1) (ρ := ⟨[.val (nD m), .val (sayT L), .un, .un, .un, .un, .un, .un, .un, .un, .un], b⟩) (xs := L.map sayD) rfl
    rw [List.length_map] at hlen
    have k2 := comp_of (c := go (n + 4)) (i := 8) (it := .rng1 (.bi .len (.cons (.var 1) .nil))) (elt := .tup (.cons (.call 4 (.cons (.var 1) (.cons (.var 8) .nil))) (.cons (.call 5 (.cons (.var 1) (.cons (.var 8) .nil))) .nil))) (ρ := ⟨[.val (nD m), .val (sayT L), .un, .un, .un, .un, .un, .un, .un, .un, .un], b⟩) (l := List.range L.length) (g := nD) (f := fun k => .tup [rN (own L k), .int (ownN L k)]) (rng_ok hlen (by omega)) rfl fun k hk => by
      have hk := List.mem_range.mp hk
      exact tup2 (call2b (c := go (n + 4)) (f := 4) (a := .var 1) (e := .var 8) (x := sayT L) (y := nD k) (ρ := ⟨[.val (nD m), .val (sayT L), .un, .un, .un, .un, .un, .un, .val (nD k), .un, .un], b⟩) rfl rfl (own_books (n := n + 1) hL hk)) (call2b (c := go (n + 4)) (f := 5) (a := .var 1) (e := .var 8) (x := sayT L) (y := nD k) (ρ := ⟨[.val (nD m), .val (sayT L), .un, .un, .un, .un, .un, .un, .val (nD k), .un, .un], b⟩) rfl rfl (own_many (n := n + 1) hL hk))
    have s2 := par_nv (c := go (n + 4)) (i := 4) (j := 5) (a := .lst .nil) (ρ := ⟨[.val (nD m), .val (sayT L), .un, .un, .un, .un, .un, .un, .un, .un, .un], b⟩) (xs := []) rfl k2
    refine (congrArg leave (exs_cons s2)).trans ?_
    obtain ⟨ρ', e3, s2', s6', s7', rfl, o2, o6⟩ := for_idx (c := go (n + 4)) (vs := [2]) (n := m) (g := nD) (w := .rng1 (.var 0)) (body := .cons (.for_ [6, 7] (.of (.var 5)) (.cons (.ite (.and (.op .isin (.var 2) (.var 6)) (.op .lt (.bi .len (.cons (.comp [9] (.of (.pk 4)) (.cons (.op .isin (.var 9) (.var 6)) .nil) (.kint 1)) .nil)) (.var 7))) (.cons (.app 4 (.var 2))
        .nil) .nil)
      .nil)) .nil) (ρ := nE m L .un [] .un .un b) (ρ1 := nE m L .un [] .un .un b) (fun j ρ => ∃ s2 s6 s7, ρ = nE m L s2 (grd (cl L) (oN L) j) s6 s7 b ∧ isOwn s2 = false ∧ isOwn s6 = false) (rng_ok (n := m) (ρ := nE m L .un [] .un .un b) rfl (by omega)) ⟨_, _, _, rfl, rfl, rfl⟩ (by
      rintro j hj ρ ⟨s2, s6, s7, rfl, o2, o6⟩
      obtain ⟨ρ', e, s6', s7', rfl, o6'⟩ := for_idx (c := go (n + 4)) (vs := [6, 7]) (n := L.length) (g := fun k => .tup [rN (own L k), .int (ownN L k)]) (w := .of (.var 5)) (body := .cons (.ite (.and (.op .isin (.var 2) (.var 6)) (.op .lt (.bi .len (.cons (.comp [9] (.of (.pk 4)) (.cons (.op .isin (.var 9) (.var 6)) .nil) (.kint 1)) .nil)) (.var 7))) (.cons (.app 4 (.var 2))
          .nil) .nil)
        .nil) (ρ := nE m L (.val (nD j)) (grd (cl L) (oN L) j) s6 s7 b) (ρ1 := nE m L (.val (nD j)) (grd (cl L) (oN L) j) s6 s7 b) (fun k ρ => ∃ s6 s7, ρ = nE m L (.val (nD j)) ((List.range k).foldl (addR L j) (grd (cl L) (oN L) j)) s6 s7 b ∧ isOwn s6 = false) (of_lst rfl) ⟨_, _, rfl, o6⟩ (by
        rintro k hk ρ ⟨s6, s7, rfl, o6⟩
        have hlen := addR_len (L := L) (j := j) (f := grd (cl L) (oN L) j) k
        have hg := grd_len (L := L) j
        rw [List.range_succ, List.foldl_append]
        generalize (List.range k).foldl (addR L j) (grd (cl L) (oN L) j) = F at hlen ⊢
        have i1 := in_rN (own L k) j
        have c1 : ev (go (n + 4)) (.op .isin (.var 2) (.var 6)) (nE m L (.val (nD j)) F (.val (rN (own L k))) (.val (.int (ownN L k))) b) = some (.v (.bl ((own L k).contains j)), nE m L (.val (nD j)) F (.val (rN (own L k))) (.val (.int (ownN L k))) b) :=
          op_ok (o := .isin) (x := nD j) (y := rN (own L k)) (ρ1 := nE m L (.val (nD j)) F (.val (rN (own L k))) (.val (.int (ownN L k))) b) (ρ2 := nE m L (.val (nD j)) F (.val (rN (own L k))) (.val (.int (ownN L k))) b) rfl rfl (by show (dIn _ _).map D.bl = _; rw [i1]; rfl)
        have k1 := lenL (compIf_live (c := go (n + 4)) (i := 9) (k := 4) (t := .op .isin (.var 9) (.var 6)) (elt := .kint 1) (ρ := nE m L (.val (nD j)) F (.val (rN (own L k))) (.val (.int (ownN L k))) b) (l := F) (g := nD) (f := fun _ => .int 1) (own L k).contains (by decide) rfl (by omega) rfl (fun x _ => in_put (by simp) (by decide) rfl) fun x _ _ => rfl)
        rw [List.length_map] at k1
        have c2 := op_ok (o := .lt) (e := .var 7) (y := .int (ownN L k)) (z := .bl (decide (((F.filter (own L k).contains).length : Int) < ownN L k))) (ρ2 := nE m L (.val (nD j)) F (.val (rN (own L k))) (.val (.int (ownN L k))) b) k1 rfl rfl
        have tt := and_ok c1 fun _ => c2
        refine ⟨nE m L (.val (nD j)) F (.val (rN (own L k))) (.val (.int (ownN L k))) b, nE m L (.val (nD j)) (addR L j F k) (.val (rN (own L k))) (.val (.int (ownN L k))) b, rfl, exs_nx ?_, _, _, rfl, rfl⟩
        unfold addR
        cases qq : ((own L k).contains j && decide (((F.filter (own L k).contains).length : Int) < ownN L k)) with
        | false =>
          rw [qq] at tt
          rw [if_neg Bool.false_ne_true]
          exact ite_no tt
        | true =>
          rw [qq] at tt
          rw [if_pos rfl]
          refine ite_go tt (exs_nx ?_)
          have a := app_ok (c := go (n + 4)) (i := 4) (e := .var 2) (ρ := nE m L (.val (nD j)) F (.val (rN (own L k))) (.val (.int (ownN L k))) b) (ρ' := nE m L (.val (nD j)) F (.val (rN (own L k))) (.val (.int (ownN L k))) b) (d := nD j) (ds := F.map nD) rfl rfl rfl (by rw [List.length_map]; omega)
          refine a.trans ?_
          unfold nE
          rw [List.map_append]; rfl)
      have hadd := addB_ok h q hj
      unfold addB at hadd
      rw [hadd] at e
      exact ⟨_, _, rfl, exs_nx e, _, _, _, rfl, rfl, o6'⟩)
    refine (congrArg leave (exs_cons e3)).trans ?_
    have k4 := comp_if (c := go (n + 4)) (i := 2) (it := .rng1 (.var 0)) (t := .not (.bi .any (.cons (.comp [6, 10] (.of (.var 1)) .nil (.op .isin (.var 2) (.var 6))) .nil))) (elt := .var 2) (ρ := nE m L s2' (grd (cl L) (oN L) m) s6' s7' b) (l := List.range m) (g := nD) (f := nD) (fun x => !inRow L x) (rng_ok (n := m) (ρ := nE m L s2' (grd (cl L) (oN L) m) s6' s7' b) rfl (by omega)) o2 (fun x _ => not_any (inRow_ev (c := go (n + 4)) (i := 6) (j := 10) (k := 1) (l := 2) (x := x) (L := L) (ρ := nE m L (.val (nD x)) (grd (cl L) (oN L) m) s6' s7' b) rfl (by decide) rfl (by decide) (by decide) o6 rfl (by show 6 < 11; decide))) fun x _ _ => rfl
    refine (congrArg leave (exs_cons (asg_ok (i := 3) k4))).trans ?_
    refine (congrArg leave (exs_cons (frz_ok (i := 4) (ds := (grd (cl L) (oN L) m).map nD) rfl))).trans ?_
    have hf := first_with_free (n := n + 3) (F := grd (cl L) (oN L) m) (fr := freeL L m) (G := fst L m) (b := b) (grd_asc _ _ m) (asc_filter _ List.pairwise_lt_range) (fun x hx hf => by
      obtain ⟨k, hk, _⟩ := fb_ex _ _ ((mem_grd _ _).mp hx).2
      have h2 := (List.mem_filter.mp hf).2
      rw [← cl_none, hk] at h2
      cases h2) fst_asc (fun x => by rw [fst_mem h, lstZ_lst1]) (by have := grd_len (L := L) m; omega) (by
      have := List.length_filter_le (fun b => !inRow L b) (List.range m)
      rw [List.length_range] at this
      unfold freeL; omega)
    have c5 := call2b (c := go (n + 4)) (f := 8) (a := .var 4) (e := .var 3) (x := .lst ((grd (cl L) (oN L) m).map nD)) (y := .lst ((freeL L m).map nD)) (ρ := ⟨[.val (nD m), .val (sayT L), s2', .val (.lst ((freeL L m).map nD)), .val (.lst ((grd (cl L) (oN L) m).map nD)), .val (.lst ((List.range L.length).map fun k => .tup [rN (own L k), .int (ownN L k)])), s6', s7', .un, .un, .un], b⟩) rfl rfl hf
    exact (congrArg leave (exs_ret (ret_ok c5))).trans rfl
end K21

end
section
set_option Elab.async false
set_option linter.all false
set_option maxRecDepth 100000
set_option maxHeartbeats 4000000
/-! K21f: count_nested, _law_sets. -/
namespace PV
open PySem L2
theorem opMul (a b : D) : op2 .mul a b = dMul a b := rfl
theorem opFdiv (a b : D) : op2 .fdiv a b = dFdiv a b := rfl
theorem mulO {a b : Nat} (h : b < 1000) : op2 .mul (nD a) (nD b) = some (nD (a * b)) := (opMul _ _).trans (mulN h)
theorem fdivO {a k : Nat} (hk : 1 ≤ k) (hk2 : k ≤ 1000) : op2 .fdiv (nD a) (nD k) = some (nD (a / k)) := (opFdiv _ _).trans (fdivN hk hk2)
end PV
namespace K21
open PySem L2 PV K46 K53
theorem count_nested {n m : Nat} {L : List Say} {b : Bx} (h : NestM L m) (hm : m ≤ 100) (hL : L.length ≤ 1000) : go (n + 5) 9 [nD m, sayT L] b = some (nD (many L m), b) := by
  show runF T drawP (n + 4 + 1) (8 + 1) _ b = _
  rw [go_step (fi := fi_count_nested) rfl rfl]
  show leave (exs (go (n + 4)) b_count_nested ⟨[.val (nD m), .val (sayT L), .un, .un, .un, .un, .un, .un, .un, .un], b⟩) = _
  unfold b_count_nested
  have t1 := ite_retE (e := .kint 0) (d := .int 0) (bad_t (n := n) (i := 1) (ρ := ⟨[.val (nD m), .val (sayT L), .un, .un, .un, .un, .un, .un, .un, .un], b⟩) hL rfl) rfl
  unfold many
  cases q : bad L with
  | some k =>
    rw [q] at t1
    exact (congrArg leave (exs_ret t1)).trans rfl
  | none =>
    rw [q] at t1
    refine (congrArg leave (exs_cons t1)).trans ?_
    have s2 := asg_ok (c := go (n + 4)) (i := 2) (e := .kint 1) (d := .int 1) (ρ := ⟨[.val (nD m), .val (sayT L), .un, .un, .un, .un, .un, .un, .un, .un], b⟩) (ρ' := ⟨[.val (nD m), .val (sayT L), .un, .un, .un, .un, .un, .un, .un, .un], b⟩) rfl
    refine (congrArg leave (exs_cons s2)).trans ?_
    have hlen := lenT (c := go (n + 4)) (cc := .var 1) (ρ := ⟨[.val (nD m), .val (sayT L), .val (nD 1), .un, .un, .un, .un, .un, .un, .un], b⟩) (xs := L.map sayD) rfl
    rw [List.length_map] at hlen
    obtain ⟨ρ', e3, s3, s5, s6, s7, rfl⟩ := for_idx (c := go (n + 4)) (vs := [3]) (n := L.length) (g := nD) (w := .rng1 (.bi .len (.cons (.var 1) .nil))) (body := .cons (.par 6 false (.call 5 (.cons (.var 1) (.cons (.var 3) .nil))) 7 false (.bi .len (.cons (.call 4 (.cons (.var 1) (.cons (.var 3) .nil))) .nil)))
    (.cons (.for_ [5] (.rng1 (.var 6)) (.cons (.asg 2 (.op .mul (.var 2) (.op .sub (.var 7) (.var 5))))
      .nil))
    (.cons (.for_ [5] (.rng1 (.var 6)) (.cons (.asg 2 (.op .fdiv (.var 2) (.op .add (.var 5) (.kint 1))))
      .nil))
    .nil))) (ρ := ⟨[.val (nD m), .val (sayT L), .val (nD 1), .un, .un, .un, .un, .un, .un, .un], b⟩) (ρ1 := ⟨[.val (nD m), .val (sayT L), .val (nD 1), .un, .un, .un, .un, .un, .un, .un], b⟩)
      (fun k ρ => ∃ s3 s5 s6 s7, ρ = ⟨[.val (nD m), .val (sayT L), .val (nD (prd (fun k => cho (own L k).length (oN L k)) k)), s3, .un, s5, s6, s7, .un, .un], b⟩) (rng_ok hlen (by omega)) ⟨_, _, _, _, rfl⟩ (by
      rintro k hk ρ ⟨s3, s5, s6, s7, rfl⟩
      rw [prd]
      generalize prd (fun k => cho (own L k).length (oN L k)) k = z
      have hb := bad_none q hk
      have ho : ownN L k = ((oN L k : Nat) : Int) := by unfold oN; omega
      have hol : (own L k).length ≤ 100 := Nat.le_trans (PV.asc_len ((PV.asc_pair _).mpr (own_asc h hk)) (own_low h hk)) hm
      have hle : oN L k ≤ (own L k).length := by omega
      have c1 := own_many (n := n + 1) (b := b) hL hk
      rw [ho] at c1
      have c2 := own_books (n := n + 1) (b := b) hL hk
      have e1 := call2b (c := go (n + 4)) (f := 5) (a := .var 1) (e := .var 3) (x := sayT L) (y := nD k) (ρ := ⟨[.val (nD m), .val (sayT L), .val (nD z), .val (nD k), .un, s5, s6, s7, .un, .un], b⟩) rfl rfl c1
      have e2 := lenT (call2b (c := go (n + 4)) (f := 4) (a := .var 1) (e := .var 3) (x := sayT L) (y := nD k) (ρ := ⟨[.val (nD m), .val (sayT L), .val (nD z), .val (nD k), .un, s5, s6, s7, .un, .un], b⟩) rfl rfl c2)
      rw [List.length_map] at e2
      have p1 := par_vv (i := 6) (j := 7) e1 e2
      have rs := room_steps z (own L k).length (oN L k)
      generalize hN : (own L k).length = N at *
      generalize hO : oN L k = O at *
      obtain ⟨ρ', f1, s5', rfl⟩ := for_idx (c := go (n + 4)) (vs := [5]) (n := O) (g := nD) (w := .rng1 (.var 6)) (body := .cons (.asg 2 (.op .mul (.var 2) (.op .sub (.var 7) (.var 5)))) .nil) (ρ := ⟨[.val (nD m), .val (sayT L), .val (nD z), .val (nD k), .un, s5, .val (nD O), .val (nD N), .un, .un], b⟩) (ρ1 := ⟨[.val (nD m), .val (sayT L), .val (nD z), .val (nD k), .un, s5, .val (nD O), .val (nD N), .un, .un], b⟩)
        (fun i ρ => ∃ s5, ρ = ⟨[.val (nD m), .val (sayT L), .val (nD ((List.range i).foldl (fun f i => f * (N - i)) z)), .val (nD k), .un, s5, .val (nD O), .val (nD N), .un, .un], b⟩) (rng_ok (n := O) (ρ := ⟨[.val (nD m), .val (sayT L), .val (nD z), .val (nD k), .un, s5, .val (nD O), .val (nD N), .un, .un], b⟩) rfl (by omega)) ⟨_, rfl⟩ (by
        rintro i hi ρ ⟨s5, rfl⟩
        rw [List.range_succ, List.foldl_append]
        generalize (List.range i).foldl (fun f i => f * (N - i)) z = y
        have a1 := op_ok (c := go (n + 4)) (o := .sub) (a := .var 7) (e := .var 5) (x := nD N) (y := nD i) (ρ := ⟨[.val (nD m), .val (sayT L), .val (nD y), .val (nD k), .un, .val (nD i), .val (nD O), .val (nD N), .un, .un], b⟩) (ρ1 := ⟨[.val (nD m), .val (sayT L), .val (nD y), .val (nD k), .un, .val (nD i), .val (nD O), .val (nD N), .un, .un], b⟩) rfl rfl (subN (by omega))
        have a2 := op_ok (c := go (n + 4)) (o := .mul) (a := .var 2) (x := nD y) (ρ := ⟨[.val (nD m), .val (sayT L), .val (nD y), .val (nD k), .un, .val (nD i), .val (nD O), .val (nD N), .un, .un], b⟩) rfl a1 (mulO (by omega))
        exact ⟨_, _, rfl, exs_nx (asg_ok (i := 2) a2), _, rfl⟩)
      obtain ⟨ρ', f2, s5'', rfl⟩ := for_idx (c := go (n + 4)) (vs := [5]) (n := O) (g := nD) (w := .rng1 (.var 6)) (body := .cons (.asg 2 (.op .fdiv (.var 2) (.op .add (.var 5) (.kint 1)))) .nil) (ρ := ⟨[.val (nD m), .val (sayT L), .val (nD ((List.range O).foldl (fun f i => f * (N - i)) z)), .val (nD k), .un, s5', .val (nD O), .val (nD N), .un, .un], b⟩) (ρ1 := ⟨[.val (nD m), .val (sayT L), .val (nD ((List.range O).foldl (fun f i => f * (N - i)) z)), .val (nD k), .un, s5', .val (nD O), .val (nD N), .un, .un], b⟩)
        (fun i ρ => ∃ s5, ρ = ⟨[.val (nD m), .val (sayT L), .val (nD ((List.range i).foldl (fun f i => f / (i + 1)) ((List.range O).foldl (fun f i => f * (N - i)) z))), .val (nD k), .un, s5, .val (nD O), .val (nD N), .un, .un], b⟩) (rng_ok (n := O) (ρ := ⟨[.val (nD m), .val (sayT L), .val (nD ((List.range O).foldl (fun f i => f * (N - i)) z)), .val (nD k), .un, s5', .val (nD O), .val (nD N), .un, .un], b⟩) rfl (by omega)) ⟨_, rfl⟩ (by
        rintro i hi ρ ⟨s5, rfl⟩
        rw [List.range_succ, List.foldl_append]
        generalize (List.range i).foldl (fun f i => f / (i + 1)) ((List.range O).foldl (fun f i => f * (N - i)) z) = y
        have a1 := op_ok (c := go (n + 4)) (o := .add) (a := .var 5) (e := .kint 1) (x := nD i) (y := nD 1) (z := nD (i + 1)) (ρ := ⟨[.val (nD m), .val (sayT L), .val (nD y), .val (nD k), .un, .val (nD i), .val (nD O), .val (nD N), .un, .un], b⟩) (ρ1 := ⟨[.val (nD m), .val (sayT L), .val (nD y), .val (nD k), .un, .val (nD i), .val (nD O), .val (nD N), .un, .un], b⟩) rfl rfl (addN i 1)
        have a2 := op_ok (c := go (n + 4)) (o := .fdiv) (a := .var 2) (x := nD y) (ρ := ⟨[.val (nD m), .val (sayT L), .val (nD y), .val (nD k), .un, .val (nD i), .val (nD O), .val (nD N), .un, .un], b⟩) rfl a1 (fdivO (by omega) (by omega))
        exact ⟨_, _, rfl, exs_nx (asg_ok (i := 2) a2), _, rfl⟩)
      rw [rs] at f2
      exact ⟨_, _, rfl, (exs_cons p1).trans ((exs_cons f1).trans (exs_nx f2)), _, _, _, _, rfl⟩)
    refine (congrArg leave (exs_cons e3)).trans ?_
    generalize prd (fun k => cho (own L k).length (oN L k)) L.length = z
    obtain ⟨ρ', e4, s4, rfl⟩ := for_idx (c := go (n + 4)) (vs := [4]) (n := m) (g := nD) (w := .rng1 (.var 0)) (body := .cons (.asg 2 (.op .mul (.var 2) (.ite (.bi .any (.cons (.comp [8, 9] (.of (.var 1)) .nil (.op .isin (.var 4) (.var 8))) .nil)) (.kint 1) (.kint 2)))) .nil) (ρ := ⟨[.val (nD m), .val (sayT L), .val (nD z), s3, .un, s5, s6, s7, .un, .un], b⟩) (ρ1 := ⟨[.val (nD m), .val (sayT L), .val (nD z), s3, .un, s5, s6, s7, .un, .un], b⟩)
      (fun j ρ => ∃ s4, ρ = ⟨[.val (nD m), .val (sayT L), .val (nD ((List.range j).foldl (fun a b => a * if inRow L b then 1 else 2) z)), s3, s4, s5, s6, s7, .un, .un], b⟩) (rng_ok (n := m) (ρ := ⟨[.val (nD m), .val (sayT L), .val (nD z), s3, .un, s5, s6, s7, .un, .un], b⟩) rfl (by omega)) ⟨_, rfl⟩ (by
      rintro j hj ρ ⟨s4, rfl⟩
      rw [List.range_succ, List.foldl_append]
      generalize (List.range j).foldl (fun a b => a * if inRow L b then 1 else 2) z = y
      have a0 := inRow_ev (c := go (n + 4)) (i := 8) (j := 9) (k := 1) (l := 4) (x := j) (L := L) (ρ := ⟨[.val (nD m), .val (sayT L), .val (nD y), s3, .val (nD j), s5, s6, s7, .un, .un], b⟩) rfl (by decide) rfl (by decide) (by decide) rfl rfl (by show 8 < 10; decide)
      have a1 : ev (go (n + 4)) (.ite (.bi .any (.cons (.comp [8, 9] (.of (.var 1)) .nil (.op .isin (.var 4) (.var 8))) .nil)) (.kint 1) (.kint 2)) ⟨[.val (nD m), .val (sayT L), .val (nD y), s3, .val (nD j), s5, s6, s7, .un, .un], b⟩ = some (.v (nD (if inRow L j then 1 else 2)), ⟨[.val (nD m), .val (sayT L), .val (nD y), s3, .val (nD j), s5, s6, s7, .un, .un], b⟩) := by
        cases qq : inRow L j with
        | true => rw [qq] at a0; exact ite_l a0 rfl
        | false => rw [qq] at a0; exact ite_r a0 rfl
      have a2 := op_ok (c := go (n + 4)) (o := .mul) (a := .var 2) (x := nD y) (ρ := ⟨[.val (nD m), .val (sayT L), .val (nD y), s3, .val (nD j), s5, s6, s7, .un, .un], b⟩) rfl a1 (mulO (by split <;> omega))
      exact ⟨_, _, rfl, exs_nx (asg_ok (i := 2) a2), _, rfl⟩)
    refine (congrArg leave (exs_cons e4)).trans ?_
    rw [free_steps]
    exact (congrArg leave (exs_ret (ret_ok rfl))).trans rfl
theorem law_sets {n w : Nat} {b : Bx} (hw : w ≤ 10) : go (n + 1) 16 [nD w] b = some (rD (sortR (subs0 w)), b) := by
  show runF T drawP (n + 1) (15 + 1) _ b = _
  rw [go_step (fi := fi__law_sets) rfl rfl]
  show leave (exs (go n) b__law_sets ⟨[.val (nD w), .un, .un, .un], b⟩) = _
  unfold b__law_sets
  have s1 : exS (go n) (.asg 1 (.lst (.cons (.tup .nil) .nil))) ⟨[.val (nD w), .un, .un, .un], b⟩ = some (.next, ⟨[.val (nD w), .val (rD (subs0 0)), .un, .un], b⟩) := asg_ok (ρ' := ⟨[.val (nD w), .un, .un, .un], b⟩) (d := rD (subs0 0)) (by simp (config := { implicitDefEqProofs := false }) only [entry, exs, exS, ev, evs, evO, evIfs, evIt, evT, tstR_some', tru, at_v, at_p, val_v, atL, valL, get_mk, put_mk, ob_some, ob_none, isTy, op2, dIs, leave, bfn, seqOf_lst, seqOf_tup, srcOf_lst, srcOf_tup, setTg1, setTg2, setTg3, and_self, and_true, true_and, newPut, isOwn, List.map_cons, List.map_nil, List.length_cons, List.length_nil, List.cons_append, List.nil_append, List.getD_cons_zero, List.getD_cons_succ, List.set_cons_zero, List.set_cons_succ, List.replicate_succ, List.replicate_zero, Nat.reduceSub, Nat.reduceAdd, Option.map_some, Option.map_none, Option.some_or, beq_self_eq_true, Bool.true_eq_false, Bool.false_eq_true, Bool.not_true, Bool.not_false, Bool.not_eq_true', if_true, if_false, valL]; rfl)
  refine (congrArg leave (exs_cons s1)).trans ?_
  have key : ∀ j, j < w → ∀ s2 : PV.Slot, exs (go n) (.cons (.asg 1 (.op .add (.var 1) (.comp [3] (.of (.var 1)) .nil (.op .add (.var 3) (.tup (.cons (.var 2) .nil)))))) .nil) ⟨[.val (nD w), .val (rD (subs0 j)), .val (nD j), .un], b⟩ = some (.next, ⟨[.val (nD w), .val (rD (subs0 (j + 1))), .val (nD j), .un], b⟩) := by
    intro j hj s2
    have key := comp_of (c := go n) (i := 3) (it := .of (.var 1)) (elt := .op .add (.var 3) (.tup (.cons (.var 2) .nil))) (ρ := ⟨[.val (nD w), .val (rD (subs0 j)), .val (nD j), .un], b⟩) (l := subs0 j) (g := rN) (f := fun r => rN (r ++ [j])) (of_lst rfl) rfl fun r hr => by
      have hr2 : r.length ≤ j := PV.asc_len ((PV.asc_pair r).mpr ((mem_subs0 j r).mp hr).1) ((mem_subs0 j r).mp hr).2
      exact op_ok (o := .add) (x := rN r) (y := rN [j]) (ρ1 := ⟨[.val (nD w), .val (rD (subs0 j)), .val (nD j), .val (rN r)], b⟩) (ρ2 := ⟨[.val (nD w), .val (rD (subs0 j)), .val (nD j), .val (rN r)], b⟩) rfl rfl (add_rN (by show _ + 1 ≤ _; omega))
    have hl := subs0_len j
    have h2 : 2 ^ j ≤ 2 ^ 10 := Nat.pow_le_pow_right (by decide) (by omega)
    have h3 : (2 : Nat) ^ 10 = 1024 := by decide
    have ad := add_vals (c := go n) (a := .var 1) (xs := (subs0 j).map rN) (ρ := ⟨[.val (nD w), .val (rD (subs0 j)), .val (nD j), .un], b⟩) rfl key (by rw [List.length_map, List.length_map]; omega)
    have e : (subs0 j).map rN ++ (subs0 j).map (fun r => rN (r ++ [j])) = (subs0 (j + 1)).map rN := by
      rw [subs0_succ, List.map_append, List.map_map]; rfl
    rw [e] at ad
    exact exs_nx (asg_ok ad)
  obtain ⟨ρ', e2, s2, rfl⟩ := for_idx (c := go n) (vs := [2]) (n := w) (g := nD) (w := .rng1 (.var 0)) (body := .cons (.asg 1 (.op .add (.var 1) (.comp [3] (.of (.var 1)) .nil (.op .add (.var 3) (.tup (.cons (.var 2) .nil)))))) .nil) (ρ := ⟨[.val (nD w), .val (rD (subs0 0)), .un, .un], b⟩) (ρ1 := ⟨[.val (nD w), .val (rD (subs0 0)), .un, .un], b⟩) (fun j ρ => ∃ s2, ρ = ⟨[.val (nD w), .val (rD (subs0 j)), s2, .un], b⟩) (rng_ok (n := w) (ρ := ⟨[.val (nD w), .val (rD (subs0 0)), .un, .un], b⟩) rfl (by omega)) ⟨_, rfl⟩ (by
    rintro j hj ρ ⟨s2, rfl⟩
    exact ⟨_, _, rfl, key j hj s2, _, rfl⟩)
  refine (congrArg leave (exs_cons e2)).trans ?_
  have hs := sort_ok (subs0 w)
  have e3 : ev (go n) (.bi .sorted (.cons (.var 1) .nil)) ⟨[.val (nD w), .val (rD (subs0 w)), s2, .un], b⟩ = some (.v (rD (sortR (subs0 w))), ⟨[.val (nD w), .val (rD (subs0 w)), s2, .un], b⟩) := by
    have h0 : ev (go n) (.var 1) ⟨[.val (nD w), .val (rD (subs0 w)), s2, .un], b⟩ = some (.v (.lst ((subs0 w).map rN)), ⟨[.val (nD w), .val (rD (subs0 w)), s2, .un], b⟩) := rfl
    generalize E.var 1 = x at h0 ⊢
    simp (config := { implicitDefEqProofs := false }) only [entry, exs, exS, ev, evs, evO, evIfs, evIt, evT, tstR_some', tru, at_v, at_p, val_v, atL, valL, get_mk, put_mk, ob_some, ob_none, isTy, op2, dIs, leave, bfn, seqOf_lst, seqOf_tup, srcOf_lst, srcOf_tup, setTg1, setTg2, setTg3, and_self, and_true, true_and, newPut, isOwn, List.map_cons, List.map_nil, List.length_cons, List.length_nil, List.cons_append, List.nil_append, List.getD_cons_zero, List.getD_cons_succ, List.set_cons_zero, List.set_cons_succ, List.replicate_succ, List.replicate_zero, Nat.reduceSub, Nat.reduceAdd, Option.map_some, Option.map_none, Option.some_or, beq_self_eq_true, Bool.true_eq_false, Bool.false_eq_true, Bool.not_true, Bool.not_false, Bool.not_eq_true', if_true, if_false, h0, hs]
  exact (congrArg leave (exs_ret (ret_ok e3))).trans rfl
end K21

end
section
set_option Elab.async false
set_option linter.all false
set_option maxRecDepth 100000
set_option maxHeartbeats 4000000
/-! K21g: drawn nested sayings. -/
namespace PV
open PySem L2
theorem draw_ev {c : Call} {i n : Nat} {e : E} {ρ : Env} (hd : Draws c) (hi : ρ.get i = .val .box) (he : ev c e ρ = some (.v (nD n), ρ)) (hb : ρ.bx.ok) (h0 : 0 < n) (h1 : n < 1000000) : ∃ k b', ev c (.call 0 (.cons (.var i) (.cons e .nil))) ρ = some (.v (nD k), { ρ with bx := b' }) ∧ k < n ∧ b'.ok := by
  obtain ⟨k, b', e1, hk, hb'⟩ := hd ρ.bx n hb h0 h1
  exact ⟨k, b', call2 (x := .box) (y := nD n) (ρ1 := ρ) (ρ2 := ρ) (by simp only [ev, hi]) he e1, hk, hb'⟩
theorem rngT_ok {c : Call} {e : E} {ρ : Env} {n : Nat} (h : ev c e ρ = some (.v (nD n), ρ)) (hn : n ≤ 1000000) : ev c (.rngl true (.kint 0) e) ρ = some (.v (rN (List.range n)), ρ) := by
  have h1 := small_nat hn
  have h2 := rngL_nat n
  simp (config := { implicitDefEqProofs := false }) only [entry, exs, exS, ev, evs, evO, evIfs, evIt, evT, tstR_some', tru, at_v, at_p, val_v, atL, valL, get_mk, put_mk, ob_some, ob_none, isTy, op2, dIs, leave, bfn, seqOf_lst, seqOf_tup, srcOf_lst, srcOf_tup, setTg1, setTg2, setTg3, and_self, and_true, true_and, newPut, isOwn, List.map_cons, List.map_nil, List.length_cons, List.length_nil, List.cons_append, List.nil_append, List.getD_cons_zero, List.getD_cons_succ, List.set_cons_zero, List.set_cons_succ, List.replicate_succ, List.replicate_zero, Nat.reduceSub, Nat.reduceAdd, Option.map_some, Option.map_none, Option.some_or, beq_self_eq_true, Bool.true_eq_false, Bool.false_eq_true, Bool.not_true, Bool.not_false, Bool.not_eq_true', if_true, if_false, h, h1, h2]
theorem gtN (a b : Nat) : op2 .gt (nD a) (nD b) = some (.bl (decide (b < a))) := by
  show some (D.bl (decide ((b : Int) < (a : Int)))) = _
  rw [lt_nat]
theorem eqN (a b : Nat) : op2 .eq (nD a) (nD b) = some (.bl (a == b)) := by
  show (dEq (nD a) (nD b)).map D.bl = _
  rw [eq_nats]; rfl
theorem sl_lo {c : Call} {a e : E} {ρ : Env} {r : List Nat} {k : Nat} (h : ev c a ρ = some (.v (rN r), ρ)) (he : ev c e ρ = some (.v (nD k), ρ)) : ev c (.sl a (.cons e .nil) .nil) ρ = some (.v (rN (r.drop k)), ρ) := by
  have e1 := slc_drop r k
  have e2 : dSl (rN r) (some (k : Int)) none = some (rN (r.drop k)) := by rw [sl_rN, e1]
  generalize rN r = d at h e2
  simp (config := { implicitDefEqProofs := false }) only [entry, exs, exS, ev, evs, evO, evIfs, evIt, evT, tstR_some', tru, at_v, at_p, val_v, atL, valL, get_mk, put_mk, ob_some, ob_none, isTy, op2, dIs, leave, bfn, seqOf_lst, seqOf_tup, srcOf_lst, srcOf_tup, setTg1, setTg2, setTg3, and_self, and_true, true_and, newPut, isOwn, List.map_cons, List.map_nil, List.length_cons, List.length_nil, List.cons_append, List.nil_append, List.getD_cons_zero, List.getD_cons_succ, List.set_cons_zero, List.set_cons_succ, List.replicate_succ, List.replicate_zero, Nat.reduceSub, Nat.reduceAdd, Option.map_some, Option.map_none, Option.some_or, beq_self_eq_true, Bool.true_eq_false, Bool.false_eq_true, Bool.not_true, Bool.not_false, Bool.not_eq_true', if_true, if_false, h, he, e2]
theorem slc_take {α : Type} (l : List α) (k : Nat) : slc l none (some (k : Int)) = l.take k := by
  unfold slc
  have e : HT.sIx l.length l.length (some (k : Int)) = min k l.length := by
    show (if (k : Int) < 0 then ((k : Int) + (l.length : Int)).toNat else min (k : Int).toNat l.length) = _
    rw [if_neg (by omega), Int.toNat_natCast]
  have e0 : HT.sIx l.length 0 none = 0 := rfl
  rw [e, e0, List.drop_zero, Nat.sub_zero]
  rcases Nat.le_total k l.length with q | q
  · rw [Nat.min_eq_left q]
  · rw [Nat.min_eq_right q, List.take_length, List.take_of_length_le q]
theorem sl_hi {c : Call} {a e : E} {ρ : Env} {r : List Nat} {k : Nat} (h : ev c a ρ = some (.v (rN r), ρ)) (he : ev c e ρ = some (.v (nD k), ρ)) : ev c (.sl a .nil (.cons e .nil)) ρ = some (.v (rN (r.take k)), ρ) := by
  have e1 := slc_take r k
  have e2 : dSl (rN r) none (some (k : Int)) = some (rN (r.take k)) := by rw [sl_rN, e1]
  generalize rN r = d at h e2
  simp (config := { implicitDefEqProofs := false }) only [entry, exs, exS, ev, evs, evO, evIfs, evIt, evT, tstR_some', tru, at_v, at_p, val_v, atL, valL, get_mk, put_mk, ob_some, ob_none, isTy, op2, dIs, leave, bfn, seqOf_lst, seqOf_tup, srcOf_lst, srcOf_tup, setTg1, setTg2, setTg3, and_self, and_true, true_and, newPut, isOwn, List.map_cons, List.map_nil, List.length_cons, List.length_nil, List.cons_append, List.nil_append, List.getD_cons_zero, List.getD_cons_succ, List.set_cons_zero, List.set_cons_succ, List.replicate_succ, List.replicate_zero, Nat.reduceSub, Nat.reduceAdd, Option.map_some, Option.map_none, Option.some_or, beq_self_eq_true, Bool.true_eq_false, Bool.false_eq_true, Bool.not_true, Bool.not_false, Bool.not_eq_true', if_true, if_false, h, he, e2]
end PV
namespace K21
open PySem L2 PV K46 K53
def prtB (row r : List Nat) : Bool := !r.isEmpty && !decide (r = row)
structure RowOk (m : Nat) (r : List Nat) : Prop where
  ne : r ≠ []
  asc : Asc r
  low : ∀ x ∈ r, x < m
theorem rowOk_sub {m : Nat} {r s : List Nat} (h : RowOk m r) (hs : s.Sublist r) (hn : s ≠ []) : RowOk m s := ⟨hn, h.asc.sublist hs, fun x hx => h.low x (hs.subset hx)⟩
abbrev wE (m : Nat) (s2 : PV.Slot) (R : List (List Nat)) (F : List Say) (s5 s6 s7 : PV.Slot) (b : Bx) : PV.Env := ⟨[.val .box, .val (nD m), s2, .val (rD R), .own (F.map sayD), s5, s6, s7, .un], b⟩
abbrev wb : Ss := .cons (.asg 5 (.ix (.var 3) (.var 2)))
      (.cons (.ite (.op .gt (.call 0 (.cons (.var 0) (.cons (.kint 3) .nil))) (.kint 0)) (.cons (.app 4 (.tup (.cons (.var 5) (.cons (.call 0 (.cons (.var 0) (.cons (.op .add (.bi .len (.cons (.var 5) .nil)) (.kint 1)) .nil))) .nil))))
        .nil) .nil)
      (.cons (.asg 6 (.call 0 (.cons (.var 0) (.cons (.op .add (.bi .len (.cons (.var 5) .nil)) (.kint 1)) .nil))))
      (.cons (.asg 7 (.op .add (.var 6) (.ite (.op .eq (.call 0 (.cons (.var 0) (.cons (.kint 4) .nil))) (.kint 0)) (.kint 1) (.kint 0))))
      (.cons (.asg 3 (.op .add (.var 3) (.comp [8] (.of (.tup (.cons (.sl (.var 5) .nil (.cons (.var 6) .nil)) (.cons (.sl (.var 5) (.cons (.var 7) .nil) .nil) .nil)))) (.cons (.and (.op .ne (.var 8) (.tup .nil)) (.op .ne (.var 8) (.var 5))) .nil) (.var 8))))
      .nil))))
theorem nests_body {n m j : Nat} {R : List (List Nat)} {F : List Say} {s5 s6 s7 : PV.Slot} {b : Bx} (hm : m ≤ 100) (hR : ∀ r ∈ R, RowOk m r) (hRl : R.length ≤ 100) (hF : ∀ p ∈ F, Ok m p) (hFl : F.length ≤ 100) (hj : j < R.length) (hb : b.ok) :
    ∃ R' F' s5' s6' s7' b', exs (go (n + 3)) wb (wE m (.val (nD j)) R F s5 s6 s7 b) = some (.next, wE m (.val (nD j)) R' F' s5' s6' s7' b') ∧ (∀ r ∈ R', RowOk m r) ∧ R'.length ≤ R.length + 2 ∧ (∀ p ∈ F', Ok m p) ∧ F'.length ≤ F.length + 1 ∧ b'.ok := by
  have hd : Draws (go (n + 3)) := draws_run (n := n + 2) (by omega)
  have hrow := hR _ (getD_mem hj)
  have s1 := asg_ok (i := 5) (ixRow (c := go (n + 3)) (i := 3) (j := 2) (k := j) (R := R) (ρ := wE m (.val (nD j)) R F s5 s6 s7 b) rfl rfl hj)
  generalize R.getD j [] = r at hrow s1
  have hrl : r.length ≤ m := PV.asc_len ((PV.asc_pair _).mpr hrow.asc) hrow.low
  have hlen : ∀ (F : List Say) (s6 s7 : PV.Slot) (b : Bx), ev (go (n + 3)) (.op .add (.bi .len (.cons (.var 5) .nil)) (.kint 1)) (wE m (.val (nD j)) R F (.val (rN r)) s6 s7 b) = some (.v (nD (r.length + 1)), wE m (.val (nD j)) R F (.val (rN r)) s6 s7 b) := fun F s6 s7 b => by
    have l := lenT (c := go (n + 3)) (cc := .var 5) (ρ := wE m (.val (nD j)) R F (.val (rN r)) s6 s7 b) (xs := r.map nD) rfl
    rw [List.length_map] at l
    exact op_ok (o := .add) (y := nD 1) l rfl (addN r.length 1)
  -- a saying, or none
  have st2 : ∃ F' b', exS (go (n + 3)) (.ite (.op .gt (.call 0 (.cons (.var 0) (.cons (.kint 3) .nil))) (.kint 0)) (.cons (.app 4 (.tup (.cons (.var 5) (.cons (.call 0 (.cons (.var 0) (.cons (.op .add (.bi .len (.cons (.var 5) .nil)) (.kint 1)) .nil))) .nil))))
        .nil) .nil) (wE m (.val (nD j)) R F (.val (rN r)) s6 s7 b) = some (.next, wE m (.val (nD j)) R F' (.val (rN r)) s6 s7 b') ∧ (∀ p ∈ F', Ok m p) ∧ F'.length ≤ F.length + 1 ∧ b'.ok := by
    obtain ⟨k, b1, e1, hk, hb1⟩ := draw_ev (i := 0) (n := 3) (e := .kint 3) (ρ := wE m (.val (nD j)) R F (.val (rN r)) s6 s7 b) hd rfl rfl hb (by decide) (by decide)
    have t := op_ok (o := .gt) (e := .kint 0) (y := nD 0) e1 rfl (gtN k 0)
    cases q : decide (0 < k) with
    | false =>
      rw [q] at t
      exact ⟨F, b1, ite_no t, hF, Nat.le_succ _, hb1⟩
    | true =>
      rw [q] at t
      obtain ⟨v, b2, e2, hv, hb2⟩ := draw_ev (i := 0) (ρ := wE m (.val (nD j)) R F (.val (rN r)) s6 s7 b1) hd rfl (hlen F s6 s7 b1) hb1 (by omega) (by omega)
      refine ⟨F ++ [(r, v)], b2, ite_go t (exs_nx ?_), fun p hp => ?_, by simp, hb2⟩
      · have a := app_ok (c := go (n + 3)) (i := 4) (ρ := wE m (.val (nD j)) R F (.val (rN r)) s6 s7 b1) (ρ' := wE m (.val (nD j)) R F (.val (rN r)) s6 s7 b2) (d := sayD (r, v)) (ds := F.map sayD) rfl (tup2 (a := .var 5) (x := rN r) (ρ1 := wE m (.val (nD j)) R F (.val (rN r)) s6 s7 b1) rfl e2) rfl (by rw [List.length_map]; omega)
        refine a.trans ?_
        unfold wE
        rw [List.map_append]; rfl
      · rcases List.mem_append.mp hp with hp | hp
        · exact hF p hp
        · rw [List.mem_singleton] at hp
          subst hp
          exact ⟨hrow.ne, hrow.asc, hrow.low, Nat.le_of_lt_succ hv⟩
  obtain ⟨F', b1, e2, hF', hFl', hb1⟩ := st2
  obtain ⟨cut, b2, e3, hcut, hb2⟩ := draw_ev (i := 0) (ρ := wE m (.val (nD j)) R F' (.val (rN r)) s6 s7 b1) hd rfl (hlen F' s6 s7 b1) hb1 (by omega) (by omega)
  obtain ⟨g, b3, e4, hg, hb3⟩ := draw_ev (i := 0) (n := 4) (e := .kint 4) (ρ := wE m (.val (nD j)) R F' (.val (rN r)) (.val (nD cut)) s7 b2) hd rfl rfl hb2 (by decide) (by decide)
  have e5 : ∃ gap, ev (go (n + 3)) (.op .add (.var 6) (.ite (.op .eq (.call 0 (.cons (.var 0) (.cons (.kint 4) .nil))) (.kint 0)) (.kint 1) (.kint 0))) (wE m (.val (nD j)) R F' (.val (rN r)) (.val (nD cut)) s7 b2) = some (.v (nD gap), wE m (.val (nD j)) R F' (.val (rN r)) (.val (nD cut)) s7 b3) := by
    have t := op_ok (o := .eq) (e := .kint 0) (y := nD 0) e4 rfl (eqN g 0)
    cases q : g == 0 with
    | false =>
      rw [q] at t
      exact ⟨cut + 0, op_ok (o := .add) (x := nD cut) (y := nD 0) (ρ1 := wE m (.val (nD j)) R F' (.val (rN r)) (.val (nD cut)) s7 b2) rfl (ite_r t rfl) (addN cut 0)⟩
    | true =>
      rw [q] at t
      exact ⟨cut + 1, op_ok (o := .add) (x := nD cut) (y := nD 1) (ρ1 := wE m (.val (nD j)) R F' (.val (rN r)) (.val (nD cut)) s7 b2) rfl (ite_l t rfl) (addN cut 1)⟩
  obtain ⟨gap, e5⟩ := e5
  have p1 := sl_hi (c := go (n + 3)) (a := .var 5) (e := .var 6) (r := r) (k := cut) (ρ := wE m (.val (nD j)) R F' (.val (rN r)) (.val (nD cut)) (.val (nD gap)) b3) rfl rfl
  have p2 := sl_lo (c := go (n + 3)) (a := .var 5) (e := .var 7) (r := r) (k := gap) (ρ := wE m (.val (nD j)) R F' (.val (rN r)) (.val (nD cut)) (.val (nD gap)) b3) rfl rfl
  have k6 := comp_if (c := go (n + 3)) (i := 8) (t := .and (.op .ne (.var 8) (.tup .nil)) (.op .ne (.var 8) (.var 5))) (elt := .var 8) (ρ := wE m (.val (nD j)) R F' (.val (rN r)) (.val (nD cut)) (.val (nD gap)) b3) (l := [r.take cut, r.drop gap]) (g := rN) (f := rN) (prtB r) (of_tup (tup2 p1 p2)) rfl (fun s _ => by
    have t1 := op_ok (c := go (n + 3)) (o := .ne) (a := .var 8) (e := .tup .nil) (x := rN s) (y := .tup []) (z := .bl (!s.isEmpty)) (ρ := ⟨[.val .box, .val (nD m), .val (nD j), .val (rD R), .own (F'.map sayD), .val (rN r), .val (nD cut), .val (nD gap), .val (rN s)], b3⟩) (ρ1 := ⟨[.val .box, .val (nD m), .val (nD j), .val (rD R), .own (F'.map sayD), .val (rN r), .val (nD cut), .val (nD gap), .val (rN s)], b3⟩) (ρ2 := ⟨[.val .box, .val (nD m), .val (nD j), .val (rD R), .own (F'.map sayD), .val (rN r), .val (nD cut), .val (nD gap), .val (rN s)], b3⟩) rfl (by simp (config := { implicitDefEqProofs := false }) only [entry, exs, exS, ev, evs, evO, evIfs, evIt, evT, tstR_some', tru, at_v, at_p, val_v, atL, valL, get_mk, put_mk, ob_some, ob_none, isTy, op2, dIs, leave, bfn, seqOf_lst, seqOf_tup, srcOf_lst, srcOf_tup, setTg1, setTg2, setTg3, and_self, and_true, true_and, newPut, isOwn, List.map_cons, List.map_nil, List.length_cons, List.length_nil, List.cons_append, List.nil_append, List.getD_cons_zero, List.getD_cons_succ, List.set_cons_zero, List.set_cons_succ, List.replicate_succ, List.replicate_zero, Nat.reduceSub, Nat.reduceAdd, Option.map_some, Option.map_none, Option.some_or, beq_self_eq_true, Bool.true_eq_false, Bool.false_eq_true, Bool.not_true, Bool.not_false, Bool.not_eq_true', if_true, if_false, valL]) (by show (dEq _ _).map (fun r => D.bl !r) = _; rw [eq_nil]; rfl)
    have t2 := op_ok (c := go (n + 3)) (o := .ne) (a := .var 8) (e := .var 5) (x := rN s) (y := rN r) (z := .bl (!decide (s = r))) (ρ := ⟨[.val .box, .val (nD m), .val (nD j), .val (rD R), .own (F'.map sayD), .val (rN r), .val (nD cut), .val (nD gap), .val (rN s)], b3⟩) (ρ1 := ⟨[.val .box, .val (nD m), .val (nD j), .val (rD R), .own (F'.map sayD), .val (rN r), .val (nD cut), .val (nD gap), .val (rN s)], b3⟩) (ρ2 := ⟨[.val .box, .val (nD m), .val (nD j), .val (rD R), .own (F'.map sayD), .val (rN r), .val (nD cut), .val (nD gap), .val (rN s)], b3⟩) rfl rfl (by show (dEq _ _).map (fun r => D.bl !r) = _; rw [eq_rN]; rfl)
    exact and_ok t1 fun _ => t2) fun s _ _ => rfl
  have hpl := List.length_filter_le (prtB r) [r.take cut, r.drop gap]
  have k7 := add_vals (c := go (n + 3)) (a := .var 3) (xs := R.map rN) (ρ := wE m (.val (nD j)) R F' (.val (rN r)) (.val (nD cut)) (.val (nD gap)) b3) rfl k6 (by
    rw [List.length_map, List.length_map]
    simp only [List.length_cons, List.length_nil] at hpl
    omega)
  rw [← List.map_append] at k7
  refine ⟨R ++ [r.take cut, r.drop gap].filter (prtB r), F', .val (rN r), .val (nD cut), .val (nD gap), b3, ?_, fun s hs => ?_, ?_, hF', hFl', hb3⟩
  · exact (exs_cons s1).trans ((exs_cons e2).trans ((exs_cons (asg_ok (i := 6) e3)).trans ((exs_cons (asg_ok (i := 7) e5)).trans (exs_nx (asg_ok (i := 3) k7)))))
  · rcases List.mem_append.mp hs with hs | hs
    · exact hR s hs
    · obtain ⟨h1, h2⟩ := List.mem_filter.mp hs
      have hn : s ≠ [] := by
        rintro rfl
        cases h2
      rw [List.mem_cons, List.mem_singleton] at h1
      rcases h1 with rfl | rfl
      · exact rowOk_sub hrow (List.take_sublist _ _) hn
      · exact rowOk_sub hrow (List.drop_sublist _ _) hn
  · rw [List.length_append]
    simp only [List.length_cons, List.length_nil] at hpl
    omega
theorem law_nests {n m : Nat} {b : Bx} (h0 : 0 < m) (hm : m ≤ 100) (hb : b.ok) : ∃ (L : List Say) (b' : Bx), go (n + 4) 15 [.box, nD m] b = some (sayT L, b') ∧ (∀ p ∈ L, Ok m p) ∧ L.length ≤ 6 ∧ b'.ok := by
  have hgo : ∀ x, go (n + 4) 15 [.box, nD m] b = x ↔ leave (exs (go (n + 3)) b__law_nests ⟨[.val .box, .val (nD m), .un, .un, .un, .un, .un, .un, .un], b⟩) = x := fun x => by
    have : go (n + 4) 15 [.box, nD m] b = leave (exs (go (n + 3)) b__law_nests ⟨[.val .box, .val (nD m), .un, .un, .un, .un, .un, .un, .un], b⟩) := go_step (T := T) (prim := drawP) (n := n + 3) (i := 14) (fi := fi__law_nests) rfl rfl
    rw [this]
  have e0 : ev (go (n + 3)) (.lst (.cons (.rngl true (.kint 0) (.var 1)) .nil)) ⟨[.val .box, .val (nD m), .un, .un, .un, .un, .un, .un, .un], b⟩ = some (.v (rD [List.range m]), ⟨[.val .box, .val (nD m), .un, .un, .un, .un, .un, .un, .un], b⟩) := by
    have r := rngT_ok (c := go (n + 3)) (e := .var 1) (n := m) (ρ := ⟨[.val .box, .val (nD m), .un, .un, .un, .un, .un, .un, .un], b⟩) rfl (by omega)
    generalize E.rngl _ _ _ = x at r ⊢
    simp (config := { implicitDefEqProofs := false }) only [entry, exs, exS, ev, evs, evO, evIfs, evIt, evT, tstR_some', tru, at_v, at_p, val_v, atL, valL, get_mk, put_mk, ob_some, ob_none, isTy, op2, dIs, leave, bfn, seqOf_lst, seqOf_tup, srcOf_lst, srcOf_tup, setTg1, setTg2, setTg3, and_self, and_true, true_and, newPut, isOwn, List.map_cons, List.map_nil, List.length_cons, List.length_nil, List.cons_append, List.nil_append, List.getD_cons_zero, List.getD_cons_succ, List.set_cons_zero, List.set_cons_succ, List.replicate_succ, List.replicate_zero, Nat.reduceSub, Nat.reduceAdd, Option.map_some, Option.map_none, Option.some_or, beq_self_eq_true, Bool.true_eq_false, Bool.false_eq_true, Bool.not_true, Bool.not_false, Bool.not_eq_true', if_true, if_false, r, valL]
    rfl
  have s1 : exS (go (n + 3)) (.par 3 false (.lst (.cons (.rngl true (.kint 0) (.var 1)) .nil)) 4 true (.lst .nil)) ⟨[.val .box, .val (nD m), .un, .un, .un, .un, .un, .un, .un], b⟩ = some (.next, wE m .un [List.range m] [] .un .un .un b) := by
    have e1 : ev (go (n + 3)) (.lst .nil) ⟨[.val .box, .val (nD m), .un, .un, .un, .un, .un, .un, .un], b⟩ = some (.v (.lst []), ⟨[.val .box, .val (nD m), .un, .un, .un, .un, .un, .un, .un], b⟩) := by simp (config := { implicitDefEqProofs := false }) only [entry, exs, exS, ev, evs, evO, evIfs, evIt, evT, tstR_some', tru, at_v, at_p, val_v, atL, valL, get_mk, put_mk, ob_some, ob_none, isTy, op2, dIs, leave, bfn, seqOf_lst, seqOf_tup, srcOf_lst, srcOf_tup, setTg1, setTg2, setTg3, and_self, and_true, true_and, newPut, isOwn, List.map_cons, List.map_nil, List.length_cons, List.length_nil, List.cons_append, List.nil_append, List.getD_cons_zero, List.getD_cons_succ, List.set_cons_zero, List.set_cons_succ, List.replicate_succ, List.replicate_zero, Nat.reduceSub, Nat.reduceAdd, Option.map_some, Option.map_none, Option.some_or, beq_self_eq_true, Bool.true_eq_false, Bool.false_eq_true, Bool.not_true, Bool.not_false, Bool.not_eq_true', if_true, if_false, valL]
    simp only [exS, e0, e1, ob_some, Option.bind_eq_bind, Option.bind_some, val_v, newPut]
    rfl
  obtain ⟨ρ', e2, R, F, s2, s5, s6, s7, b', rfl, hR, hRl, hF, hFl, hb'⟩ := for_idx (c := go (n + 3)) (vs := [2]) (n := 6) (g := nD) (w := .rng1 (.kint 6)) (body := .cons (.ite (.op .lt (.var 2) (.bi .len (.cons (.var 3) .nil))) wb .nil) .nil) (ρ := wE m .un [List.range m] [] .un .un .un b) (ρ1 := wE m .un [List.range m] [] .un .un .un b)
    (fun j ρ => ∃ R F s2 s5 s6 s7 b', ρ = wE m s2 R F s5 s6 s7 b' ∧ (∀ r ∈ R, RowOk m r) ∧ R.length ≤ 1 + 2 * j ∧ (∀ p ∈ F, Ok m p) ∧ F.length ≤ j ∧ b'.ok) (rng_ok (n := 6) rfl (by decide)) ⟨_, _, _, _, _, _, _, rfl, (fun r hr => by
      rw [List.mem_singleton] at hr
      subst hr
      refine ⟨fun e => ?_, List.pairwise_lt_range, fun x hx => List.mem_range.mp hx⟩
      have := congrArg List.length e
      rw [List.length_range] at this
      simp at this
      omega), by simp, (fun p hp => by cases hp), Nat.le_refl _, hb⟩ (by
    rintro j hj ρ ⟨R, F, s2, s5, s6, s7, b, rfl, hR, hRl, hF, hFl, hb⟩
    have hl := lenL (c := go (n + 3)) (cc := .var 3) (ρ := wE m (.val (nD j)) R F s5 s6 s7 b) (xs := R.map rN) rfl
    rw [List.length_map] at hl
    have t := op_ok (o := .lt) (a := .var 2) (x := nD j) (ρ := wE m (.val (nD j)) R F s5 s6 s7 b) (ρ1 := wE m (.val (nD j)) R F s5 s6 s7 b) rfl hl (ltN j R.length)
    cases q : decide (j < R.length) with
    | false =>
      rw [q] at t
      exact ⟨_, _, rfl, exs_nx (ite_no t), R, F, _, _, _, _, b, rfl, hR, by omega, hF, by omega, hb⟩
    | true =>
      rw [q] at t
      obtain ⟨R', F', s5', s6', s7', b', e, h1, h2, h3, h4, h5⟩ := nests_body (n := n) (s5 := s5) (s6 := s6) (s7 := s7) hm hR (by omega) hF (by omega) (of_decide_eq_true q) hb
      exact ⟨_, _, rfl, exs_nx (ite_go t e), R', F', _, _, _, _, b', rfl, h1, by omega, h3, by omega, h5⟩)
  refine ⟨F, b', (hgo _).mpr ?_, hF, hFl, hb'⟩
  unfold b__law_nests
  have s3 : exS (go (n + 3)) (.ret (.bi .tuple (.cons (.pk 4) .nil))) (wE m s2 R F s5 s6 s7 b') = some (.ret (sayT F), wE m s2 R F s5 s6 s7 b') := ret_ok (by
    have h : (wE m s2 R F s5 s6 s7 b').get 4 = .own (F.map sayD) := rfl
    generalize wE m s2 R F s5 s6 s7 b' = ρ at h ⊢
    simp (config := { implicitDefEqProofs := false }) only [entry, exs, exS, ev, evs, evO, evIfs, evIt, evT, tstR_some', tru, at_v, at_p, val_v, atL, valL, get_mk, put_mk, ob_some, ob_none, isTy, op2, dIs, leave, bfn, seqOf_lst, seqOf_tup, srcOf_lst, srcOf_tup, setTg1, setTg2, setTg3, and_self, and_true, true_and, newPut, isOwn, List.map_cons, List.map_nil, List.length_cons, List.length_nil, List.cons_append, List.nil_append, List.getD_cons_zero, List.getD_cons_succ, List.set_cons_zero, List.set_cons_succ, List.replicate_succ, List.replicate_zero, Nat.reduceSub, Nat.reduceAdd, Option.map_some, Option.map_none, Option.some_or, beq_self_eq_true, Bool.true_eq_false, Bool.false_eq_true, Bool.not_true, Bool.not_false, Bool.not_eq_true', if_true, if_false, h, isOwn])
  exact (congrArg leave ((exs_cons s1).trans ((exs_cons e2).trans (exs_ret s3)))).trans rfl
end K21

end
section
set_option Elab.async false
set_option linter.all false
set_option maxRecDepth 100000
set_option maxHeartbeats 4000000
/-! K21h: the law's statements, drawn sayings. -/
namespace K21
open PySem L2 PV K46 K53
abbrev q0x0e : E := .op .add (.kint 1) (.call 0 (.cons (.var 1) (.cons (.kint 8) .nil)))
abbrev q0x0 : S := .asg 3 q0x0e
abbrev q0x1e : E := .call 15 (.cons (.var 1) (.cons (.var 3) .nil))
abbrev q0x1 : S := .asg 4 q0x1e
abbrev q0x2e : E := .comp [8, 15] (.of (.var 4)) .nil (.var 8)
abbrev q0x2 : S := .asg 5 q0x2e
abbrev q0x3t : E := .or (.op .isnot (.call 13 (.cons (.var 3) (.cons (.var 4) .nil))) (.kbl true)) (.not (.call 14 (.cons (.call 2 (.cons (.var 4) .nil)) (.cons (.call 18 (.cons (.var 5) .nil)) .nil))))
abbrev q0x3 : S := .ite q0x3t (.cons (.ret (.kbl false)) .nil) .nil
abbrev q0x4 : S := .new 6 (.lst .nil)
abbrev q0x5x0e : E := .bi .tuple (.cons (.srt (.comp [10] (.rng1 (.op .add (.kint 1) (.call 0 (.cons (.var 1) (.cons (.kint 3) .nil))))) .nil (.call 0 (.cons (.var 1) (.cons (.var 3) .nil))))) .nil)
abbrev q0x5x0 : S := .asg 8 q0x5x0e
abbrev q0x5x1 : S := .app 6 (.tup (.cons (.var 8) (.cons (.call 0 (.cons (.var 1) (.cons (.op .add (.bi .len (.cons (.var 8) .nil)) (.kint 1)) .nil))) .nil)))
abbrev q0x5b : Ss := .cons q0x5x0 (.cons q0x5x1 .nil)
abbrev q0x5w : PV.Wk := .rng1 (.call 0 (.cons (.var 1) (.cons (.kint 4) .nil)))
abbrev q0x5 : S := .for_ [7] q0x5w q0x5b
abbrev q0x6t : E := .not (.call 14 (.cons (.call 2 (.cons (.bi .tuple (.cons (.pk 6) .nil)) .nil)) (.cons (.call 18 (.cons (.comp [8, 15] (.of (.pk 6)) .nil (.var 8)) .nil)) .nil)))
abbrev q0x6 : S := .ite q0x6t (.cons (.ret (.kbl false)) .nil) .nil
abbrev q0x7t : E := .call 18 (.cons (.var 5) .nil)
abbrev q0x7 : S := .ite q0x7t (.cons (.asg 9 (.lst .nil)) (.cons (.for_ [10] (.rng1 (.bi .len (.cons (.var 5) .nil))) (.cons (.asg 12 (.comp [17] (.rng1 (.bi .len (.cons (.var 5) .nil))) (.cons (.call 17 (.cons (.ix (.var 5) (.var 17)) (.cons (.ix (.var 5) (.var 10)) .nil))) .nil) (.var 17))) (.cons (.asg 13 (.comp [17] (.of (.var 12)) (.cons (.not (.bi .any (.cons (.comp [19] (.of (.var 12)) .nil (.call 17 (.cons (.ix (.var 5) (.var 17)) (.cons (.ix (.var 5) (.var 19)) .nil)))) .nil))) .nil) (.var 17))) (.cons (.asg 14 (.bi .tuple (.cons (.comp [18] (.of (.ix (.var 5) (.var 10))) (.cons (.not (.bi .any (.cons (.comp [17] (.of (.var 13)) .nil (.op .isin (.var 18) (.ix (.var 5) (.var 17)))) .nil))) .nil) (.var 18)) .nil))) (.cons (.asg 15 (.op .sub (.ix (.ix (.var 4) (.var 10)) (.kint 1)) (.bi .sum (.cons (.comp [17] (.of (.var 13)) .nil (.ix (.ix (.var 4) (.var 17)) (.kint 1))) .nil)))) (.cons (.ite (.not (.call 14 (.cons (.tup (.cons (.call 3 (.cons (.var 4) (.cons (.var 10) .nil))) (.cons (.call 4 (.cons (.var 4) (.cons (.var 10) .nil))) (.cons (.call 5 (.cons (.var 4) (.cons (.var 10) .nil))) .nil)))) (.cons (.tup (.cons (.bi .tuple (.cons (.var 13) .nil)) (.cons (.var 14) (.cons (.var 15) .nil)))) .nil)))) (.cons (.ret (.kbl false)) .nil) .nil) (.cons (.asg 9 (.op .add (.var 9) (.ite (.or (.op .lt (.var 15) (.kint 0)) (.op .gt (.var 15) (.bi .len (.cons (.var 14) .nil)))) (.lst (.cons (.var 10) .nil)) (.lst .nil)))) .nil))))))) (.cons (.asg 11 (.comp [16] (.of (.call 16 (.cons (.var 3) .nil))) (.cons (.not (.bi .any (.cons (.comp [8, 15] (.of (.var 4)) .nil (.op .ne (.bi .len (.cons (.comp [18] (.of (.var 8)) (.cons (.op .isin (.var 18) (.var 16)) .nil) (.var 18)) .nil)) (.var 15))) .nil))) .nil) (.var 16))) (.cons (.ite (.or (.not (.call 14 (.cons (.tup (.cons (.call 6 (.cons (.var 4) .nil)) (.cons (.call 9 (.cons (.var 3) (.cons (.var 4) .nil))) .nil))) (.cons (.tup (.cons (.ite (.op .ne (.var 9) (.lst .nil)) (.ix (.var 9) (.kint 0)) (.knon)) (.cons (.bi .len (.cons (.var 11) .nil)) .nil))) .nil)))) (.op .ne (.op .eq (.var 11) (.lst .nil)) (.op .ne (.var 9) (.lst .nil)))) (.cons (.ret (.kbl false)) .nil) .nil) (.cons (.ite (.not (.call 14 (.cons (.call 7 (.cons (.var 3) (.cons (.var 4) .nil))) (.cons (.ite (.op .ne (.var 11) (.lst .nil)) (.ix (.var 11) (.kint 0)) (.knon)) .nil)))) (.cons (.ret (.kbl false)) .nil) .nil) .nil))))) .nil
abbrev q0b : Ss := .cons q0x0 (.cons q0x1 (.cons q0x2 (.cons q0x3 (.cons q0x4 (.cons q0x5 (.cons q0x6 (.cons q0x7 .nil)))))))
abbrev q0w : PV.Wk := .rng1 (.kint 5)
abbrev q0 : S := .for_ [2] q0w q0b
abbrev q1 : S := .ret (.and (.op .eq (.call 7 (.cons (.kint 3) (.cons (.tup (.cons (.tup (.cons (.tup (.cons (.kint 0) (.cons (.kint 1) .nil))) (.cons (.kint 1) .nil))) (.cons (.tup (.cons (.tup (.cons (.kint 0) .nil)) (.cons (.kint 0) .nil))) .nil))) .nil))) (.tup (.cons (.kint 1) .nil))) (.op .eq (.call 9 (.cons (.kint 3) (.cons (.tup (.cons (.tup (.cons (.tup (.cons (.kint 0) (.cons (.kint 1) .nil))) (.cons (.kint 1) .nil))) .nil)) .nil))) (.kint 4)))
theorem q_shape : b_law = .cons q0 (.cons q1 .nil) := rfl

abbrev LE (s2 s3 s4 s5 s6 s7 s8 s9 s10 s11 s12 s13 s14 s15 : PV.Slot) (b : Bx) : PV.Env := ⟨[.un, .val .box, s2, s3, s4, s5, s6, s7, s8, s9, s10, s11, s12, s13, s14, s15, .un, .un, .un, .un], b⟩
theorem same_go (d : D) (b : Bx) (hd : d.dep < 40) (hs : d.sim = true) : go 40 14 [d, d] b = some (.bl true, b) := same_refl (T := T) (prim := drawP) (i := 13) (nm := "_law_same") (st := top 21) rfl 40 d b hd hs
theorem hd40 : Draws (go 40) := draws_run (n := 39) (by decide)
structure Lo (L : List Say) (m : Nat) : Prop where
  ok : ∀ p ∈ L, Ok m p
  len : L.length ≤ 6
  m0 : 0 < m
  m8 : m ≤ 8
theorem x0_ok {s2 s3 s4 s5 s6 s7 s8 s9 s10 s11 s12 s13 s14 s15 : PV.Slot} {b : Bx} (hb : b.ok) : ∃ (m : Nat) (b' : Bx), exS (go 40) q0x0 (LE s2 s3 s4 s5 s6 s7 s8 s9 s10 s11 s12 s13 s14 s15 b) = some (.next, LE s2 (.val (nD m)) s4 s5 s6 s7 s8 s9 s10 s11 s12 s13 s14 s15 b') ∧ 0 < m ∧ m ≤ 8 ∧ b'.ok := by
  obtain ⟨k, b', e, hk, hb'⟩ := draw_ev (c := go 40) (i := 1) (n := 8) (e := .kint 8) (ρ := LE s2 s3 s4 s5 s6 s7 s8 s9 s10 s11 s12 s13 s14 s15 b) hd40 rfl rfl hb (by decide) (by decide)
  exact ⟨1 + k, b', asg_ok (i := 3) (op_ok (o := .add) (a := .kint 1) (x := nD 1) (ρ1 := LE s2 s3 s4 s5 s6 s7 s8 s9 s10 s11 s12 s13 s14 s15 b) rfl e (addN 1 k)), by omega, by omega, hb'⟩
theorem x1_ok {m : Nat} {s2 s4 s5 s6 s7 s8 s9 s10 s11 s12 s13 s14 s15 : PV.Slot} {b : Bx} (h0 : 0 < m) (h8 : m ≤ 8) (hb : b.ok) : ∃ (L : List Say) (b' : Bx), exS (go 40) q0x1 (LE s2 (.val (nD m)) s4 s5 s6 s7 s8 s9 s10 s11 s12 s13 s14 s15 b) = some (.next, LE s2 (.val (nD m)) (.val (sayT L)) s5 s6 s7 s8 s9 s10 s11 s12 s13 s14 s15 b') ∧ Lo L m ∧ b'.ok := by
  obtain ⟨L, b', e, h1, h2, hb'⟩ := law_nests (n := 36) h0 (by omega) hb
  exact ⟨L, b', asg_ok (i := 4) (call2 (a := .var 1) (e := .var 3) (x := .box) (y := nD m) (ρ1 := LE s2 (.val (nD m)) s4 s5 s6 s7 s8 s9 s10 s11 s12 s13 s14 s15 b) (ρ2 := LE s2 (.val (nD m)) s4 s5 s6 s7 s8 s9 s10 s11 s12 s13 s14 s15 b) rfl rfl e), ⟨h1, h2, h0, h8⟩, hb'⟩
theorem x2_ok {L : List Say} {s2 s3 s5 s6 s7 s8 s9 s10 s11 s12 s13 s14 s15 : PV.Slot} {b : Bx} (h8 : isOwn s8 = false) (h15 : isOwn s15 = false) : exS (go 40) q0x2 (LE s2 s3 (.val (sayT L)) s5 s6 s7 s8 s9 s10 s11 s12 s13 s14 s15 b) = some (.next, LE s2 s3 (.val (sayT L)) (.val (rD (rws L))) s6 s7 s8 s9 s10 s11 s12 s13 s14 s15 b) :=
  asg_ok (i := 5) (rows_ev (c := go 40) (i := 8) (j := 15) (k := 4) (L := L) (ρ := LE s2 s3 (.val (sayT L)) s5 s6 s7 s8 s9 s10 s11 s12 s13 s14 s15 b) rfl (by decide) h8 h15 (by show 8 < 20; decide))
theorem rows_rws {L : List Say} {m : Nat} (h : ∀ p ∈ L, Ok m p) : Rows (rws L) := ⟨fun r hr => by
  obtain ⟨p, hp, rfl⟩ := List.mem_map.mp hr
  exact (h p hp).asc, fun r hr => by
  obtain ⟨p, hp, rfl⟩ := List.mem_map.mp hr
  exact (h p hp).ne⟩
theorem x3_ok {L : List Say} {m : Nat} {s2 s6 s7 s8 s9 s10 s11 s12 s13 s14 s15 : PV.Slot} {b : Bx} (h : Lo L m) : exS (go 40) q0x3 (LE s2 (.val (nD m)) (.val (sayT L)) (.val (rD (rws L))) s6 s7 s8 s9 s10 s11 s12 s13 s14 s15 b) = some (.next, LE s2 (.val (nD m)) (.val (sayT L)) (.val (rD (rws L))) s6 s7 s8 s9 s10 s11 s12 s13 s14 s15 b) := by
  have h6 := h.len
  have h8 := h.m8
  have a1 := are_sayings (n := 37) (b := b) h.ok (by omega) (by omega)
  have t1 := op_ok (c := go 40) (o := .isnot) (e := .kbl true) (x := .bl true) (y := .bl true) (z := .bl false) (call2b (f := 13) (a := .var 3) (e := .var 4) (x := nD m) (y := sayT L) (ρ := LE s2 (.val (nD m)) (.val (sayT L)) (.val (rD (rws L))) s6 s7 s8 s9 s10 s11 s12 s13 s14 s15 b) rfl rfl a1) rfl rfl
  have a2 := are_nested (n := 38) (b := b) (L := L) (by omega)
  have a3 := law_are_nested (n := 38) (b := b) (R := rws L) (by rw [rws_len]; omega)
  rw [← pr_lw (rows_rws h.ok)] at a3
  have t2 := same_t (c := go 40) (f := 14) (call1 (f := 2) (a := .var 4) (x := sayT L) (ρ := LE s2 (.val (nD m)) (.val (sayT L)) (.val (rD (rws L))) s6 s7 s8 s9 s10 s11 s12 s13 s14 s15 b) (ρ1 := LE s2 (.val (nD m)) (.val (sayT L)) (.val (rD (rws L))) s6 s7 s8 s9 s10 s11 s12 s13 s14 s15 b) rfl a2) (call1 (f := 18) (a := .var 5) (x := rD (rws L)) (ρ := LE s2 (.val (nD m)) (.val (sayT L)) (.val (rD (rws L))) s6 s7 s8 s9 s10 s11 s12 s13 s14 s15 b) (ρ1 := LE s2 (.val (nD m)) (.val (sayT L)) (.val (rD (rws L))) s6 s7 s8 s9 s10 s11 s12 s13 s14 s15 b) rfl a3) (same_go _ b (by show 0 < 40; decide) rfl)
  exact ite_no (or_no t1 t2)
theorem x4_ok {s2 s3 s4 s5 s6 s7 s8 s9 s10 s11 s12 s13 s14 s15 : PV.Slot} {b : Bx} : exS (go 40) q0x4 (LE s2 s3 s4 s5 s6 s7 s8 s9 s10 s11 s12 s13 s14 s15 b) = some (.next, LE s2 s3 s4 s5 (.own []) s7 s8 s9 s10 s11 s12 s13 s14 s15 b) := new_ok (c := go 40) (i := 6) (e := .lst .nil) (ρ := LE s2 s3 s4 s5 s6 s7 s8 s9 s10 s11 s12 s13 s14 s15 b) (ρ' := LE s2 s3 s4 s5 s6 s7 s8 s9 s10 s11 s12 s13 s14 s15 b) (by simp (config := { implicitDefEqProofs := false }) only [entry, exs, exS, ev, evs, evO, evIfs, evIt, evT, tstR_some', tru, at_v, at_p, val_v, atL, valL, get_mk, put_mk, ob_some, ob_none, isTy, op2, dIs, leave, bfn, seqOf_lst, seqOf_tup, srcOf_lst, srcOf_tup, setTg1, setTg2, setTg3, and_self, and_true, true_and, newPut, isOwn, List.map_cons, List.map_nil, List.length_cons, List.length_nil, List.cons_append, List.nil_append, List.getD_cons_zero, List.getD_cons_succ, List.set_cons_zero, List.set_cons_succ, List.replicate_succ, List.replicate_zero, Nat.reduceSub, Nat.reduceAdd, Option.map_some, Option.map_none, Option.some_or, beq_self_eq_true, Bool.true_eq_false, Bool.false_eq_true, Bool.not_true, Bool.not_false, Bool.not_eq_true', if_true, if_false, valL])
theorem say_draw {m : Nat} {F : List Say} {s2 s4 s5 s7 s8 s9 s10 s11 s12 s13 s14 s15 : PV.Slot} {b : Bx} (h0 : 0 < m) (h8 : m ≤ 8) (hF : ∀ p ∈ F, Ok m p) (hl : F.length ≤ 100) (h10 : isOwn s10 = false) (hb : b.ok) : ∃ (p : Say) (b' : Bx), exs (go 40) q0x5b (LE s2 (.val (nD m)) s4 s5 (.own (F.map sayD)) s7 s8 s9 s10 s11 s12 s13 s14 s15 b) = some (.next, LE s2 (.val (nD m)) s4 s5 (.own ((F ++ [p]).map sayD)) s7 (.val (rN p.1)) s9 s10 s11 s12 s13 s14 s15 b') ∧ Ok m p ∧ b'.ok := by
  obtain ⟨k4, b1, e1, hk4, hb1⟩ := draw_ev (c := go 40) (i := 1) (n := 3) (e := .kint 3) (ρ := LE s2 (.val (nD m)) s4 s5 (.own (F.map sayD)) s7 s8 s9 s10 s11 s12 s13 s14 s15 b) hd40 rfl rfl hb (by decide) (by decide)
  have hw : evIt (go 40) (.rng1 (.op .add (.kint 1) (.call 0 (.cons (.var 1) (.cons (.kint 3) .nil))))) (LE s2 (.val (nD m)) s4 s5 (.own (F.map sayD)) s7 s8 s9 s10 s11 s12 s13 s14 s15 b) = some (.vals ((List.range (1 + k4)).map nD), LE s2 (.val (nD m)) s4 s5 (.own (F.map sayD)) s7 s8 s9 s10 s11 s12 s13 s14 s15 b1) :=
    rng_ok (n := 1 + k4) (op_ok (o := .add) (a := .kint 1) (x := nD 1) (ρ1 := LE s2 (.val (nD m)) s4 s5 (.own (F.map sayD)) s7 s8 s9 s10 s11 s12 s13 s14 s15 b) rfl e1 (addN 1 k4)) (by omega)
  obtain ⟨ds, b2, e2, hl2, hP, hb2⟩ := comp_draw2 (c := go 40) (i := 10) (elt := .call 0 (.cons (.var 1) (.cons (.var 3) .nil))) (sl := (LE s2 (.val (nD m)) s4 s5 (.own (F.map sayD)) s7 s8 s9 s10 s11 s12 s13 s14 s15 b).sl) (g := nD) (fun d => ∃ k, k < m ∧ d = nD k) hw h10 hb1 fun x _ b hb => by
    obtain ⟨k, b', e, hk, hb'⟩ := draw_ev (c := go 40) (i := 1) (n := m) (e := .var 3) (ρ := LE s2 (.val (nD m)) s4 s5 (.own (F.map sayD)) s7 s8 s9 (.val (nD x)) s11 s12 s13 s14 s15 b) hd40 rfl rfl hb h0 (by omega)
    exact ⟨nD k, b', e, ⟨k, hk, rfl⟩, hb'⟩
  obtain ⟨zs, rfl, hzl, hz⟩ := nats_of hP
  rw [List.length_map, List.length_range] at hl2
  obtain ⟨r, er, hasc, hmem⟩ := usort_nat zs
  have hsrt : dSrt (.lst (zs.map nD)) = some (.lst (r.map nD)) := by
    have : dSrt (.lst (zs.map nD)) = dSrt (rN zs) := rfl
    rw [this, srt_rN (by omega), er, ← toZ_D]
  have hlt : ∀ s ∈ r, s < m := fun s hs => hz s ((hmem s).mp hs)
  have hrl : r.length ≤ m := PV.asc_len hasc hlt
  have hne : r ≠ [] := by
    intro h
    have hz0 : 0 < zs.length := by omega
    have : zs[0] ∈ r := (hmem _).mpr (List.getElem_mem hz0)
    rw [h] at this
    cases this
  have s1 : exS (go 40) q0x5x0 (LE s2 (.val (nD m)) s4 s5 (.own (F.map sayD)) s7 s8 s9 s10 s11 s12 s13 s14 s15 b) = some (.next, LE s2 (.val (nD m)) s4 s5 (.own (F.map sayD)) s7 (.val (rN r)) s9 s10 s11 s12 s13 s14 s15 b2) := by
    refine asg_ok (i := 8) (ρ' := LE s2 (.val (nD m)) s4 s5 (.own (F.map sayD)) s7 s8 s9 s10 s11 s12 s13 s14 s15 b2) (d := rN r) ?_
    unfold q0x5x0e
    refine tupL ?_
    have e2 : ev (go 40) (.comp [10] (.rng1 (.op .add (.kint 1) (.call 0 (.cons (.var 1) (.cons (.kint 3) .nil))))) .nil (.call 0 (.cons (.var 1) (.cons (.var 3) .nil)))) (LE s2 (.val (nD m)) s4 s5 (.own (F.map sayD)) s7 s8 s9 s10 s11 s12 s13 s14 s15 b) = some (.v (.lst (zs.map nD)), LE s2 (.val (nD m)) s4 s5 (.own (F.map sayD)) s7 s8 s9 s10 s11 s12 s13 s14 s15 b2) := e2
    generalize E.comp _ _ _ _ = cc at e2 ⊢
    simp only [ev, e2, ob_some, at_v, Option.bind_eq_bind, Option.bind_some, hsrt]
  have l := lenT (c := go 40) (cc := .var 8) (ρ := LE s2 (.val (nD m)) s4 s5 (.own (F.map sayD)) s7 (.val (rN r)) s9 s10 s11 s12 s13 s14 s15 b2) (xs := r.map nD) rfl
  rw [List.length_map] at l
  obtain ⟨v, b3, e3, hv, hb3⟩ := draw_ev (c := go 40) (i := 1) (n := r.length + 1) (ρ := LE s2 (.val (nD m)) s4 s5 (.own (F.map sayD)) s7 (.val (rN r)) s9 s10 s11 s12 s13 s14 s15 b2) hd40 rfl (op_ok (o := .add) (e := .kint 1) (y := nD 1) l rfl (addN r.length 1)) hb2 (by omega) (by omega)
  have s2 := app_ok (c := go 40) (i := 6) (ρ := LE s2 (.val (nD m)) s4 s5 (.own (F.map sayD)) s7 (.val (rN r)) s9 s10 s11 s12 s13 s14 s15 b2) (ρ' := LE s2 (.val (nD m)) s4 s5 (.own (F.map sayD)) s7 (.val (rN r)) s9 s10 s11 s12 s13 s14 s15 b3) (d := sayD (r, v)) (ds := F.map sayD) rfl (tup2 (a := .var 8) (x := rN r) (ρ1 := LE s2 (.val (nD m)) s4 s5 (.own (F.map sayD)) s7 (.val (rN r)) s9 s10 s11 s12 s13 s14 s15 b2) rfl e3) rfl (by rw [List.length_map]; omega)
  refine ⟨(r, v), b3, (exs_cons s1).trans ((exs_nx s2).trans ?_), ⟨hne, (PV.asc_pair _).mp hasc, hlt, Nat.le_of_lt_succ hv⟩, hb3⟩
  rw [List.map_append]; rfl
theorem x5_ok {m : Nat} {s2 s4 s5 s7 s8 s9 s10 s11 s12 s13 s14 s15 : PV.Slot} {b : Bx} (h0 : 0 < m) (h8 : m ≤ 8) (hs8 : isOwn s8 = false) (h10 : isOwn s10 = false) (hb : b.ok) : ∃ (F : List Say) (u7 u8 : PV.Slot) (b' : Bx), exS (go 40) q0x5 (LE s2 (.val (nD m)) s4 s5 (.own []) s7 s8 s9 s10 s11 s12 s13 s14 s15 b) = some (.next, LE s2 (.val (nD m)) s4 s5 (.own (F.map sayD)) u7 u8 s9 s10 s11 s12 s13 s14 s15 b') ∧ (∀ p ∈ F, Ok m p) ∧ F.length ≤ 6 ∧ isOwn u8 = false ∧ b'.ok := by
  obtain ⟨k, b1, e1, hk, hb1⟩ := draw_ev (c := go 40) (i := 1) (n := 4) (e := .kint 4) (ρ := LE s2 (.val (nD m)) s4 s5 (.own []) s7 s8 s9 s10 s11 s12 s13 s14 s15 b) hd40 rfl rfl hb (by decide) (by decide)
  obtain ⟨ρ', e, F, u7, u8, b', rfl, h1, h2, h3, hb'⟩ := for_idx (c := go 40) (vs := [7]) (n := k) (g := nD) (w := q0x5w) (body := q0x5b) (ρ := LE s2 (.val (nD m)) s4 s5 (.own []) s7 s8 s9 s10 s11 s12 s13 s14 s15 b) (ρ1 := LE s2 (.val (nD m)) s4 s5 (.own []) s7 s8 s9 s10 s11 s12 s13 s14 s15 b1)
    (fun j ρ => ∃ (F : List Say) (u7 u8 : PV.Slot) (b' : Bx), ρ = LE s2 (.val (nD m)) s4 s5 (.own (F.map sayD)) u7 u8 s9 s10 s11 s12 s13 s14 s15 b' ∧ (∀ p ∈ F, Ok m p) ∧ F.length ≤ j ∧ isOwn u8 = false ∧ b'.ok) (rng_ok e1 (by omega)) ⟨[], s7, s8, b1, rfl, (fun p hp => by cases hp), Nat.le_refl _, hs8, hb1⟩ (by
    rintro j hj ρ ⟨F, u7, u8, b, rfl, h1, h2, h3, hb⟩
    obtain ⟨p, b', e, hp, hb'⟩ := say_draw (s2 := s2) (s4 := s4) (s5 := s5) (s7 := .val (nD j)) (s8 := u8) (s9 := s9) (s10 := s10) (s11 := s11) (s12 := s12) (s13 := s13) (s14 := s14) (s15 := s15) h0 h8 h1 (by omega) h10 hb
    refine ⟨_, _, rfl, e, F ++ [p], .val (nD j), .val (rN p.1), b', rfl, fun q hq => ?_, by simp; omega, rfl, hb'⟩
    rcases List.mem_append.mp hq with hq | hq
    · exact h1 q hq
    · rw [List.mem_singleton] at hq; subst hq; exact hp)
  exact ⟨F, u7, u8, b', e, h1, by omega, h3, hb'⟩
theorem x6_ok {m : Nat} {F : List Say} {s2 s3 s4 s5 s7 s8 s9 s10 s11 s12 s13 s14 s15 : PV.Slot} {b : Bx} (h1 : ∀ p ∈ F, Ok m p) (h2 : F.length ≤ 6) (h8 : isOwn s8 = false) (h15 : isOwn s15 = false) : exS (go 40) q0x6 (LE s2 s3 s4 s5 (.own (F.map sayD)) s7 s8 s9 s10 s11 s12 s13 s14 s15 b) = some (.next, LE s2 s3 s4 s5 (.own (F.map sayD)) s7 s8 s9 s10 s11 s12 s13 s14 s15 b) := by
  have a2 := are_nested (n := 38) (b := b) (L := F) (by omega)
  have a3 := law_are_nested (n := 38) (b := b) (R := rws F) (by rw [rws_len]; omega)
  rw [← pr_lw (rows_rws h1)] at a3
  have t1 : ev (go 40) (.bi .tuple (.cons (.pk 6) .nil)) (LE s2 s3 s4 s5 (.own (F.map sayD)) s7 s8 s9 s10 s11 s12 s13 s14 s15 b) = some (.v (sayT F), LE s2 s3 s4 s5 (.own (F.map sayD)) s7 s8 s9 s10 s11 s12 s13 s14 s15 b) := by
    have h : (LE s2 s3 s4 s5 (.own (F.map sayD)) s7 s8 s9 s10 s11 s12 s13 s14 s15 b).get 6 = .own (F.map sayD) := rfl
    generalize LE _ _ _ _ _ _ _ _ _ _ _ _ _ _ _ = ρ at h ⊢
    simp (config := { implicitDefEqProofs := false }) only [entry, exs, exS, ev, evs, evO, evIfs, evIt, evT, tstR_some', tru, at_v, at_p, val_v, atL, valL, get_mk, put_mk, ob_some, ob_none, isTy, op2, dIs, leave, bfn, seqOf_lst, seqOf_tup, srcOf_lst, srcOf_tup, setTg1, setTg2, setTg3, and_self, and_true, true_and, newPut, isOwn, List.map_cons, List.map_nil, List.length_cons, List.length_nil, List.cons_append, List.nil_append, List.getD_cons_zero, List.getD_cons_succ, List.set_cons_zero, List.set_cons_succ, List.replicate_succ, List.replicate_zero, Nat.reduceSub, Nat.reduceAdd, Option.map_some, Option.map_none, Option.some_or, beq_self_eq_true, Bool.true_eq_false, Bool.false_eq_true, Bool.not_true, Bool.not_false, Bool.not_eq_true', if_true, if_false, h, isOwn]
  have t2 := compP_live (c := go 40) (i := 8) (j := 15) (k := 6) (elt := .var 8) (ρ := LE s2 s3 s4 s5 (.own (F.map sayD)) s7 s8 s9 s10 s11 s12 s13 s14 s15 b) (l := F) (g1 := fun p => rN p.1) (g2 := fun p => nD p.2) (f := fun p => rN p.1) (by decide) (by decide) (by decide) rfl (by omega) h8 h15 fun p _ => rfl
  have e : (F.map fun p => rN p.1) = (rws F).map rN := by unfold rws; rw [List.map_map]; rfl
  rw [e] at t2
  have t := same_t (c := go 40) (f := 14) (call1 (f := 2) (ρ := LE s2 s3 s4 s5 (.own (F.map sayD)) s7 s8 s9 s10 s11 s12 s13 s14 s15 b) (ρ1 := LE s2 s3 s4 s5 (.own (F.map sayD)) s7 s8 s9 s10 s11 s12 s13 s14 s15 b) t1 a2) (call1 (f := 18) (ρ := LE s2 s3 s4 s5 (.own (F.map sayD)) s7 s8 s9 s10 s11 s12 s13 s14 s15 b) (ρ1 := LE s2 s3 s4 s5 (.own (F.map sayD)) s7 s8 s9 s10 s11 s12 s13 s14 s15 b) t2 a3) (same_go _ b (by show 0 < 40; decide) rfl)
  exact ite_no t
end K21

end
section
set_option Elab.async false
set_option linter.all false
set_option maxRecDepth 100000
set_option maxHeartbeats 4000000
/-! K21i: the law's statements about nested sayings. -/
namespace K21
open PySem L2 PV K46 K53
abbrev y0e : E := .lst .nil
abbrev y0 : S := .asg 9 y0e
abbrev y1x0e : E := .comp [17] (.rng1 (.bi .len (.cons (.var 5) .nil))) (.cons (.call 17 (.cons (.ix (.var 5) (.var 17)) (.cons (.ix (.var 5) (.var 10)) .nil))) .nil) (.var 17)
abbrev y1x0 : S := .asg 12 y1x0e
abbrev y1x1e : E := .comp [17] (.of (.var 12)) (.cons (.not (.bi .any (.cons (.comp [19] (.of (.var 12)) .nil (.call 17 (.cons (.ix (.var 5) (.var 17)) (.cons (.ix (.var 5) (.var 19)) .nil)))) .nil))) .nil) (.var 17)
abbrev y1x1 : S := .asg 13 y1x1e
abbrev y1x2e : E := .bi .tuple (.cons (.comp [18] (.of (.ix (.var 5) (.var 10))) (.cons (.not (.bi .any (.cons (.comp [17] (.of (.var 13)) .nil (.op .isin (.var 18) (.ix (.var 5) (.var 17)))) .nil))) .nil) (.var 18)) .nil)
abbrev y1x2 : S := .asg 14 y1x2e
abbrev y1x3e : E := .op .sub (.ix (.ix (.var 4) (.var 10)) (.kint 1)) (.bi .sum (.cons (.comp [17] (.of (.var 13)) .nil (.ix (.ix (.var 4) (.var 17)) (.kint 1))) .nil))
abbrev y1x3 : S := .asg 15 y1x3e
abbrev y1x4t : E := .not (.call 14 (.cons (.tup (.cons (.call 3 (.cons (.var 4) (.cons (.var 10) .nil))) (.cons (.call 4 (.cons (.var 4) (.cons (.var 10) .nil))) (.cons (.call 5 (.cons (.var 4) (.cons (.var 10) .nil))) .nil)))) (.cons (.tup (.cons (.bi .tuple (.cons (.var 13) .nil)) (.cons (.var 14) (.cons (.var 15) .nil)))) .nil)))
abbrev y1x4 : S := .ite y1x4t (.cons (.ret (.kbl false)) .nil) .nil
abbrev y1x5e : E := .op .add (.var 9) (.ite (.or (.op .lt (.var 15) (.kint 0)) (.op .gt (.var 15) (.bi .len (.cons (.var 14) .nil)))) (.lst (.cons (.var 10) .nil)) (.lst .nil))
abbrev y1x5 : S := .asg 9 y1x5e
abbrev y1b : Ss := .cons y1x0 (.cons y1x1 (.cons y1x2 (.cons y1x3 (.cons y1x4 (.cons y1x5 .nil)))))
abbrev y1w : PV.Wk := .rng1 (.bi .len (.cons (.var 5) .nil))
abbrev y1 : S := .for_ [10] y1w y1b
abbrev y2e : E := .comp [16] (.of (.call 16 (.cons (.var 3) .nil))) (.cons (.not (.bi .any (.cons (.comp [8, 15] (.of (.var 4)) .nil (.op .ne (.bi .len (.cons (.comp [18] (.of (.var 8)) (.cons (.op .isin (.var 18) (.var 16)) .nil) (.var 18)) .nil)) (.var 15))) .nil))) .nil) (.var 16)
abbrev y2 : S := .asg 11 y2e
abbrev y3t : E := .or (.not (.call 14 (.cons (.tup (.cons (.call 6 (.cons (.var 4) .nil)) (.cons (.call 9 (.cons (.var 3) (.cons (.var 4) .nil))) .nil))) (.cons (.tup (.cons (.ite (.op .ne (.var 9) (.lst .nil)) (.ix (.var 9) (.kint 0)) (.knon)) (.cons (.bi .len (.cons (.var 11) .nil)) .nil))) .nil)))) (.op .ne (.op .eq (.var 11) (.lst .nil)) (.op .ne (.var 9) (.lst .nil)))
abbrev y3 : S := .ite y3t (.cons (.ret (.kbl false)) .nil) .nil
abbrev y4t : E := .not (.call 14 (.cons (.call 7 (.cons (.var 3) (.cons (.var 4) .nil))) (.cons (.ite (.op .ne (.var 11) (.lst .nil)) (.ix (.var 11) (.kint 0)) (.knon)) .nil)))
abbrev y4 : S := .ite y4t (.cons (.ret (.kbl false)) .nil) .nil
abbrev yb : Ss := .cons y0 (.cons y1 (.cons y2 (.cons y3 (.cons y4 .nil))))
theorem y_shape : q0x7 = .ite q0x7t yb .nil := rfl

structure LN (L : List Say) (m : Nat) : Prop extends Lo L m where
  nest : Nest L
theorem LN.nm {L : List Say} {m : Nat} (h : LN L m) : NestM L m := ⟨h.nest, fun k hk x hx => (h.ok _ (getL hk)).low x hx⟩
theorem wit_rw {L : List Say} {m i j : Nat} (h : LN L m) (hi : i < L.length) (hj : j < L.length) : witB (rw' L i) (rw' L j) = insB (rw' L i) (rw' L j) := (ins_wit (h.nest.asc i hi) (h.nest.asc j hj)).symm
abbrev natD (r : List Nat) : D := .lst (r.map nD)
theorem within_ev {L : List Say} {m i j p q : Nat} {ρ : PV.Env} (h : LN L m) (h5 : ρ.get 5 = .val (rD (rws L))) (hp : ρ.get p = .val (nD i)) (hq : ρ.get q = .val (nD j)) (hi : i < L.length) (hj : j < L.length) : ev (go 40) (.call 17 (.cons (.ix (.var 5) (.var p)) (.cons (.ix (.var 5) (.var q)) .nil))) ρ = some (.v (.bl (insB (rw' L i) (rw' L j))), ρ) := by
  have r1 := ixRow (c := go 40) (R := rws L) h5 hp (by rw [rws_len]; exact hi)
  have r2 := ixRow (c := go 40) (R := rws L) h5 hq (by rw [rws_len]; exact hj)
  rw [rw_getD] at r1 r2
  rw [← wit_rw h hi hj]
  exact call2b r1 r2 (law_within (n := 39))
theorem z0_ok {L : List Say} {m k : Nat} {s2 s3 s4 s6 s7 s8 s9 s11 s12 s13 s14 s15 : PV.Slot} {b : Bx} (h : LN L m) (hk : k < L.length) : exS (go 40) y1x0 (LE s2 s3 s4 (.val (rD (rws L))) s6 s7 s8 s9 (.val (nD k)) s11 s12 s13 s14 s15 b) = some (.next, LE s2 s3 s4 (.val (rD (rws L))) s6 s7 s8 s9 (.val (nD k)) s11 (.val (natD (ins L k))) s13 s14 s15 b) := by
  have h6 := h.len
  have hlen := lenL (c := go 40) (cc := .var 5) (ρ := LE s2 s3 s4 (.val (rD (rws L))) s6 s7 s8 s9 (.val (nD k)) s11 s12 s13 s14 s15 b) (xs := (rws L).map rN) rfl
  rw [List.length_map, rws_len] at hlen
  exact asg_ok (i := 12) (comp_if (c := go 40) (i := 17) (it := .rng1 (.bi .len (.cons (.var 5) .nil))) (ρ := LE s2 s3 s4 (.val (rD (rws L))) s6 s7 s8 s9 (.val (nD k)) s11 s12 s13 s14 s15 b) (l := List.range L.length) (g := nD) (f := nD) (fun j => insB (rw' L j) (rw' L k)) (rng_ok hlen (by omega)) rfl (fun j hj => within_ev h rfl rfl rfl (List.mem_range.mp hj) hk) fun j _ _ => rfl)
theorem z1_ok {L : List Say} {m k : Nat} {s2 s3 s4 s6 s7 s8 s9 s10 s11 s13 s14 s15 : PV.Slot} {b : Bx} (h : LN L m) (hk : k < L.length) : exS (go 40) y1x1 (LE s2 s3 s4 (.val (rD (rws L))) s6 s7 s8 s9 s10 s11 (.val (natD (ins L k))) s13 s14 s15 b) = some (.next, LE s2 s3 s4 (.val (rD (rws L))) s6 s7 s8 s9 s10 s11 (.val (natD (ins L k))) (.val (natD (near L k))) s14 s15 b) :=
  asg_ok (i := 13) (comp_if (c := go 40) (i := 17) (it := .of (.var 12)) (ρ := LE s2 s3 s4 (.val (rD (rws L))) s6 s7 s8 s9 s10 s11 (.val (natD (ins L k))) s13 s14 s15 b) (l := ins L k) (g := nD) (f := nD) (fun j => !((ins L k).any fun i => insB (rw' L j) (rw' L i))) (of_lst rfl) rfl (fun j hj => by
    refine not_any (any_ok (l := ins L k) (f := fun i => insB (rw' L j) (rw' L i)) (comp_of (c := go 40) (i := 19) (it := .of (.var 12)) (ρ := (LE s2 s3 s4 (.val (rD (rws L))) s6 s7 s8 s9 s10 s11 (.val (natD (ins L k))) s13 s14 s15 b).put 17 (.val (nD j))) (g := nD) (of_lst rfl) rfl fun i hi => ?_))
    exact within_ev (ρ := ((LE s2 s3 s4 (.val (rD (rws L))) s6 s7 s8 s9 s10 s11 (.val (natD (ins L k))) s13 s14 s15 b).put 17 (.val (nD j))).put 19 (.val (nD i))) h rfl rfl rfl (mem_ins.mp hj).1 (mem_ins.mp hi).1) fun j _ _ => rfl)
theorem z2_ok {L : List Say} {m k : Nat} {s2 s3 s4 s6 s7 s8 s9 s11 s12 s14 s15 : PV.Slot} {b : Bx} (h : LN L m) (hk : k < L.length) : exS (go 40) y1x2 (LE s2 s3 s4 (.val (rD (rws L))) s6 s7 s8 s9 (.val (nD k)) s11 s12 (.val (natD (near L k))) s14 s15 b) = some (.next, LE s2 s3 s4 (.val (rD (rws L))) s6 s7 s8 s9 (.val (nD k)) s11 s12 (.val (natD (near L k))) (.val (rN (own L k))) s15 b) := by
  have r0 := ixRow (c := go 40) (i := 5) (j := 10) (R := rws L) (ρ := LE s2 s3 s4 (.val (rD (rws L))) s6 s7 s8 s9 (.val (nD k)) s11 s12 (.val (natD (near L k))) s14 s15 b) rfl rfl (by rw [rws_len]; exact hk)
  rw [rw_getD] at r0
  exact asg_ok (i := 14) (tupL (comp_if (c := go 40) (i := 18) (it := .of (.ix (.var 5) (.var 10))) (ρ := LE s2 s3 s4 (.val (rD (rws L))) s6 s7 s8 s9 (.val (nD k)) s11 s12 (.val (natD (near L k))) s14 s15 b) (l := rw' L k) (g := nD) (f := nD) (fun x => !((near L k).any fun j => (rw' L j).contains x)) (of_tup r0) rfl (fun x hx => by
    refine not_any (any_ok (l := near L k) (f := fun j => (rw' L j).contains x) (comp_of (c := go 40) (i := 17) (it := .of (.var 13)) (ρ := (LE s2 s3 s4 (.val (rD (rws L))) s6 s7 s8 s9 (.val (nD k)) s11 s12 (.val (natD (near L k))) s14 s15 b).put 18 (.val (nD x))) (g := nD) (of_lst rfl) rfl fun j hj => ?_))
    have r1 := ixRow (c := go 40) (i := 5) (j := 17) (k := j) (R := rws L) (ρ := ((LE s2 s3 s4 (.val (rD (rws L))) s6 s7 s8 s9 (.val (nD k)) s11 s12 (.val (natD (near L k))) s14 s15 b).put 18 (.val (nD x))).put 17 (.val (nD j))) rfl rfl (by rw [rws_len]; exact near_lt hj)
    rw [rw_getD] at r1
    have e := in_rN (rw' L j) x
    exact op_ok (o := .isin) (x := nD x) (y := rN (rw' L j)) (ρ1 := ((LE s2 s3 s4 (.val (rD (rws L))) s6 s7 s8 s9 (.val (nD k)) s11 s12 (.val (natD (near L k))) s14 s15 b).put 18 (.val (nD x))).put 17 (.val (nD j))) rfl r1 (by show (dIn _ _).map D.bl = _; rw [e]; rfl)) fun x _ _ => rfl))
theorem z3_ok {L : List Say} {m k : Nat} {s2 s3 s5 s6 s7 s8 s9 s11 s12 s14 s15 : PV.Slot} {b : Bx} (h : LN L m) (hk : k < L.length) : exS (go 40) y1x3 (LE s2 s3 (.val (sayT L)) s5 s6 s7 s8 s9 (.val (nD k)) s11 s12 (.val (natD (near L k))) s14 s15 b) = some (.next, LE s2 s3 (.val (sayT L)) s5 s6 s7 s8 s9 (.val (nD k)) s11 s12 (.val (natD (near L k))) s14 (.val (.int (ownN L k))) b) := by
  have r0 := ixMany (c := go 40) (i := 4) (j := 10) (L := L) (ρ := LE s2 s3 (.val (sayT L)) s5 s6 s7 s8 s9 (.val (nD k)) s11 s12 (.val (natD (near L k))) s14 s15 b) rfl rfl hk
  have k1 := sum_ok (c := go 40) (l := near L k) (f := nm L) (comp_of (i := 17) (it := .of (.var 13)) (elt := .ix (.ix (.var 4) (.var 17)) (.kint 1)) (ρ := LE s2 s3 (.val (sayT L)) s5 s6 s7 s8 s9 (.val (nD k)) s11 s12 (.val (natD (near L k))) s14 s15 b) (g := nD) (of_lst rfl) rfl fun j hj => ixMany (c := go 40) (i := 4) (j := 17) (L := L) (ρ := (LE s2 s3 (.val (sayT L)) s5 s6 s7 s8 s9 (.val (nD k)) s11 s12 (.val (natD (near L k))) s14 s15 b).put 17 (.val (nD j))) rfl rfl (near_lt hj))
  exact asg_ok (i := 15) (op_ok (o := .sub) r0 k1 rfl)
theorem tup3 {c : Call} {a e f : E} {x y z : D} {ρ ρ1 ρ2 ρ3 : PV.Env} (h1 : ev c a ρ = some (.v x, ρ1)) (h2 : ev c e ρ1 = some (.v y, ρ2)) (h3 : ev c f ρ2 = some (.v z, ρ3)) : ev c (.tup (.cons a (.cons e (.cons f .nil)))) ρ = some (.v (.tup [x, y, z]), ρ3) := by
  simp (config := { implicitDefEqProofs := false }) only [entry, exs, exS, ev, evs, evO, evIfs, evIt, evT, tstR_some', tru, at_v, at_p, val_v, atL, valL, get_mk, put_mk, ob_some, ob_none, isTy, op2, dIs, leave, bfn, seqOf_lst, seqOf_tup, srcOf_lst, srcOf_tup, setTg1, setTg2, setTg3, and_self, and_true, true_and, newPut, isOwn, List.map_cons, List.map_nil, List.length_cons, List.length_nil, List.cons_append, List.nil_append, List.getD_cons_zero, List.getD_cons_succ, List.set_cons_zero, List.set_cons_succ, List.replicate_succ, List.replicate_zero, Nat.reduceSub, Nat.reduceAdd, Option.map_some, Option.map_none, Option.some_or, beq_self_eq_true, Bool.true_eq_false, Bool.false_eq_true, Bool.not_true, Bool.not_false, Bool.not_eq_true', if_true, if_false, h1, h2, h3, valL]
theorem z4_ok {L : List Say} {m k : Nat} {s2 s3 s5 s6 s7 s8 s9 s11 s12 : PV.Slot} {b : Bx} (h : LN L m) (hk : k < L.length) : exS (go 40) y1x4 (LE s2 s3 (.val (sayT L)) s5 s6 s7 s8 s9 (.val (nD k)) s11 s12 (.val (natD (near L k))) (.val (rN (own L k))) (.val (.int (ownN L k))) b) = some (.next, LE s2 s3 (.val (sayT L)) s5 s6 s7 s8 s9 (.val (nD k)) s11 s12 (.val (natD (near L k))) (.val (rN (own L k))) (.val (.int (ownN L k))) b) := by
  have h6 := h.len
  have c1 := call2b (c := go 40) (f := 3) (a := .var 4) (e := .var 10) (x := sayT L) (y := nD k) (ρ := LE s2 s3 (.val (sayT L)) s5 s6 s7 s8 s9 (.val (nD k)) s11 s12 (.val (natD (near L k))) (.val (rN (own L k))) (.val (.int (ownN L k))) b) rfl rfl (next_within (n := 38) (by omega) hk)
  have c2 := call2b (c := go 40) (f := 4) (a := .var 4) (e := .var 10) (x := sayT L) (y := nD k) (ρ := LE s2 s3 (.val (sayT L)) s5 s6 s7 s8 s9 (.val (nD k)) s11 s12 (.val (natD (near L k))) (.val (rN (own L k))) (.val (.int (ownN L k))) b) rfl rfl (own_books (n := 37) (by omega) hk)
  have c3 := call2b (c := go 40) (f := 5) (a := .var 4) (e := .var 10) (x := sayT L) (y := nD k) (ρ := LE s2 s3 (.val (sayT L)) s5 s6 s7 s8 s9 (.val (nD k)) s11 s12 (.val (natD (near L k))) (.val (rN (own L k))) (.val (.int (ownN L k))) b) rfl rfl (own_many (n := 37) (by omega) hk)
  have l1 : (near L k).length ≤ L.length := by
    have h1 := List.length_filter_le (fun j => !((ins L k).any fun i => insB (rw' L j) (rw' L i))) (ins L k)
    have h2 := List.length_filter_le (fun j => insB (rw' L j) (rw' L k)) (List.range L.length)
    rw [List.length_range] at h2
    exact Nat.le_trans h1 h2
  have l2 : (own L k).length ≤ m := PV.asc_len ((PV.asc_pair _).mpr (own_asc h.nm hk)) (own_low h.nm hk)
  have h8 := h.m8
  have hs := same_go (.tup [rN (near L k), rN (own L k), .int (ownN L k)]) b (by
    have d1 := dep_rN (near L k)
    have d2 := dep_rN (own L k)
    show max (rN (near L k)).dep (max (rN (own L k)).dep (max 0 0)) + 1 < 40
    omega) (by
    show (decide (3 ≤ 1000000) && ((rN (near L k)).sim && ((rN (own L k)).sim && (true && true)))) = true
    rw [simL_rN (by omega), simL_rN (by omega)]; rfl)
  exact ite_no (same_t (tup3 c1 c2 c3) (tup3 (a := .bi .tuple (.cons (.var 13) .nil)) (e := .var 14) (f := .var 15) (tupL (xs := (near L k).map nD) rfl) rfl rfl) hs)
theorem z5_ok {L : List Say} {m k : Nat} {s2 s3 s4 s5 s6 s7 s8 s11 s12 s13 : PV.Slot} {b : Bx} (h : LN L m) (hk : k < L.length) : exS (go 40) y1x5 (LE s2 s3 s4 s5 s6 s7 s8 (.val (natD ((List.range k).filter (badB L)))) (.val (nD k)) s11 s12 s13 (.val (rN (own L k))) (.val (.int (ownN L k))) b) = some (.next, LE s2 s3 s4 s5 s6 s7 s8 (.val (natD ((List.range (k + 1)).filter (badB L)))) (.val (nD k)) s11 s12 s13 (.val (rN (own L k))) (.val (.int (ownN L k))) b) := by
  have h6 := h.len
  have l := lenT (c := go 40) (cc := .var 14) (ρ := LE s2 s3 s4 s5 s6 s7 s8 (.val (natD ((List.range k).filter (badB L)))) (.val (nD k)) s11 s12 s13 (.val (rN (own L k))) (.val (.int (ownN L k))) b) (xs := (own L k).map nD) rfl
  rw [List.length_map] at l
  have t1 := op_ok (c := go 40) (o := .lt) (a := .var 15) (e := .kint 0) (x := .int (ownN L k)) (y := .int 0) (z := .bl (decide (ownN L k < 0))) (ρ := LE s2 s3 s4 s5 s6 s7 s8 (.val (natD ((List.range k).filter (badB L)))) (.val (nD k)) s11 s12 s13 (.val (rN (own L k))) (.val (.int (ownN L k))) b) (ρ1 := LE s2 s3 s4 s5 s6 s7 s8 (.val (natD ((List.range k).filter (badB L)))) (.val (nD k)) s11 s12 s13 (.val (rN (own L k))) (.val (.int (ownN L k))) b) rfl rfl rfl
  have t2 := op_ok (c := go 40) (o := .gt) (a := .var 15) (x := .int (ownN L k)) (z := .bl (decide (((own L k).length : Int) < ownN L k))) (ρ := LE s2 s3 s4 s5 s6 s7 s8 (.val (natD ((List.range k).filter (badB L)))) (.val (nD k)) s11 s12 s13 (.val (rN (own L k))) (.val (.int (ownN L k))) b) (ρ1 := LE s2 s3 s4 s5 s6 s7 s8 (.val (natD ((List.range k).filter (badB L)))) (.val (nD k)) s11 s12 s13 (.val (rN (own L k))) (.val (.int (ownN L k))) b) rfl l rfl
  have t := or_ok t1 fun _ => t2
  have eb : (decide (ownN L k < 0) || decide (((own L k).length : Int) < ownN L k)) = badB L k := by
    unfold badB
    rw [Bool.eq_iff_iff]
    simp only [Bool.or_eq_true, decide_eq_true_eq, Bool.not_eq_true', Bool.and_eq_false_iff, decide_eq_false_iff_not]
    omega
  rw [eb] at t
  have e : ev (go 40) (.ite (.or (.op .lt (.var 15) (.kint 0)) (.op .gt (.var 15) (.bi .len (.cons (.var 14) .nil)))) (.lst (.cons (.var 10) .nil)) (.lst .nil)) (LE s2 s3 s4 s5 s6 s7 s8 (.val (natD ((List.range k).filter (badB L)))) (.val (nD k)) s11 s12 s13 (.val (rN (own L k))) (.val (.int (ownN L k))) b) = some (.v (.lst ((if badB L k then [k] else []).map nD)), LE s2 s3 s4 s5 s6 s7 s8 (.val (natD ((List.range k).filter (badB L)))) (.val (nD k)) s11 s12 s13 (.val (rN (own L k))) (.val (.int (ownN L k))) b) := by
    cases q : badB L k with
    | true => rw [q] at t; exact ite_l t (by simp (config := { implicitDefEqProofs := false }) only [entry, exs, exS, ev, evs, evO, evIfs, evIt, evT, tstR_some', tru, at_v, at_p, val_v, atL, valL, get_mk, put_mk, ob_some, ob_none, isTy, op2, dIs, leave, bfn, seqOf_lst, seqOf_tup, srcOf_lst, srcOf_tup, setTg1, setTg2, setTg3, and_self, and_true, true_and, newPut, isOwn, List.map_cons, List.map_nil, List.length_cons, List.length_nil, List.cons_append, List.nil_append, List.getD_cons_zero, List.getD_cons_succ, List.set_cons_zero, List.set_cons_succ, List.replicate_succ, List.replicate_zero, Nat.reduceSub, Nat.reduceAdd, Option.map_some, Option.map_none, Option.some_or, beq_self_eq_true, Bool.true_eq_false, Bool.false_eq_true, Bool.not_true, Bool.not_false, Bool.not_eq_true', if_true, if_false, valL])
    | false => rw [q] at t; exact ite_r t (by simp (config := { implicitDefEqProofs := false }) only [entry, exs, exS, ev, evs, evO, evIfs, evIt, evT, tstR_some', tru, at_v, at_p, val_v, atL, valL, get_mk, put_mk, ob_some, ob_none, isTy, op2, dIs, leave, bfn, seqOf_lst, seqOf_tup, srcOf_lst, srcOf_tup, setTg1, setTg2, setTg3, and_self, and_true, true_and, newPut, isOwn, List.map_cons, List.map_nil, List.length_cons, List.length_nil, List.cons_append, List.nil_append, List.getD_cons_zero, List.getD_cons_succ, List.set_cons_zero, List.set_cons_succ, List.replicate_succ, List.replicate_zero, Nat.reduceSub, Nat.reduceAdd, Option.map_some, Option.map_none, Option.some_or, beq_self_eq_true, Bool.true_eq_false, Bool.false_eq_true, Bool.not_true, Bool.not_false, Bool.not_eq_true', if_true, if_false, valL])
  have hl := List.length_filter_le (badB L) (List.range k)
  rw [List.length_range] at hl
  have ad := add_vals (c := go 40) (a := .var 9) (xs := ((List.range k).filter (badB L)).map nD) rfl e (by
    rw [List.length_map, List.length_map]
    have : (if badB L k then [k] else []).length ≤ 1 := by split <;> simp
    omega)
  rw [← List.map_append] at ad
  have e2 : (List.range k).filter (badB L) ++ (if badB L k then [k] else []) = (List.range (k + 1)).filter (badB L) := by
    rw [List.range_succ, List.filter_append]
    cases q : badB L k <;> simp [q]
  rw [e2] at ad
  exact asg_ok (i := 9) ad
theorem y1_ok {L : List Say} {m : Nat} {s2 s3 s6 s7 s8 s10 s11 s12 s13 s14 s15 : PV.Slot} {b : Bx} (h : LN L m) (h10 : isOwn s10 = false) (h15 : isOwn s15 = false) : ∃ u10 u12 u13 u14 u15, exS (go 40) y1 (LE s2 s3 (.val (sayT L)) (.val (rD (rws L))) s6 s7 s8 (.val (natD [])) s10 s11 s12 s13 s14 s15 b) = some (.next, LE s2 s3 (.val (sayT L)) (.val (rD (rws L))) s6 s7 s8 (.val (natD ((List.range L.length).filter (badB L)))) u10 s11 u12 u13 u14 u15 b) ∧ isOwn u10 = false ∧ isOwn u15 = false := by
  have h6 := h.len
  have hlen := lenL (c := go 40) (cc := .var 5) (ρ := LE s2 s3 (.val (sayT L)) (.val (rD (rws L))) s6 s7 s8 (.val (natD [])) s10 s11 s12 s13 s14 s15 b) (xs := (rws L).map rN) rfl
  rw [List.length_map, rws_len] at hlen
  obtain ⟨ρ', e, u10, u12, u13, u14, u15, rfl, h3⟩ := for_idx (c := go 40) (vs := [10]) (n := L.length) (g := nD) (w := y1w) (body := y1b) (ρ := LE s2 s3 (.val (sayT L)) (.val (rD (rws L))) s6 s7 s8 (.val (natD [])) s10 s11 s12 s13 s14 s15 b) (ρ1 := LE s2 s3 (.val (sayT L)) (.val (rD (rws L))) s6 s7 s8 (.val (natD [])) s10 s11 s12 s13 s14 s15 b)
    (fun k ρ => ∃ u10 u12 u13 u14 u15, ρ = LE s2 s3 (.val (sayT L)) (.val (rD (rws L))) s6 s7 s8 (.val (natD ((List.range k).filter (badB L)))) u10 s11 u12 u13 u14 u15 b ∧ isOwn u10 = false ∧ isOwn u15 = false) (rng_ok hlen (by omega)) ⟨_, _, _, _, _, rfl, h10, h15⟩ (by
    rintro k hk ρ ⟨u10, u12, u13, u14, u15, rfl, h3⟩
    exact ⟨_, _, rfl, (exs_cons (z0_ok h hk)).trans ((exs_cons (z1_ok h hk)).trans ((exs_cons (z2_ok h hk)).trans ((exs_cons (z3_ok h hk)).trans ((exs_cons (z4_ok h hk)).trans (exs_nx (z5_ok h hk)))))), _, _, _, _, _, rfl, rfl, rfl⟩)
  exact ⟨u10, u12, u13, u14, u15, e, h3⟩
end K21

end
section
set_option Elab.async false
set_option linter.all false
set_option maxRecDepth 100000
set_option maxHeartbeats 4000000
/-! K21j: the lists of the law, turns, the law. -/
namespace K21
open PySem L2 PV K46 K53
def goods (L : List Say) (m : Nat) : List (List Nat) := (sortR (subs0 m)).filter (goodL L)
def bads (L : List Say) : List Nat := (List.range L.length).filter (badB L)
theorem goods_len {L : List Say} {m : Nat} (h : LN L m) : (goods L m).length = many L m := by
  rw [← many_ok h.nm]
  exact ((sortG_perm (subs0 m)).filter (goodL L)).length_eq
def hdN : List Nat → D
  | [] => .non
  | k :: _ => nD k
theorem bads_head {L : List Say} : hdN (bads L) = optK (bad L) := by
  have e : (bads L).head? = bad L := List.head?_filter
  rw [← e]
  cases bads L <;> rfl
theorem bads_nil {L : List Say} : (bads L).isEmpty = (bad L).isNone := by
  have e : (bads L).head? = bad L := List.head?_filter
  rw [← e]
  cases bads L <;> rfl
theorem goods_nil {L : List Say} {m : Nat} (h : LN L m) : (goods L m).isEmpty = (bad L).isSome := by
  have e := goods_len h
  cases q : bad L with
  | none =>
    have := many_pos h.nm q
    cases g : goods L m with
    | nil => rw [g] at e; simp at e; omega
    | cons x xs => rfl
  | some k =>
    have : many L m = 0 := by unfold many; rw [q]; rfl
    rw [this, List.length_eq_zero_iff] at e
    rw [e]; rfl
theorem ltR_tri : ∀ {a b : List Nat}, ltR a b = false → ltR b a = false → a = b
  | [], [], _, _ => rfl
  | [], y :: ys, h, _ => by cases h
  | x :: xs, [], _, h => by cases h
  | x :: xs, y :: ys, h1, h2 => by
    simp only [ltR, Bool.or_eq_false_iff, Bool.and_eq_false_iff, decide_eq_false_iff_not] at h1 h2
    have e : x = y := by omega
    subst e
    rw [ltR_tri (a := xs) (b := ys) (h1.2.resolve_left fun h => h rfl) (h2.2.resolve_left fun h => h rfl)]
theorem goods_head {L : List Say} {m : Nat} (h : LN L m) : headD (goods L m) = lstD L m := by
  unfold lstD
  cases q : bad L with
  | some k =>
    have := goods_nil h
    rw [q] at this
    cases g : goods L m with
    | nil => rfl
    | cons x xs => rw [g] at this; cases this
  | none =>
    have hn := goods_nil h
    rw [q] at hn
    cases g : goods L m with
    | nil => rw [g] at hn; cases hn
    | cons r t =>
      show rN r = rN (fst L m)
      congr 1
      have hr : r ∈ goods L m := by rw [g]; exact List.mem_cons_self
      obtain ⟨h1, h2⟩ := List.mem_filter.mp hr
      obtain ⟨h3, h4⟩ := (mem_subs0 m r).mp (sort_mem.mp h1)
      have hf : fst L m ∈ goods L m := List.mem_filter.mpr ⟨sort_mem.mpr ((mem_subs0 m _).mpr ⟨fst_asc, fst_low⟩), fst_good h.nm q⟩
      have hs : SrtO.Srtd lx (goods L m) := (sortG_srtd lx_swo (subs0 m)).sublist List.filter_sublist
      rw [g] at hf hs
      have e1 := fst_least h.nm q h3 h4 h2
      rcases List.mem_cons.mp hf with e | hf
      · exact e.symm
      · have e2 := (List.pairwise_cons.mp hs).1 _ hf
        rw [lx_ltR] at e2
        exact ltR_tri e1 e2
theorem neN (a b : Nat) : op2 .ne (nD a) (nD b) = some (.bl (!(a == b))) := by
  show (dEq (nD a) (nD b)).map (fun r => D.bl !r) = _
  rw [eq_nats]; rfl
theorem y2_ok {L : List Say} {m : Nat} {s2 s5 s6 s7 s8 s9 s10 s11 s12 s13 s14 s15 : PV.Slot} {b : Bx} (h : LN L m) (h8 : isOwn s8 = false) (h15 : isOwn s15 = false) : exS (go 40) y2 (LE s2 (.val (nD m)) (.val (sayT L)) s5 s6 s7 s8 s9 s10 s11 s12 s13 s14 s15 b) = some (.next, LE s2 (.val (nD m)) (.val (sayT L)) s5 s6 s7 s8 s9 s10 (.val (rD (goods L m))) s12 s13 s14 s15 b) := by
  have hm := h.m8
  have c := call1 (c := go 40) (f := 16) (a := .var 3) (x := nD m) (ρ := LE s2 (.val (nD m)) (.val (sayT L)) s5 s6 s7 s8 s9 s10 s11 s12 s13 s14 s15 b) (ρ1 := LE s2 (.val (nD m)) (.val (sayT L)) s5 s6 s7 s8 s9 s10 s11 s12 s13 s14 s15 b) rfl (law_sets (n := 39) (w := m) (b := b) (by omega))
  refine asg_ok (i := 11) (comp_if (c := go 40) (i := 16) (ρ := LE s2 (.val (nD m)) (.val (sayT L)) s5 s6 s7 s8 s9 s10 s11 s12 s13 s14 s15 b) (l := sortR (subs0 m)) (g := rN) (f := rN) (goodL L) (of_lst c) rfl (fun X _ => ?_) fun X _ _ => rfl)
  have e : goodL L X = !(L.any fun p => !((p.1.filter X.contains).length == p.2)) := (any_not L fun p => (p.1.filter X.contains).length == p.2).symm
  rw [e]
  refine not_any (any_ok (l := L) (f := fun p => !((p.1.filter X.contains).length == p.2)) (compP_of (c := go 40) (i := 8) (j := 15) (it := .of (.var 4)) (ρ := (LE s2 (.val (nD m)) (.val (sayT L)) s5 s6 s7 s8 s9 s10 s11 s12 s13 s14 s15 b).put 16 (.val (rN X))) (l := L) (g1 := fun p => rN p.1) (g2 := fun p => nD p.2) (by decide) (of_tup rfl) h8 h15 fun p _ => ?_))
  have k := lenL (comp_if (c := go 40) (i := 18) (it := .of (.var 8)) (t := .op .isin (.var 18) (.var 16)) (elt := .var 18) (ρ := ((LE s2 (.val (nD m)) (.val (sayT L)) s5 s6 s7 s8 s9 s10 s11 s12 s13 s14 s15 b).put 16 (.val (rN X))).put 8 (.val (rN p.1)) |>.put 15 (.val (nD p.2))) (l := p.1) (g := nD) (f := nD) X.contains (of_tup rfl) rfl (fun x _ => in_put (by show 18 < 20; decide) (by decide) rfl) fun x _ _ => rfl)
  rw [List.length_map] at k
  exact op_ok (o := .ne) (e := .var 15) (y := nD p.2) k rfl (neN _ _)
theorem eq_nilN (r : List Nat) : dEq (.lst (r.map nD)) (.lst []) = some r.isEmpty := by
  show (if (D.lst (r.map nD)).cmpb && (D.lst []).cmpb then some (D.eqvL (r.map nD) []) else none) = _
  rw [if_pos (by rw [cmpb_nats]; rfl)]
  cases r <;> rfl
theorem headN_ok {c : Call} {i : Nat} {r : List Nat} {ρ : PV.Env} (hg : ρ.get i = .val (natD r)) : ev c (.ite (.op .ne (.var i) (.lst .nil)) (.ix (.var i) (.kint 0)) (.knon)) ρ = some (.v (hdN r), ρ) := by
  have t := op_ok (c := c) (o := .ne) (a := .var i) (e := .lst .nil) (x := natD r) (y := .lst []) (z := .bl (!r.isEmpty)) (ρ := ρ) (ρ1 := ρ) (ρ2 := ρ) (by simp only [ev, hg]) (by simp (config := { implicitDefEqProofs := false }) only [entry, exs, exS, ev, evs, evO, evIfs, evIt, evT, tstR_some', tru, at_v, at_p, val_v, atL, valL, get_mk, put_mk, ob_some, ob_none, isTy, op2, dIs, leave, bfn, seqOf_lst, seqOf_tup, srcOf_lst, srcOf_tup, setTg1, setTg2, setTg3, and_self, and_true, true_and, newPut, isOwn, List.map_cons, List.map_nil, List.length_cons, List.length_nil, List.cons_append, List.nil_append, List.getD_cons_zero, List.getD_cons_succ, List.set_cons_zero, List.set_cons_succ, List.replicate_succ, List.replicate_zero, Nat.reduceSub, Nat.reduceAdd, Option.map_some, Option.map_none, Option.some_or, beq_self_eq_true, Bool.true_eq_false, Bool.false_eq_true, Bool.not_true, Bool.not_false, Bool.not_eq_true', if_true, if_false, valL]) (by show (dEq _ _).map (fun r => D.bl !r) = _; rw [eq_nilN]; rfl)
  cases r with
  | nil => exact ite_r t rfl
  | cons k r => exact ite_l t (ix_ok (x := natD (k :: r)) (y := .int 0) (ρ1 := ρ) (ρ2 := ρ) (by simp only [ev, hg]) rfl (by have := atI_mapf (f := nD) (l := k :: r) (k := 0) (by simp); exact this))
theorem y3_ok {L : List Say} {m : Nat} {s2 s5 s6 s7 s8 s10 s12 s13 s14 s15 : PV.Slot} {b : Bx} (h : LN L m) : exS (go 40) y3 (LE s2 (.val (nD m)) (.val (sayT L)) s5 s6 s7 s8 (.val (natD (bads L))) s10 (.val (rD (goods L m))) s12 s13 s14 s15 b) = some (.next, LE s2 (.val (nD m)) (.val (sayT L)) s5 s6 s7 s8 (.val (natD (bads L))) s10 (.val (rD (goods L m))) s12 s13 s14 s15 b) := by
  have hm := h.m8
  have h6 := h.len
  have c1 := call1 (c := go 40) (f := 6) (a := .var 4) (x := sayT L) (ρ := LE s2 (.val (nD m)) (.val (sayT L)) s5 s6 s7 s8 (.val (natD (bads L))) s10 (.val (rD (goods L m))) s12 s13 s14 s15 b) (ρ1 := LE s2 (.val (nD m)) (.val (sayT L)) s5 s6 s7 s8 (.val (natD (bads L))) s10 (.val (rD (goods L m))) s12 s13 s14 s15 b) rfl (bad_saying (n := 36) (b := b) (L := L) (by omega))
  have c2 := call2b (c := go 40) (f := 9) (a := .var 3) (e := .var 4) (x := nD m) (y := sayT L) (ρ := LE s2 (.val (nD m)) (.val (sayT L)) s5 s6 s7 s8 (.val (natD (bads L))) s10 (.val (rD (goods L m))) s12 s13 s14 s15 b) rfl rfl (count_nested (n := 35) (b := b) h.nm (by omega) (by omega))
  have e1 := headN_ok (c := go 40) (i := 9) (r := bads L) (ρ := LE s2 (.val (nD m)) (.val (sayT L)) s5 s6 s7 s8 (.val (natD (bads L))) s10 (.val (rD (goods L m))) s12 s13 s14 s15 b) rfl
  rw [bads_head] at e1
  have e2 := lenL (c := go 40) (cc := .var 11) (ρ := LE s2 (.val (nD m)) (.val (sayT L)) s5 s6 s7 s8 (.val (natD (bads L))) s10 (.val (rD (goods L m))) s12 s13 s14 s15 b) (xs := (goods L m).map rN) rfl
  rw [List.length_map, goods_len h] at e2
  have hs := same_go (.tup [optK (bad L), nD (many L m)]) b (by cases bad L <;> (show max 0 (max 0 0) + 1 < 40; decide)) (by cases bad L <;> rfl)
  have t1 := same_t (tup2 c1 c2) (tup2 e1 e2) hs
  have g1 := op_ok (c := go 40) (o := .eq) (a := .var 11) (e := .lst .nil) (x := rD (goods L m)) (y := .lst []) (z := .bl (goods L m).isEmpty) (ρ := LE s2 (.val (nD m)) (.val (sayT L)) s5 s6 s7 s8 (.val (natD (bads L))) s10 (.val (rD (goods L m))) s12 s13 s14 s15 b) (ρ1 := LE s2 (.val (nD m)) (.val (sayT L)) s5 s6 s7 s8 (.val (natD (bads L))) s10 (.val (rD (goods L m))) s12 s13 s14 s15 b) (ρ2 := LE s2 (.val (nD m)) (.val (sayT L)) s5 s6 s7 s8 (.val (natD (bads L))) s10 (.val (rD (goods L m))) s12 s13 s14 s15 b) rfl (by simp (config := { implicitDefEqProofs := false }) only [entry, exs, exS, ev, evs, evO, evIfs, evIt, evT, tstR_some', tru, at_v, at_p, val_v, atL, valL, get_mk, put_mk, ob_some, ob_none, isTy, op2, dIs, leave, bfn, seqOf_lst, seqOf_tup, srcOf_lst, srcOf_tup, setTg1, setTg2, setTg3, and_self, and_true, true_and, newPut, isOwn, List.map_cons, List.map_nil, List.length_cons, List.length_nil, List.cons_append, List.nil_append, List.getD_cons_zero, List.getD_cons_succ, List.set_cons_zero, List.set_cons_succ, List.replicate_succ, List.replicate_zero, Nat.reduceSub, Nat.reduceAdd, Option.map_some, Option.map_none, Option.some_or, beq_self_eq_true, Bool.true_eq_false, Bool.false_eq_true, Bool.not_true, Bool.not_false, Bool.not_eq_true', if_true, if_false, valL]) (by show (dEq _ _).map D.bl = _; rw [eq_nilR]; rfl)
  have g2 := op_ok (c := go 40) (o := .ne) (a := .var 9) (e := .lst .nil) (x := natD (bads L)) (y := .lst []) (z := .bl (!(bads L).isEmpty)) (ρ := LE s2 (.val (nD m)) (.val (sayT L)) s5 s6 s7 s8 (.val (natD (bads L))) s10 (.val (rD (goods L m))) s12 s13 s14 s15 b) (ρ1 := LE s2 (.val (nD m)) (.val (sayT L)) s5 s6 s7 s8 (.val (natD (bads L))) s10 (.val (rD (goods L m))) s12 s13 s14 s15 b) (ρ2 := LE s2 (.val (nD m)) (.val (sayT L)) s5 s6 s7 s8 (.val (natD (bads L))) s10 (.val (rD (goods L m))) s12 s13 s14 s15 b) rfl (by simp (config := { implicitDefEqProofs := false }) only [entry, exs, exS, ev, evs, evO, evIfs, evIt, evT, tstR_some', tru, at_v, at_p, val_v, atL, valL, get_mk, put_mk, ob_some, ob_none, isTy, op2, dIs, leave, bfn, seqOf_lst, seqOf_tup, srcOf_lst, srcOf_tup, setTg1, setTg2, setTg3, and_self, and_true, true_and, newPut, isOwn, List.map_cons, List.map_nil, List.length_cons, List.length_nil, List.cons_append, List.nil_append, List.getD_cons_zero, List.getD_cons_succ, List.set_cons_zero, List.set_cons_succ, List.replicate_succ, List.replicate_zero, Nat.reduceSub, Nat.reduceAdd, Option.map_some, Option.map_none, Option.some_or, beq_self_eq_true, Bool.true_eq_false, Bool.false_eq_true, Bool.not_true, Bool.not_false, Bool.not_eq_true', if_true, if_false, valL]) (by show (dEq _ _).map (fun r => D.bl !r) = _; rw [eq_nilN]; rfl)
  have t2 := op_ok (o := .ne) (z := .bl false) g1 g2 (by
    rw [goods_nil h, bads_nil]
    cases bad L <;> rfl)
  exact ite_no (or_no t1 t2)
theorem y4_ok {L : List Say} {m : Nat} {s2 s5 s6 s7 s8 s9 s10 s12 s13 s14 s15 : PV.Slot} {b : Bx} (h : LN L m) : exS (go 40) y4 (LE s2 (.val (nD m)) (.val (sayT L)) s5 s6 s7 s8 s9 s10 (.val (rD (goods L m))) s12 s13 s14 s15 b) = some (.next, LE s2 (.val (nD m)) (.val (sayT L)) s5 s6 s7 s8 s9 s10 (.val (rD (goods L m))) s12 s13 s14 s15 b) := by
  have hm := h.m8
  have h6 := h.len
  have c1 := call2b (c := go 40) (f := 7) (a := .var 3) (e := .var 4) (x := nD m) (y := sayT L) (ρ := LE s2 (.val (nD m)) (.val (sayT L)) s5 s6 s7 s8 s9 s10 (.val (rD (goods L m))) s12 s13 s14 s15 b) rfl rfl (nested_list (n := 35) (b := b) h.nm (by omega) (by omega))
  have e1 := head_ok (c := go 40) (i := 11) (R := goods L m) (ρ := LE s2 (.val (nD m)) (.val (sayT L)) s5 s6 s7 s8 s9 s10 (.val (rD (goods L m))) s12 s13 s14 s15 b) rfl
  rw [goods_head h] at e1
  have hl : (fst L m).length ≤ m := PV.asc_len ((PV.asc_pair _).mpr fst_asc) fst_low
  have hs := same_go (lstD L m) b (by
    unfold lstD
    split
    · show 0 < 40; decide
    · have := dep_rN (fst L m); omega) (by
    unfold lstD
    split
    · rfl
    · exact simL_rN (by omega))
  exact ite_no (same_t c1 e1 hs)
theorem yb_ok {L : List Say} {m : Nat} {s2 s6 s7 s8 s9 s10 s11 s12 s13 s14 s15 : PV.Slot} {b : Bx} (h : LN L m) (h8 : isOwn s8 = false) (h10 : isOwn s10 = false) (h15 : isOwn s15 = false) : ∃ u9 u10 u11 u12 u13 u14 u15, exs (go 40) yb (LE s2 (.val (nD m)) (.val (sayT L)) (.val (rD (rws L))) s6 s7 s8 s9 s10 s11 s12 s13 s14 s15 b) = some (.next, LE s2 (.val (nD m)) (.val (sayT L)) (.val (rD (rws L))) s6 s7 s8 u9 u10 u11 u12 u13 u14 u15 b) ∧ isOwn u10 = false ∧ isOwn u15 = false := by
  have e0 : exS (go 40) y0 (LE s2 (.val (nD m)) (.val (sayT L)) (.val (rD (rws L))) s6 s7 s8 s9 s10 s11 s12 s13 s14 s15 b) = some (.next, LE s2 (.val (nD m)) (.val (sayT L)) (.val (rD (rws L))) s6 s7 s8 (.val (natD [])) s10 s11 s12 s13 s14 s15 b) := asg_ok (i := 9) (ρ' := LE s2 (.val (nD m)) (.val (sayT L)) (.val (rD (rws L))) s6 s7 s8 s9 s10 s11 s12 s13 s14 s15 b) (by simp (config := { implicitDefEqProofs := false }) only [entry, exs, exS, ev, evs, evO, evIfs, evIt, evT, tstR_some', tru, at_v, at_p, val_v, atL, valL, get_mk, put_mk, ob_some, ob_none, isTy, op2, dIs, leave, bfn, seqOf_lst, seqOf_tup, srcOf_lst, srcOf_tup, setTg1, setTg2, setTg3, and_self, and_true, true_and, newPut, isOwn, List.map_cons, List.map_nil, List.length_cons, List.length_nil, List.cons_append, List.nil_append, List.getD_cons_zero, List.getD_cons_succ, List.set_cons_zero, List.set_cons_succ, List.replicate_succ, List.replicate_zero, Nat.reduceSub, Nat.reduceAdd, Option.map_some, Option.map_none, Option.some_or, beq_self_eq_true, Bool.true_eq_false, Bool.false_eq_true, Bool.not_true, Bool.not_false, Bool.not_eq_true', if_true, if_false, valL]; rfl)
  unfold yb
  rw [exs_cons (e0)]
  obtain ⟨u10, u12, u13, u14, u15, e1, h10', h15'⟩ := y1_ok (s2 := s2) (s3 := .val (nD m)) (s6 := s6) (s7 := s7) (s8 := s8) (s10 := s10) (s11 := s11) (s12 := s12) (s13 := s13) (s14 := s14) (s15 := s15) (b := b) h h10 h15
  have e1 : exS (go 40) y1 _ = some (.next, LE s2 (.val (nD m)) (.val (sayT L)) (.val (rD (rws L))) s6 s7 s8 (.val (natD (bads L))) u10 s11 u12 u13 u14 u15 b) := e1
  rw [exs_cons e1]
  rw [exs_cons (y2_ok h h8 h15')]
  rw [exs_cons (y3_ok h)]
  exact ⟨_, _, _, _, _, _, _, exs_nx (y4_ok h), h10', h15'⟩
theorem x7_ok {L : List Say} {m : Nat} {s2 s6 s7 s8 s9 s10 s11 s12 s13 s14 s15 : PV.Slot} {b : Bx} (h : Lo L m) (h8 : isOwn s8 = false) (h10 : isOwn s10 = false) (h15 : isOwn s15 = false) : ∃ u9 u10 u11 u12 u13 u14 u15, exS (go 40) q0x7 (LE s2 (.val (nD m)) (.val (sayT L)) (.val (rD (rws L))) s6 s7 s8 s9 s10 s11 s12 s13 s14 s15 b) = some (.next, LE s2 (.val (nD m)) (.val (sayT L)) (.val (rD (rws L))) s6 s7 s8 u9 u10 u11 u12 u13 u14 u15 b) ∧ isOwn u10 = false ∧ isOwn u15 = false := by
  have h6 := h.len
  have a3 := law_are_nested (n := 38) (b := b) (R := rws L) (by rw [rws_len]; omega)
  have t := call1 (c := go 40) (f := 18) (a := .var 5) (x := rD (rws L)) (ρ := LE s2 (.val (nD m)) (.val (sayT L)) (.val (rD (rws L))) s6 s7 s8 s9 s10 s11 s12 s13 s14 s15 b) (ρ1 := LE s2 (.val (nD m)) (.val (sayT L)) (.val (rD (rws L))) s6 s7 s8 s9 s10 s11 s12 s13 s14 s15 b) rfl a3
  rw [y_shape]
  cases q : lwN (rws L) with
  | false =>
    rw [q] at t
    exact ⟨s9, s10, s11, s12, s13, s14, s15, ite_no t, h10, h15⟩
  | true =>
    rw [q] at t
    have hn : LN L m := ⟨h, nest_of (fun p hp => (h.ok p hp).asc) (by rw [pr_lw (rows_rws h.ok)]; exact q)⟩
    obtain ⟨u9, u10, u11, u12, u13, u14, u15, e, h1, h2⟩ := yb_ok (s2 := s2) (s6 := s6) (s7 := s7) (s8 := s8) (s9 := s9) (s10 := s10) (s11 := s11) (s12 := s12) (s13 := s13) (s14 := s14) (s15 := s15) (b := b) hn h8 h10 h15
    exact ⟨u9, u10, u11, u12, u13, u14, u15, ite_go t e, h1, h2⟩
def isLE (ρ : PV.Env) : Prop := ∃ s2 s3 s4 s5 s6 s7 s8 s9 s10 s11 s12 s13 s14 s15 b, ρ = LE s2 s3 s4 s5 s6 s7 s8 s9 s10 s11 s12 s13 s14 s15 b ∧ b.ok ∧ isOwn s8 = false ∧ isOwn s10 = false ∧ isOwn s15 = false
theorem turn_ok {s2 s3 s4 s5 s6 s7 s8 s9 s10 s11 s12 s13 s14 s15 : PV.Slot} {b : Bx} (hb : b.ok) (h8 : isOwn s8 = false) (h10 : isOwn s10 = false) (h15 : isOwn s15 = false) : ∃ ρ', exs (go 40) q0b (LE s2 s3 s4 s5 s6 s7 s8 s9 s10 s11 s12 s13 s14 s15 b) = some (.next, ρ') ∧ isLE ρ' := by
  unfold q0b
  obtain ⟨m, b1, e0, hm0, hm8, hb1⟩ := x0_ok (s2 := s2) (s4 := s4) (s5 := s5) (s6 := s6) (s7 := s7) (s8 := s8) (s9 := s9) (s10 := s10) (s11 := s11) (s12 := s12) (s13 := s13) (s14 := s14) (s15 := s15) hb
  rw [exs_cons e0]
  obtain ⟨L, b2, e1, hL, hb2⟩ := x1_ok (s2 := s2) (s5 := s5) (s6 := s6) (s7 := s7) (s8 := s8) (s9 := s9) (s10 := s10) (s11 := s11) (s12 := s12) (s13 := s13) (s14 := s14) (s15 := s15) hm0 hm8 hb1
  rw [exs_cons e1]
  rw [exs_cons (x2_ok h8 h15)]
  rw [exs_cons (x3_ok hL)]
  rw [exs_cons (x4_ok)]
  obtain ⟨F, u7, u8, b3, e5, hF, hFl, h8', hb3⟩ := x5_ok (s2 := s2) (s4 := .val (sayT L)) (s5 := .val (rD (rws L))) (s7 := s7) (s8 := s8) (s9 := s9) (s10 := s10) (s11 := s11) (s12 := s12) (s13 := s13) (s14 := s14) (s15 := s15) hm0 hm8 h8 h10 hb2
  rw [exs_cons e5]
  rw [exs_cons (x6_ok hF hFl h8' h15)]
  obtain ⟨u9, u10, u11, u12, u13, u14, u15, e7, h10', h15'⟩ := x7_ok (s2 := s2) (s6 := .own (F.map sayD)) (s7 := u7) (s8 := u8) (s9 := s9) (s10 := s10) (s11 := s11) (s12 := s12) (s13 := s13) (s14 := s14) (s15 := s15) (b := b3) hL h8' h10 h15
  rw [exs_cons e7]
  exact ⟨_, rfl, _, _, _, _, _, _, _, _, _, _, _, _, _, _, b3, rfl, hb3, h8', h10', h15'⟩
theorem q0_ok {b : Bx} (hb : b.ok) : ∃ ρ', exS (go 40) q0 (LE .un .un .un .un .un .un .un .un .un .un .un .un .un .un b) = some (.next, ρ') ∧ isLE ρ' := by
  refine for_vals (i := 2) (w := q0w) (body := q0b) (ρ1 := LE .un .un .un .un .un .un .un .un .un .un .un .un .un .un b) (xs := (List.range 5).map nD) isLE (rng_ok (n := 5) rfl (by decide)) ⟨_, _, _, _, _, _, _, _, _, _, _, _, _, _, b, rfl, hb, rfl, rfl, rfl⟩ ?_
  rintro x _ ρ ⟨s2, s3, s4, s5, s6, s7, s8, s9, s10, s11, s12, s13, s14, s15, b, rfl, hb, h8, h10, h15⟩
  exact turn_ok (s2 := .val x) (s3 := s3) (s4 := s4) (s5 := s5) (s6 := s6) (s7 := s7) (s8 := s8) (s9 := s9) (s10 := s10) (s11 := s11) (s12 := s12) (s13 := s13) (s14 := s14) (s15 := s15) hb h8 h10 h15
abbrev LA : List Say := [([0, 1], 1), ([0], 0)]
abbrev LB : List Say := [([0, 1], 1)]
theorem okA : ∀ p ∈ LA, Ok 3 p := by
  intro p hp
  simp only [LA, List.mem_cons, List.not_mem_nil, or_false] at hp
  rcases hp with rfl | rfl
  · exact ⟨by decide, by decide, by decide, by decide⟩
  · exact ⟨by decide, by decide, by decide, by decide⟩
theorem okB : ∀ p ∈ LB, Ok 3 p := by
  intro p hp
  exact okA p (List.mem_cons.mpr (.inl (List.mem_singleton.mp hp)))
theorem nA : NestM LA 3 := ⟨nest_of (fun p hp => (okA p hp).asc) (by decide +kernel), fun k hk x hx => (okA _ (getL hk)).low x hx⟩
theorem nB : NestM LB 3 := ⟨nest_of (fun p hp => (okB p hp).asc) (by decide +kernel), fun k hk x hx => (okB _ (getL hk)).low x hx⟩
theorem eqR (a b : List Nat) : op2 .eq (rN a) (rN b) = some (.bl (decide (a = b))) := by
  show (dEq _ _).map D.bl = _
  rw [eq_rN]; rfl
theorem q1_ok {s2 s3 s4 s5 s6 s7 s8 s9 s10 s11 s12 s13 s14 s15 : PV.Slot} {b : Bx} : exS (go 40) q1 (LE s2 s3 s4 s5 s6 s7 s8 s9 s10 s11 s12 s13 s14 s15 b) = some (.ret (.bl true), LE s2 s3 s4 s5 s6 s7 s8 s9 s10 s11 s12 s13 s14 s15 b) := by
  have a1 := nested_list (n := 35) (b := b) nA (by decide) (by decide)
  have a2 := count_nested (n := 35) (b := b) nB (by decide) (by decide)
  have f1 : bad LA = none := by decide +kernel
  have f2 : fst LA 3 = [1] := by decide +kernel
  have f3 : many LB 3 = 4 := by decide +kernel
  have f4 : lstD LA 3 = rN [1] := by unfold lstD; rw [f1, f2]; rfl
  rw [f4] at a1
  rw [f3] at a2
  have t1 := op_ok (c := go 40) (o := .eq) (e := .tup (.cons (.kint 1) .nil)) (y := rN [1]) (z := .bl true) (ρ2 := LE s2 s3 s4 s5 s6 s7 s8 s9 s10 s11 s12 s13 s14 s15 b) (call2b (c := go 40) (f := 7) (a := .kint 3) (e := .tup (.cons (.tup (.cons (.tup (.cons (.kint 0) (.cons (.kint 1) .nil))) (.cons (.kint 1) .nil))) (.cons (.tup (.cons (.tup (.cons (.kint 0) .nil)) (.cons (.kint 0) .nil))) .nil))) (x := nD 3) (y := sayT LA) (ρ := LE s2 s3 s4 s5 s6 s7 s8 s9 s10 s11 s12 s13 s14 s15 b) rfl (by simp (config := { implicitDefEqProofs := false }) only [entry, exs, exS, ev, evs, evO, evIfs, evIt, evT, tstR_some', tru, at_v, at_p, val_v, atL, valL, get_mk, put_mk, ob_some, ob_none, isTy, op2, dIs, leave, bfn, seqOf_lst, seqOf_tup, srcOf_lst, srcOf_tup, setTg1, setTg2, setTg3, and_self, and_true, true_and, newPut, isOwn, List.map_cons, List.map_nil, List.length_cons, List.length_nil, List.cons_append, List.nil_append, List.getD_cons_zero, List.getD_cons_succ, List.set_cons_zero, List.set_cons_succ, List.replicate_succ, List.replicate_zero, Nat.reduceSub, Nat.reduceAdd, Option.map_some, Option.map_none, Option.some_or, beq_self_eq_true, Bool.true_eq_false, Bool.false_eq_true, Bool.not_true, Bool.not_false, Bool.not_eq_true', if_true, if_false, valL]; rfl) a1) (by simp (config := { implicitDefEqProofs := false }) only [entry, exs, exS, ev, evs, evO, evIfs, evIt, evT, tstR_some', tru, at_v, at_p, val_v, atL, valL, get_mk, put_mk, ob_some, ob_none, isTy, op2, dIs, leave, bfn, seqOf_lst, seqOf_tup, srcOf_lst, srcOf_tup, setTg1, setTg2, setTg3, and_self, and_true, true_and, newPut, isOwn, List.map_cons, List.map_nil, List.length_cons, List.length_nil, List.cons_append, List.nil_append, List.getD_cons_zero, List.getD_cons_succ, List.set_cons_zero, List.set_cons_succ, List.replicate_succ, List.replicate_zero, Nat.reduceSub, Nat.reduceAdd, Option.map_some, Option.map_none, Option.some_or, beq_self_eq_true, Bool.true_eq_false, Bool.false_eq_true, Bool.not_true, Bool.not_false, Bool.not_eq_true', if_true, if_false, valL]; rfl) (eqR [1] [1])
  have t2 := op_ok (c := go 40) (o := .eq) (e := .kint 4) (y := nD 4) (z := .bl true) (ρ2 := LE s2 s3 s4 s5 s6 s7 s8 s9 s10 s11 s12 s13 s14 s15 b) (call2b (c := go 40) (f := 9) (a := .kint 3) (e := .tup (.cons (.tup (.cons (.tup (.cons (.kint 0) (.cons (.kint 1) .nil))) (.cons (.kint 1) .nil))) .nil)) (x := nD 3) (y := sayT LB) (ρ := LE s2 s3 s4 s5 s6 s7 s8 s9 s10 s11 s12 s13 s14 s15 b) rfl (by simp (config := { implicitDefEqProofs := false }) only [entry, exs, exS, ev, evs, evO, evIfs, evIt, evT, tstR_some', tru, at_v, at_p, val_v, atL, valL, get_mk, put_mk, ob_some, ob_none, isTy, op2, dIs, leave, bfn, seqOf_lst, seqOf_tup, srcOf_lst, srcOf_tup, setTg1, setTg2, setTg3, and_self, and_true, true_and, newPut, isOwn, List.map_cons, List.map_nil, List.length_cons, List.length_nil, List.cons_append, List.nil_append, List.getD_cons_zero, List.getD_cons_succ, List.set_cons_zero, List.set_cons_succ, List.replicate_succ, List.replicate_zero, Nat.reduceSub, Nat.reduceAdd, Option.map_some, Option.map_none, Option.some_or, beq_self_eq_true, Bool.true_eq_false, Bool.false_eq_true, Bool.not_true, Bool.not_false, Bool.not_eq_true', if_true, if_false, valL]; rfl) a2) rfl (eqN 4 4)
  exact ret_ok (and_ok t1 fun _ => t2)
theorem holds : Holds := by
  intro b hb
  show ∃ r, exs (go 40) b_law (LE .un .un .un .un .un .un .un .un .un .un .un .un .un .un b) = some (.ret (.bl true), r)
  rw [q_shape]
  obtain ⟨ρ, e, s2, s3, s4, s5, s6, s7, s8, s9, s10, s11, s12, s13, s14, s15, b', rfl, _⟩ := q0_ok hb
  rw [exs_cons e]
  exact ⟨_, exs_ret q1_ok⟩
end K21
theorem PySem.Challenge.cw_booksswapped_k21_whole_nested_sayings_holds : PySem.Challenge.rw_booksswapped_k21_whole_nested_sayings.Holds := by
  exact K21.closed K21.holds

end
