import PyProof.Rows.All
import Wide.All
import OpenK.AllK
import Wide.FinOn
import KE.KStateDown
import Lean
import HandS.Base
import HandS.Call
import HandS.Ends
import HandS.More
import HandS.Words
import HandS.WordsExc
import HandS.Defaults
import HandS.Head0
import HandS.Head1
import HandS.Head2
import HandS.HeadEnd
import HandS.HeadHook1
import HandS.HeadHook2
import PySem.Syntax
import HandS.ForMost
import HandS.TupAny
import HandS.TupLe
import HandS.Wide
import HandS.Deep
import HandS.Style
import HandS.Conv
import HandS.IsInst
import HandS.Zip
import HandS.SortInts
import HandS.Small
import HandS.TupMul
import HandS.Dict
import KE.DataFind
import HandS.Strs
import KE.KTupSum
import KE.DatumOrd
import HandS.SortRule
import KE.GoesEnum
import HandS.Iter
import HandS.SetFor
import HandS.Set
import PySem.Challenge.RW_orderschanged_k15_whole_zigzags
set_option Elab.async false
set_option autoImplicit false
set_option linter.all false
set_option maxRecDepth 100000
set_option maxHeartbeats 4000000
/-! PF: a small language for the pure part of the program, and what it computes (no heap). -/
namespace PF
abbrev Sx := PySem.Str

/-- plain data; cup: the one list of two ints that the law hands about -/
inductive D where
  | non | bl (b : Bool) | int (i : Int) | str (s : Sx) | tup (ds : List D) | lst (ds : List D) | dct (kvs : List (D × D)) | cup | scr (ns : List Int)
  deriving Inhabited

/-- the two ints of the cup, once it is made -/
abbrev Cup := Option (Int × Int)
inductive Res (α : Type) where
  | ok (a : α) (c : Cup) | exc (k : Nat) | no
abbrev M (α : Type) := Cup → Res α
def ret {α : Type} (a : α) : M α := fun c => .ok a c
def no {α : Type} : M α := fun _ => .no
def bnd {α β : Type} (m : M α) (f : α → M β) : M β := fun c => match m c with
  | .ok a c' => f a c'
  | .exc k => .exc k
  | .no => .no
def lift {α : Type} (o : Option α) : M α := fun c => match o with
  | some a => .ok a c
  | none => .no

inductive O2 where
  | add | sub | mul | fdiv | mod | pow | shl | eq | ne | lt | le | gt | ge | isIn | notIn | is | isNot
  deriving DecidableEq
inductive B1 where
  | len | list | tuple | sorted | sum | all | any | max | min | abs | int | isNone
  | isInt | isBool | isTuple | isStr | isList | listR | tupleR | lenSet | sortSet | dict
  deriving DecidableEq
inductive B2 where
  | max | min | index | count
  deriving DecidableEq
/-- a target: names by slot -/
inductive Tg where
  | one (i : Nat) | two (i j : Nat) | three (i j k : Nat) | many (is : List Nat)
  deriving DecidableEq

/-- expressions; nil and cons: lists of them; itR, itE, itZ, itV: what a loop walks (range, enumerate, zip, a value) -/
inductive Ex where
  | cN | cB (b : Bool) | cI (i : Int) | cS (s : Sx)
  | var (i : Nat)
  | nil | cons (a r : Ex)
  | tup (l : Ex) | lst (l : Ex) | dNew
  | op2 (o : O2) (a b : Ex)
  | neg (a : Ex) | not (a : Ex) | and (a b : Ex) | or (a b : Ex) | ite (c a b : Ex)
  | chain (o p : O2) (a b c : Ex)
  | idx (a i : Ex) | dIdx (a i : Ex) | slc (a lo hi : Ex) | rev (a : Ex)
  | b1 (f : B1) (a : Ex) | b2 (f : B2) (a b : Ex)
  | call (f : Nat) (l : Ex) | callB (f : Nat) (l : Ex) | callF (f : Nat) (l : Ex)
  | itR (l : Ex) | itE (a : Ex) | itZ (a b : Ex) | itV (a : Ex)
  | comp (t : Tg) (it c e : Ex)

abbrev Env := List (Option D)

inductive St where
  | skip | seq (a b : St)
  | asg (i : Nat) (e : Ex) | asgO (i : Nat) (e : Ex)
  | asgT (t : Tg) (e : Ex) | par (is : List Nat) (os : List Bool) (l : Ex)
  | frz (i : Nat) | exp (e : Ex)
  | app (i : Nat) (e : Ex) | rem (i : Nat) (e : Ex) | setI (i : Nat) (k e : Ex) | putK (i : Nat) (k e : Ex) | swp (i : Nat) (k k' l : Ex) | setC (i : Nat) (k e : Ex) | popK (t : Tg) (i : Nat) (k : Ex) | popA (j i : Nat) (k : Ex) | pop (t : Tg) (i : Nat)
  | ite (c : Ex) (a b : St)
  | for_ (inv : List Nat) (t : Tg) (it : Ex) (b : St)
  | while_ (inv : List Nat) (c : Ex) (b : St)
  | ret (e : Ex) | retN | brk | raise (k : Nat)
inductive Flow where
  | next (δ : Env) | brk (δ : Env) | ret (d : D)

structure Fn where
  name : Sx
  ps : List Sx
  N : List Sx
  fresh : Bool
  body : St

/-! ### values -/
mutual
def D.eqv : D → D → Bool
  | .non, .non => true
  | .bl a, .bl b => a == b
  | .bl a, .int j => (if a then 1 else 0) == j
  | .int i, .bl b => i == (if b then 1 else 0)
  | .int i, .int j => i == j
  | .str x, .str y => x == y
  | .tup xs, .tup ys => D.eqvL xs ys
  | .lst xs, .lst ys => D.eqvL xs ys
  | _, _ => false
def D.eqvL : List D → List D → Bool
  | [], [] => true
  | x :: xs, y :: ys => D.eqv x y && D.eqvL xs ys
  | _, _ => false
end
mutual
/-- may stand in an == : no dict, not the cup, not too deep -/
def D.good : Nat → D → Bool
  | _, .non => true
  | _, .bl _ => true
  | _, .int _ => true
  | _, .str x => x.cps.toList.all fun k => decide (k < 1114112)
  | n + 1, .tup xs => D.goodL n xs
  | n + 1, .lst xs => D.goodL n xs
  | _, _ => false
def D.goodL : Nat → List D → Bool
  | _, [] => true
  | n, x :: xs => D.good n x && D.goodL n xs
end
mutual
/-- no list, no dict within -/
def D.noL : D → Bool
  | .tup xs => D.noLL xs
  | .lst _ => false
  | .dct _ => false
  | .scr _ => false
  | _ => true
def D.noLL : List D → Bool
  | [] => true
  | x :: xs => D.noL x && D.noLL xs
end
/-- a list of such, or such -/
def D.noL1 : D → Bool
  | .lst xs => D.noLL xs
  | d => D.noL d

def ints? : List D → Option (List Int)
  | [] => some []
  | .int i :: r => match ints? r with
    | some l => some (i :: l)
    | none => none
  | _ :: _ => none
def bools? : List D → Option (List Bool)
  | [] => some []
  | .bl b :: r => match bools? r with
    | some l => some (b :: l)
    | none => none
  | _ :: _ => none
/-- the i-th item, from behind where i is below nought -/
def atD (ds : List D) (i : Int) : Option D := if 0 ≤ i then ds[i.toNat]? else if 0 ≤ i + ds.length then ds[(i + ds.length).toNat]? else none
def clip (n d : Nat) : Option Int → Nat
  | none => d
  | some v => if v < 0 then (v + n).toNat else min v.toNat n
def cut {α : Type} (xs : List α) (lo hi : Option Int) : List α := (xs.take (clip xs.length xs.length hi)).drop (clip xs.length 0 lo)
def insI (a : Int) : List Int → List Int
  | [] => [a]
  | b :: r => if a ≤ b then a :: b :: r else b :: insI a r
def sortI : List Int → List Int
  | [] => []
  | a :: r => insI a (sortI r)
def maxI : Int → List Int → Int
  | m, [] => m
  | m, a :: r => maxI (if m < a then a else m) r
def minI : Int → List Int → Int
  | m, [] => m
  | m, a :: r => minI (if a < m then a else m) r
def lexI : List Int → List Int → Bool
  | [], [] => false
  | [], _ :: _ => true
  | _ :: _, [] => false
  | x :: xs, y :: ys => if x = y then lexI xs ys else decide (x < y)
def mulOk (i j : Int) : Bool := (decide (-(2 ^ 64) < i) && decide (i < 2 ^ 64)) || ((decide (-(2 ^ 64) < j) && decide (j < 2 ^ 64)) || decide (i.natAbs.log2 + j.natAbs.log2 < 1000000))
def szOk (n : Nat) : Bool := Nat.ble n 1000000
def anyEq (x : D) : List D → Bool
  | [] => false
  | y :: r => D.eqv y x || anyEq x r
/-- the first place of x, from k on -/
def findEq (x : D) : Nat → List D → Option Nat
  | _, [] => none
  | k, y :: r => if D.eqv y x then some k else findEq x (k + 1) r
def countEq (x : D) : List D → Nat
  | [] => 0
  | y :: r => if D.eqv y x then countEq x r + 1 else countEq x r
def eqD (x y : D) : Option Bool := if D.good 50 x && D.good 50 y then some (D.eqv x y) else none
/-- a dict by ints -/
def lkD : List (D × D) → Int → Option D
  | [], _ => none
  | (.int j, v) :: r, k => if j = k then some v else lkD r k
  | _ :: r, k => lkD r k
def isK (k : Int) : D → Bool
  | .int j => decide (j = k)
  | _ => false
def putD (kvs : List (D × D)) (k : Int) (v : D) : List (D × D) := if (lkD kvs k).isSome then kvs.map fun p => if isK k p.1 then (p.1, v) else p else kvs ++ [(.int k, v)]
def inD (x y : D) : Option Bool := match y with
  | .dct kvs => match x with
    | .int k => some (lkD kvs k).isSome
    | _ => none
  | .lst ds => if D.good 50 x && D.goodL 50 ds then some (anyEq x ds) else none
  | .tup ds => if D.good 50 x && D.goodL 50 ds then some (anyEq x ds) else none
  | _ => none
def ltD (x y : D) : Option Bool := match x, y with
  | .int i, .int j => some (decide (i < j))
  | .tup xs, .tup ys => match ints? xs, ints? ys with
    | some a, some b => some (lexI a b)
    | _, _ => none
  | _, _ => none
def cmpI (f : Int → Int → Bool) (x y : D) : Option D := match x, y with
  | .int i, .int j => some (.bl (f i j))
  | _, _ => none
def repD (ds : List D) (k : Int) : Option (List D) := if (decide (-1000000 < k) && decide (k < 1000000)) && szOk (ds.length * k.toNat) then some (List.replicate k.toNat ds).flatten else none
def op2D : O2 → D → D → Option D
  | .add, .int i, .int j => some (.int (i + j))
  | .add, .tup xs, .tup ys => if szOk (xs.length + ys.length) then some (.tup (xs ++ ys)) else none
  | .add, .lst xs, .lst ys => if szOk (xs.length + ys.length) then some (.lst (xs ++ ys)) else none
  | .sub, .int i, .int j => some (.int (i - j))
  | .mul, .int i, .int j => if mulOk i j then some (.int (i * j)) else none
  | .mul, .lst xs, .int k => (repD xs k).map .lst
  | .mul, .tup xs, .int k => (repD xs k).map .tup
  | .fdiv, .int i, .int j => if decide (0 < j) && decide (j.natAbs.log2 < 9000) then some (.int (i / j)) else none
  | .mod, .int i, .int j => if 0 < j then some (.int (i % j)) else none
  | .pow, .int i, .int j => if decide (0 ≤ j) && (decide (j ≤ 1000000) && decide (i.natAbs < 2 ^ 64)) then some (.int (i ^ j.toNat)) else none
  | .shl, .int i, .int j => if decide (0 ≤ j) && (decide (j ≤ 1000000) && decide (i.natAbs < 2 ^ 64)) then some (.int (i * 2 ^ j.toNat)) else none
  | .eq, x, y => (eqD x y).map .bl
  | .ne, x, y => (eqD x y).map fun b => .bl (!b)
  | .lt, x, y => (ltD x y).map .bl
  | .le, x, y => cmpI (fun i j => decide (i ≤ j)) x y
  | .gt, x, y => cmpI (fun i j => decide (j < i)) x y
  | .ge, x, y => cmpI (fun i j => decide (j ≤ i)) x y
  | .isIn, x, y => (inD x y).map .bl
  | .notIn, x, y => (inD x y).map fun b => .bl (!b)
  | .is, .bl a, .bl b => some (.bl (a == b))
  | .isNot, .bl a, .bl b => some (.bl (!(a == b)))
  | _, _, _ => none
def isNone : D → Bool
  | .non => true
  | _ => false
def rangeI (a : Int) : Nat → List D
  | 0 => []
  | n + 1 => .int a :: rangeI (a + 1) n
def rangeS (a c : Int) : Nat → List D
  | 0 => []
  | n + 1 => .int a :: rangeS (a + c) c n
def b62 (i : Int) : Bool := decide (-(2 ^ 61) < i) && decide (i < 2 ^ 61)
/-- how many items range(a, b, c) has -/
def rgN (a b c : Int) : Int := if c > 0 then (if a < b then (b - a - 1) / c + 1 else 0) else (if a > b then (a - b - 1) / (-c) + 1 else 0)
/-- range(b), range(a, b), range(a, b, c) -/
def rangeD : List D → Option (List D)
  | [.int b] => if b62 b then some (rangeI 0 b.toNat) else none
  | [.int a, .int b] => if b62 a && b62 b then some (rangeI a (b - a).toNat) else none
  | [.int a, .int b, .int c] => if b62 a && (b62 b && (decide (-1000000 < c) && (decide (c < 1000000) && !decide (c = 0)))) then some (rangeS a c (rgN a b c).toNat) else none
  | _ => none
def enumD : Int → List D → List D
  | _, [] => []
  | i, d :: r => .tup [.int i, d] :: enumD (i + 1) r
def zipD : List D → List D → List D
  | a :: r, b :: s => .tup [a, b] :: zipD r s
  | _, _ => []
def seqD : D → Option (List D)
  | .lst ds => some ds
  | .tup ds => some ds
  | _ => none
def tupI (l : List Int) : D := .tup (l.map .int)
/-- a tuple of ints, not of none -/
def tI? : D → Option (List Int)
  | .tup ds => (match ints? ds with
    | some (a :: l) => some (a :: l)
    | _ => none)
  | _ => none
def tIs? : List D → Option (List (List Int))
  | [] => some []
  | d :: r => match tI? d with
    | some l => (match tIs? r with
      | some m => some (l :: m)
      | none => none)
    | none => none
def insT (a : List Int) : List (List Int) → List (List Int)
  | [] => [a]
  | b :: r => if lexI b a then b :: insT a r else a :: b :: r
def sortT : List (List Int) → List (List Int)
  | [] => []
  | a :: r => insT a (sortT r)
/-- sorted of a list of such -/
def sortedT : D → Option D
  | .lst ds => (match tIs? ds with
    | some l => if szOk l.length then some (.lst ((sortT l).map tupI)) else none
    | none => none)
  | .tup ds => (match tIs? ds with
    | some l => if szOk l.length then some (.lst ((sortT l).map tupI)) else none
    | none => none)
  | _ => none
def sortedI (x : D) : Option D := match seqD x with
  | some ds => (match ints? ds with
    | some l => if szOk l.length then some (.lst ((sortI l).map .int)) else none
    | none => none)
  | none => none
/-- each value once, in the order of the first ones -/
def ddI (acc l : List Int) : List Int := l.foldl (fun acc x => if acc.any (· == x) then acc else acc ++ [x]) acc
/-- pairs of an int and any value -/
def prsK : List D → Option (List (Int × D))
  | [] => some []
  | .tup [.int k, v] :: r => (match prsK r with
    | some l => some ((k, v) :: l)
    | none => none)
  | _ :: _ => none
def mrgD (acc : List (D × D)) (l : List (Int × D)) : List (D × D) := l.foldl (fun acc p => putD acc p.1 p.2) acc
def b1D : B1 → D → Option D
  | .len, .lst ds => some (.int ds.length)
  | .len, .tup ds => some (.int ds.length)
  | .list, .scr ns => some (.lst (ns.map .int))
  | .list, x => (seqD x).map .lst
  | .tuple, x => (seqD x).map .tup
  | .sorted, x => match seqD x with
    | some ds => (match ints? ds with
      | some l => if szOk l.length then some (.lst ((sortI l).map .int)) else none
      | none => sortedT x)
    | none => none
  | .sum, .lst ds => (ints? ds).map fun l => .int l.sum
  | .sum, .tup ds => (ints? ds).map fun l => .int l.sum
  | .all, .lst ds => (bools? ds).map fun l => .bl (l.all id)
  | .any, .lst ds => (bools? ds).map fun l => .bl (l.any id)
  | .max, x => match seqD x with
    | some ds => (match ints? ds with
      | some (a :: l) => some (.int (maxI a l))
      | _ => none)
    | none => none
  | .min, x => match seqD x with
    | some ds => (match ints? ds with
      | some (a :: l) => some (.int (minI a l))
      | _ => none)
    | none => none
  | .abs, .int i => some (.int (if i < 0 then -i else i))
  | .int, .int i => some (.int i)
  | .isNone, x => some (.bl (isNone x))
  | .isInt, x => some (.bl (match x with | .int _ => true | .bl _ => true | _ => false))
  | .isBool, x => some (.bl (match x with | .bl _ => true | _ => false))
  | .isTuple, x => some (.bl (match x with | .tup _ => true | _ => false))
  | .isStr, x => some (.bl (match x with | .str _ => true | _ => false))
  | .isList, x => some (.bl (match x with | .lst _ => true | .cup => true | .scr _ => true | _ => false))
  | .listR, .tup l => match rangeD l with
    | some ds => if szOk ds.length then some (.lst ds) else none
    | none => none
  | .tupleR, .tup l => match rangeD l with
    | some ds => if szOk ds.length then some (.tup ds) else none
    | none => none
  | .lenSet, x => match seqD x with
    | some ds => (match ints? ds with
      | some l => if Nat.ble l.length 4000 then some (.int (ddI [] l).length) else none
      | none => none)
    | none => none
  | .sortSet, .tup ds => (match ints? ds with
    | some l => if Nat.ble l.length 60 then some (.lst ((sortI (ddI [] l)).map .int)) else none
    | none => none)
  | .dict, .lst ds => (match prsK ds with
    | some l => if szOk ds.length then some (.dct (mrgD [] l)) else none
    | none => none)
  | _, _ => none
def b2D : B2 → D → D → Option D
  | .max, .int i, .int j => some (.int (if i < j then j else i))
  | .min, .int i, .int j => some (.int (if j < i then j else i))
  | .index, x, y => match seqD x with
    | some ds => if D.good 50 y && (D.goodL 50 ds && szOk ds.length) then (findEq y 0 ds).map fun k => .int (k : Nat) else none
    | none => none
  | .count, x, y => match seqD x with
    | some ds => if D.good 50 y && (D.goodL 50 ds && szOk ds.length) then some (.int (countEq y ds : Nat)) else none
    | none => none
  | _, _, _ => none
def idxD : D → D → Option D
  | .lst ds, .int i => atD ds i
  | .tup ds, .int i => atD ds i
  | _, _ => none
def idxM (x i : D) : M D := fun c => match x, i, c with
  | .cup, .int k, some p => if k = 0 then .ok (.int p.1) c else if k = 1 then .ok (.int p.2) c else .no
  | x, i, c => match idxD x i with
    | some d => .ok d c
    | none => .no
def part : D → Option (Option Int)
  | .non => some none
  | .int i => some (some i)
  | _ => none
def slcD (x lo hi : D) : Option D := match part lo, part hi with
  | some l, some h => match x with
    | .lst ds => some (.lst (cut ds l h))
    | .tup ds => some (.tup (cut ds l h))
    | _ => none
  | _, _ => none
def revD : D → Option D
  | .lst ds => some (.lst ds.reverse)
  | .tup ds => some (.tup ds.reverse)
  | _ => none

/-! ### what expressions and statements compute -/
def setAll : List Nat → List D → Env → Option Env
  | [], [], δ => some δ
  | i :: is, d :: ds, δ => setAll is ds (δ.set i (some d))
  | _, _, _ => none
def setT : Tg → D → Env → Option Env
  | .one i, d, δ => some (δ.set i (some d))
  | .two i j, .tup [a, b], δ => some ((δ.set i (some a)).set j (some b))
  | .three i j k, .tup [a, b, e], δ => some (((δ.set i (some a)).set j (some b)).set k (some e))
  | .many is, .tup ds, δ => setAll is ds δ
  | _, _, _ => none
def truth {α : Type} (d : D) (a b : M α) : M α := fun c => match d with
  | .bl true => a c
  | .bl false => b c
  | _ => .no
def compM (f : D → M (Option D)) : List D → M (List D)
  | [] => ret []
  | d :: r => bnd (f d) fun o => bnd (compM f r) fun l => ret (match o with
    | some x => x :: l
    | none => l)
def unT (f : List D → M D) (d : D) : M D := match d with
  | .tup l => f l
  | _ => no
section
variable (C : Nat → List D → M D)
def evE : Ex → Env → M D
  | .cN, _ => ret .non
  | .cB b, _ => ret (.bl b)
  | .cI i, _ => ret (.int i)
  | .cS s, _ => ret (.str s)
  | .var i, δ => lift (δ[i]?.getD none)
  | .nil, _ => ret (.tup [])
  | .cons a r, δ => bnd (evE a δ) fun x => bnd (evE r δ) (unT fun l => ret (.tup (x :: l)))
  | .tup l, δ => bnd (evE l δ) (unT fun l => ret (.tup l))
  | .lst l, δ => bnd (evE l δ) (unT fun l => ret (.lst l))
  | .dNew, _ => ret (.dct [])
  | .op2 o a b, δ => bnd (evE a δ) fun x => bnd (evE b δ) fun y => lift (op2D o x y)
  | .neg a, δ => bnd (evE a δ) fun x => match x with
    | .int i => ret (.int (-i))
    | _ => no
  | .not a, δ => bnd (evE a δ) fun x => truth x (ret (.bl false)) (ret (.bl true))
  | .and a b, δ => bnd (evE a δ) fun x => truth x (bnd (evE b δ) fun y => truth y (ret (.bl true)) (ret (.bl false))) (ret (.bl false))
  | .or a b, δ => bnd (evE a δ) fun x => truth x (ret (.bl true)) (bnd (evE b δ) fun y => truth y (ret (.bl true)) (ret (.bl false)))
  | .ite c a b, δ => bnd (evE c δ) fun x => truth x (evE a δ) (evE b δ)
  | .chain o p a b c, δ => bnd (evE a δ) fun x => bnd (evE b δ) fun y => bnd (lift (op2D o x y)) fun t =>
      truth t (bnd (evE c δ) fun z => lift (op2D p y z)) (ret (.bl false))
  | .idx a i, δ => bnd (evE a δ) fun x => bnd (evE i δ) fun k => idxM x k
  | .dIdx a i, δ => bnd (evE a δ) fun x => bnd (evE i δ) fun k => match x, k with
    | .dct kvs, .int n => lift (lkD kvs n)
    | _, _ => no
  | .slc a lo hi, δ => bnd (evE a δ) fun x => bnd (evE lo δ) fun l => bnd (evE hi δ) fun h => lift (slcD x l h)
  | .rev a, δ => bnd (evE a δ) fun x => lift (revD x)
  | .b1 f a, δ => bnd (evE a δ) fun x => lift (b1D f x)
  | .b2 f a b, δ => bnd (evE a δ) fun x => bnd (evE b δ) fun y => lift (b2D f x y)
  | .call f l, δ => bnd (evE l δ) (unT fun ds => C f ds)
  | .callB f l, δ => bnd (evE l δ) (unT fun ds => bnd (C f ds) fun d => if D.noL d then ret d else no)
  | .callF f l, δ => bnd (evE l δ) (unT fun ds => bnd (C f ds) fun d => if D.noL1 d then ret d else no)
  | .itR l, δ => bnd (evE l δ) (unT fun ds => lift ((rangeD ds).map .lst))
  | .itE a, δ => bnd (evE a δ) fun x => lift ((seqD x).map fun ds => .lst (enumD 0 ds))
  | .itZ a b, δ => bnd (evE a δ) fun x => bnd (evE b δ) fun y => match seqD x, seqD y with
    | some xs, some ys => ret (.lst (zipD xs ys))
    | _, _ => no
  | .itV a, δ => bnd (evE a δ) fun x => lift ((seqD x).map .lst)
  | .comp t it c e, δ => bnd (evE it δ) fun x => match x with
    | .lst ds => bnd (compM (fun d => match setT t d δ with
        | some δ' => bnd (evE c δ') fun k => truth k (bnd (evE e δ') fun y => ret (some y)) (ret none)
        | none => no) ds) fun l => if szOk l.length then ret (.lst l) else no
    | _ => no

def forM (f : D → Env → M Flow) : List D → Env → M Flow
  | [], δ => ret (.next δ)
  | d :: r, δ => bnd (f d δ) fun fl => match fl with
    | .next δ' => forM f r δ'
    | .brk δ' => ret (.next δ')
    | .ret v => ret (.ret v)
def whileM (t : Env → M D) (f : Env → M Flow) : Nat → Env → M Flow
  | 0, _ => no
  | n + 1, δ => bnd (t δ) fun b => truth b (bnd (f δ) fun fl => match fl with
    | .next δ' => whileM t f n δ'
    | .brk δ' => ret (.next δ')
    | .ret v => ret (.ret v)) (ret (.next δ))
def wfuel : Nat := 1000000
/-- where a list of one's own is asked, a list has come -/
def okL : List Bool → List D → Bool
  | [], [] => true
  | b :: bs, d :: ds => (match b, d with | true, .lst _ => true | true, .dct _ => true | true, _ => false | false, _ => true) && okL bs ds
  | _, _ => false
def optM {α β : Type} (o : Option α) (f : α → M β) : M β := match o with
  | some a => f a
  | none => no
def lstAt (δ : Env) (i : Nat) : Option (List D) := match δ[i]?.getD none with
  | some (.lst ds) => some ds
  | _ => none
def dctAt (δ : Env) (i : Nat) : Option (List (D × D)) := match δ[i]?.getD none with
  | some (.dct ds) => some ds
  | _ => none
/-- x[k] = d -/
def setD (ds : List D) (k : D) (d : D) : Option (List D) := match k with
  | .int i => if 0 ≤ i then (if i.toNat < ds.length then some (ds.set i.toNat d) else none) else if 0 ≤ i + ds.length then some (ds.set (i + ds.length).toNat d) else none
  | _ => none
/-- x.remove(d), of ints -/
def remD (ds : List D) (d : D) : Option (List D) := match d with
  | .int k => (match ints? ds with
    | some l => if l.idxOf k < l.length then some ((l.eraseIdx (l.idxOf k)).map .int) else none
    | none => none)
  | _ => none
def popAt (ds : List D) (k : D) : Option (D × List D) := match k with
  | .int i => if decide (0 ≤ i) && decide (i < 2 ^ 62) then (match ds[i.toNat]? with
    | some d => some (d, ds.eraseIdx i.toNat)
    | none => none) else none
  | _ => none
def evS : St → Env → M Flow
  | .skip, δ => ret (.next δ)
  | .seq a b, δ => bnd (evS a δ) fun fl => match fl with
    | .next δ' => evS b δ'
    | .brk δ' => ret (.brk δ')
    | .ret d => ret (.ret d)
  | .asg i e, δ => bnd (evE C e δ) fun d => ret (.next (δ.set i (some d)))
  | .asgO i e, δ => bnd (evE C e δ) fun d => match d with
    | .lst ds => ret (.next (δ.set i (some (.lst ds))))
    | .dct ds => ret (.next (δ.set i (some (.dct ds))))
    | _ => no
  | .asgT t e, δ => bnd (evE C e δ) fun d => optM (setT t d δ) fun δ' => ret (.next δ')
  | .par is os l, δ => bnd (evE C l δ) fun d => match d with
    | .tup ds => if okL os ds then optM (setAll is ds δ) fun δ' => ret (.next δ') else no
    | _ => no
  | .frz _, δ => ret (.next δ)
  | .exp e, δ => bnd (evE C e δ) fun _ => ret (.next δ)
  | .app i e, δ => bnd (evE C e δ) fun d => optM (lstAt δ i) fun ds => if szOk ds.length then ret (.next (δ.set i (some (.lst (ds ++ [d]))))) else no
  | .rem i e, δ => bnd (evE C e δ) fun d => optM (lstAt δ i) fun ds => optM (remD ds d) fun es => ret (.next (δ.set i (some (.lst es))))
  | .setI i k e, δ => bnd (evE C e δ) fun d => bnd (evE C k δ) fun kd => optM (lstAt δ i) fun ds => optM (setD ds kd d) fun ds' => ret (.next (δ.set i (some (.lst ds'))))
  | .putK i k e, δ => bnd (evE C e δ) fun d => bnd (evE C k δ) fun kd => optM (dctAt δ i) fun kvs => match kd with
    | .int n => if szOk kvs.length then ret (.next (δ.set i (some (.dct (putD kvs n d))))) else no
    | _ => no
  | .swp i k k' l, δ => bnd (evE C (.tup l) δ) fun d => match d with
    | .tup [d1, d2] => bnd (evE C k δ) fun kd => optM (lstAt δ i) fun ds => optM (setD ds kd d1) fun es => bnd (evE C k' (δ.set i (some (.lst es)))) fun kd' => optM (setD es kd' d2) fun fs => ret (.next ((δ.set i (some (.lst es))).set i (some (.lst fs))))
    | _ => no
  | .setC i k e, δ => bnd (evE C e δ) fun d => bnd (evE C k δ) fun kd => fun c => match δ[i]?.getD none, kd, d, c with
    | some .cup, .int k, .int v, some p => if k = 0 then .ok (.next δ) (some (v, p.2)) else if k = 1 then .ok (.next δ) (some (p.1, v)) else .no
    | _, _, _, _ => .no
  | .popK t i k, δ => bnd (evE C k δ) fun kd => optM (lstAt δ i) fun ds => optM (popAt ds kd) fun r => optM (setT t r.1 (δ.set i (some (.lst r.2)))) fun δ' => ret (.next δ')
  | .popA j i k, δ => bnd (evE C k δ) fun kd => optM (lstAt δ i) fun ds => optM (popAt ds kd) fun r => optM (lstAt δ j) fun es =>
      if szOk es.length then ret (.next ((δ.set i (some (.lst r.2))).set j (some (.lst (es ++ [r.1]))))) else no
  | .pop t i, δ => optM (lstAt δ i) fun ds => optM ds.getLast? fun d => optM (setT t d (δ.set i (some (.lst ds.dropLast)))) fun δ' => ret (.next δ')
  | .ite c a b, δ => bnd (evE C c δ) fun x => truth x (evS a δ) (evS b δ)
  | .for_ _ t it b, δ => bnd (evE C it δ) fun x => match x with
    | .lst ds => forM (fun d δ => optM (setT t d δ) fun δ' => evS b δ') ds δ
    | _ => no
  | .while_ _ c b, δ => whileM (fun δ => evE C c δ) (fun δ => evS b δ) wfuel δ
  | .ret e, δ => bnd (evE C e δ) fun d => ret (.ret d)
  | .retN, _ => ret (.ret .non)
  | .brk, δ => ret (.brk δ)
  | .raise k, _ => fun _ => .exc k
/-- a def's body at its arguments -/
def runF (f : Fn) (ds : List D) : M D := if ds.length = f.ps.length then
    bnd (evS C f.body (ds.map some ++ List.replicate (f.N.length - ds.length) none)) fun fl => match fl with
      | .ret d => ret d
      | .next _ => ret .non
      | .brk _ => no
  else no
end
/-- the cup that a script makes: its first int alone counts -/
def cupOf (ns : List Int) : Int × Int :=
  let n := ns.headD 0
  let cell := if n < 0 then -n else n
  (if 10 ^ 18 ≤ cell then cell / 73 else 0, (cell * 283 + 3907) % 2077503167 + 167)
/-- the f-th def, n calls deep; the 0th makes the cup -/
def callN (Φ : Nat → Option Fn) : Nat → Nat → List D → M D
  | 0, _, _ => no
  | _ + 1, 0, [.scr ns] => fun c => match c with
    | none => if szOk (ns.length + 1) then .ok .cup (some (cupOf ns)) else .no
    | some _ => .no
  | n + 1, f, ds => match Φ f with
    | some fn => runF (callN Φ n) fn ds
    | none => no
end PF

/-! PF0s: lists of ints in order -/
namespace PF
theorem lexI_cons (x y : Int) (xs ys : List Int) : lexI (x :: xs) (y :: ys) = if x = y then lexI xs ys else decide (x < y) := rfl
theorem lexI_asym : ∀ x y : List Int, lexI x y = true → lexI y x = false
  | [], [], h => by cases h
  | [], _ :: _, _ => rfl
  | _ :: _, [], h => by cases h
  | a :: x, b :: y, h => by
    rw [lexI_cons] at h ⊢
    by_cases e : a = b
    · rw [if_pos e] at h
      rw [if_pos e.symm]
      exact lexI_asym x y h
    · rw [if_neg e] at h
      rw [if_neg (fun z => e z.symm)]
      have := of_decide_eq_true h
      exact decide_eq_false (by omega)
theorem lexI_tr : ∀ x y z : List Int, lexI y x = false → lexI z y = false → lexI z x = false
  | [], _, [], _, _ => rfl
  | [], _, _ :: _, _, _ => rfl
  | _ :: _, [], _, h, _ => by cases h
  | _ :: _, _ :: _, [], _, h => by cases h
  | a :: x, b :: y, c :: z, h1, h2 => by
    rw [lexI_cons] at h1 h2 ⊢
    by_cases e1 : b = a
    · rw [if_pos e1] at h1
      subst e1
      by_cases e2 : c = b
      · rw [if_pos e2] at h2 ⊢
        exact lexI_tr x y z h1 h2
      · rw [if_neg e2] at h2 ⊢
        exact h2
    · rw [if_neg e1] at h1
      have := of_decide_eq_false h1
      by_cases e2 : c = b
      · subst e2
        rw [if_neg e1]
        exact h1
      · rw [if_neg e2] at h2
        have := of_decide_eq_false h2
        rw [if_neg (by omega)]
        exact decide_eq_false (by omega)
theorem lexI_eq : ∀ x y : List Int, lexI x y = false → lexI y x = false → x = y
  | [], [], _, _ => rfl
  | [], _ :: _, h, _ => by cases h
  | _ :: _, [], _, h => by cases h
  | a :: x, b :: y, h1, h2 => by
    rw [lexI_cons] at h1 h2
    by_cases e : a = b
    · rw [if_pos e] at h1
      rw [if_pos e.symm] at h2
      rw [e, lexI_eq x y h1 h2]
    · rw [if_neg e] at h1
      rw [if_neg (fun z => e z.symm)] at h2
      have := of_decide_eq_false h1
      have := of_decide_eq_false h2
      omega
theorem insT_perm (a : List Int) : ∀ l, (insT a l).Perm (a :: l)
  | [] => .refl _
  | b :: r => by
    unfold insT
    split
    · exact (List.Perm.cons b (insT_perm a r)).trans (List.Perm.swap a b r)
    · exact .refl _
theorem sortT_perm : ∀ l, (sortT l).Perm l
  | [] => .refl _
  | a :: r => (insT_perm a _).trans (List.Perm.cons a (sortT_perm r))
theorem insT_sorted {a : List Int} : ∀ {l}, l.Pairwise (fun x y => lexI y x = false) → (insT a l).Pairwise (fun x y => lexI y x = false)
  | [], _ => List.pairwise_singleton _ _
  | b :: r, h => by
    obtain ⟨h1, h2⟩ := List.pairwise_cons.mp h
    unfold insT
    split
    · rename_i q
      refine List.pairwise_cons.mpr ⟨fun x hx => ?_, insT_sorted h2⟩
      rcases List.mem_cons.mp ((insT_perm a r).mem_iff.mp hx) with e | hx
      · rw [e]
        exact lexI_asym _ _ q
      · exact h1 x hx
    · rename_i q
      have q : lexI b a = false := by
        cases z : lexI b a
        · rfl
        · exact absurd z q
      refine List.pairwise_cons.mpr ⟨fun x hx => ?_, h⟩
      rcases List.mem_cons.mp hx with e | hx
      · rw [e]
        exact q
      · exact lexI_tr _ _ _ q (h1 x hx)
theorem sortT_sorted : ∀ l, (sortT l).Pairwise (fun x y => lexI y x = false)
  | [] => .nil
  | a :: r => insT_sorted (sortT_sorted r)
theorem sortedT_eq : ∀ {l m : List (List Int)}, l.Perm m → l.Pairwise (fun x y => lexI y x = false) → m.Pairwise (fun x y => lexI y x = false) → l = m
  | [], m, h, _, _ => h.nil_eq
  | a :: l, [], h, _, _ => absurd h.length_eq (by simp)
  | a :: l, b :: m, h, h1, h2 => by
    obtain ⟨p1, q1⟩ := List.pairwise_cons.mp h1
    obtain ⟨p2, q2⟩ := List.pairwise_cons.mp h2
    have x1 : lexI b a = false := by
      rcases List.mem_cons.mp (h.symm.mem_iff.mp (List.mem_cons_self (a := b) (l := m))) with e | e
      · rw [e]
        cases z : lexI a a
        · rfl
        · rw [lexI_asym a a z] at z; cases z
      · exact p1 b e
    have x2 : lexI a b = false := by
      rcases List.mem_cons.mp (h.mem_iff.mp (List.mem_cons_self (a := a) (l := l))) with e | e
      · rw [e]
        cases z : lexI b b
        · rfl
        · rw [lexI_asym b b z] at z; cases z
      · exact p2 a e
    have e := lexI_eq a b x2 x1
    subst e
    rw [sortedT_eq h.cons_inv q1 q2]
theorem sortT_of {l m : List (List Int)} (h : l.Perm m) (hs : m.Pairwise (fun x y => lexI y x = false)) : sortT l = m := sortedT_eq ((sortT_perm l).trans h) (sortT_sorted l) hs
end PF

namespace PF
open PySem PySem.Spec L2
abbrev Fg := PySem.W.Frag
abbrev HV := L2.V

/-- a tuple, and it has no dict of its own -/
def SqN (K : Fg) (H : Hp) (a : Addr) (xs : List HV) : Prop :=
  (∃ o, H a = some (.frz o (.tup xs)) ∧ o.dict = none) ∨
    ∃ (o : Obj) (its : Array Value) (n : Nat), K.lookup a = some o ∧ o.cls = .type "tuple" ∧ o.dict = none ∧ o.data = .seq its n ∧ its.size ≤ sizeLine ∧ Vals xs its.toList
theorem SqN.sqT {K : Fg} {H : Hp} {a : Addr} {xs : List HV} (h : SqN K H a xs) : SqT K H a xs := by
  rcases h with ⟨o, h, _⟩ | ⟨o, its, n, h1, h2, _, h3, h4, h5⟩
  · exact .inl (.inr ⟨o, h⟩)
  · exact .inr ⟨o, its, n, h1, h2, h3, h4, h5⟩
theorem Same.sqN {K : Fg} {H H' : Hp} {a : Addr} {xs : List HV} (e : Same H H') (h : SqN K H a xs) : SqN K H' a xs := by
  rcases h with ⟨o, h, d⟩ | h
  · exact .inl ⟨o, e _ _ h, d⟩
  · exact .inr h
/-- a key -/
def kD : Key → D
  | .inl i => .int i
  | .inr x => .str x
mutual
/-- d is what stands at v, in the part G of the heap that nobody changes; c: where the cup lies -/
inductive Rep (K : Fg) (G : Hp) (c : Option Addr) : HV → D → Prop
  | non : Rep K G c .non .non
  | bl (b : Bool) : Rep K G c (.bl b) (.bl b)
  | int (i : Int) : Rep K G c (.int i) (.int i)
  | str (x : Sx) : Rep K G c (.str x) (.str x)
  | cup {a : Addr} : c = some a → Rep K G c (.ref a) .cup
  | scr {a : Addr} {ns : List Int} : SqL K G a (ns.map V.int) → Rep K G c (.ref a) (.scr ns)
  | lst {a : Addr} {xs : List HV} {ds : List D} : G a = some (.lst xs) → RepL K G c xs ds → Rep K G c (.ref a) (.lst ds)
  | tup {a : Addr} {xs : List HV} {ds : List D} : SqN K G a xs → RepL K G c xs ds → Rep K G c (.ref a) (.tup ds)
  | dct {a : Addr} {ks : List (Key × HV)} {kvs : List (D × D)} : G a = some (.dK ks) → RepL K G c (ks.map Prod.snd) (kvs.map Prod.snd) → kvs.map Prod.fst = ks.map (fun p => kD p.1) → Rep K G c (.ref a) (.dct kvs)
inductive RepL (K : Fg) (G : Hp) (c : Option Addr) : List HV → List D → Prop
  | nil : RepL K G c [] []
  | cons {v : HV} {vs : List HV} {d : D} {ds : List D} : Rep K G c v d → RepL K G c vs ds → RepL K G c (v :: vs) (d :: ds)
end

theorem Same.sqT {K : Fg} {H H' : Hp} {a : Addr} {xs : List HV} (e : Same H H') (h : SqT K H a xs) : SqT K H' a xs := by
  rcases h with (h | ⟨o, h⟩) | h
  · exact .inl (.inl (e _ _ h))
  · exact .inl (.inr ⟨o, e _ _ h⟩)
  · exact .inr h
section
variable {K : Fg} {G G' : Hp} {c : Option Addr}
mutual
theorem Rep.mono (e : Same G G') : ∀ {v : HV} {d : D}, Rep K G c v d → Rep K G' c v d
  | _, _, .non => .non
  | _, _, .bl b => .bl b
  | _, _, .int i => .int i
  | _, _, .str x => .str x
  | _, _, .cup h => .cup h
  | _, _, .scr h => .scr (e.seq h)
  | _, _, .lst h r => .lst (e _ _ h) (RepL.mono e r)
  | _, _, .tup h r => .tup (Same.sqN e h) (RepL.mono e r)
  | _, _, .dct h r q => .dct (e _ _ h) (RepL.mono e r) q
theorem RepL.mono (e : Same G G') : ∀ {vs : List HV} {ds : List D}, RepL K G c vs ds → RepL K G' c vs ds
  | _, _, .nil => .nil
  | _, _, .cons h r => .cons (Rep.mono e h) (RepL.mono e r)
end
end

/-- the cup is made at most once -/
def CLe (c c' : Option Addr) : Prop := c' = c ∨ c = none
section
variable {K : Fg} {G : Hp} {c c' : Option Addr}
mutual
theorem Rep.cle (e : CLe c c') : ∀ {v : HV} {d : D}, Rep K G c v d → Rep K G c' v d
  | _, _, .non => .non
  | _, _, .bl b => .bl b
  | _, _, .int i => .int i
  | _, _, .str x => .str x
  | _, _, .cup h => .cup (by
      rcases e with e | e
      · rw [e]; exact h
      · rw [e] at h; cases h)
  | _, _, .scr h => .scr h
  | _, _, .lst h r => .lst h (RepL.cle e r)
  | _, _, .tup h r => .tup h (RepL.cle e r)
  | _, _, .dct h r q => .dct h (RepL.cle e r) q
theorem RepL.cle (e : CLe c c') : ∀ {vs : List HV} {ds : List D}, RepL K G c vs ds → RepL K G c' vs ds
  | _, _, .nil => .nil
  | _, _, .cons h r => .cons (Rep.cle e h) (RepL.cle e r)
end
end

namespace RepL
variable {K : Fg} {G : Hp} {c : Option Addr}
theorem length : ∀ {vs : List HV} {ds : List D}, RepL K G c vs ds → vs.length = ds.length
  | _, _, .nil => rfl
  | _, _, .cons _ r => congrArg Nat.succ r.length
theorem append : ∀ {vs us : List HV} {ds es : List D}, RepL K G c vs ds → RepL K G c us es → RepL K G c (vs ++ us) (ds ++ es)
  | _, _, _, _, .nil, s => s
  | _, _, _, _, .cons h r, s => .cons h (r.append s)
theorem take : ∀ (n : Nat) {vs : List HV} {ds : List D}, RepL K G c vs ds → RepL K G c (vs.take n) (ds.take n)
  | 0, _, _, _ => .nil
  | _ + 1, _, _, .nil => .nil
  | n + 1, _, _, .cons h r => .cons h (r.take n)
theorem drop : ∀ (n : Nat) {vs : List HV} {ds : List D}, RepL K G c vs ds → RepL K G c (vs.drop n) (ds.drop n)
  | 0, _, _, r => r
  | _ + 1, _, _, .nil => .nil
  | n + 1, _, _, .cons _ r => r.drop n
theorem get : ∀ {n : Nat} {vs : List HV} {ds : List D} {d : D}, RepL K G c vs ds → ds[n]? = some d → ∃ v, vs[n]? = some v ∧ Rep K G c v d
  | _, _, _, _, .nil, e => by simp at e
  | 0, _, _, _, .cons h _, e => by
    simp at e
    subst e
    exact ⟨_, rfl, h⟩
  | n + 1, _, _, _, .cons _ r, e => by
    obtain ⟨v, e1, e2⟩ := r.get (n := n) (by simpa using e)
    exact ⟨v, by simpa using e1, e2⟩
theorem getV : ∀ {n : Nat} {vs : List HV} {ds : List D} {v : HV}, RepL K G c vs ds → vs[n]? = some v → ∃ d, ds[n]? = some d ∧ Rep K G c v d
  | _, _, _, _, .nil, e => by simp at e
  | 0, _, _, _, .cons h _, e => by
    simp at e
    subst e
    exact ⟨_, rfl, h⟩
  | n + 1, _, _, _, .cons _ r, e => by
    obtain ⟨v, e1, e2⟩ := r.getV (n := n) (by simpa using e)
    exact ⟨v, by simpa using e1, e2⟩
theorem reverse {vs : List HV} {ds : List D} (r : RepL K G c vs ds) : RepL K G c vs.reverse ds.reverse := by
  induction ds generalizing vs with
  | nil => cases r; exact .nil
  | cons d ds ih =>
    cases r with
    | cons h r =>
      rw [List.reverse_cons, List.reverse_cons]
      exact (ih r).append (.cons h .nil)
theorem set {v : HV} {d : D} (h : Rep K G c v d) : ∀ (n : Nat) {vs : List HV} {ds : List D}, RepL K G c vs ds → RepL K G c (vs.set n v) (ds.set n d)
  | _, _, _, .nil => .nil
  | 0, _, _, .cons _ r => .cons h r
  | n + 1, _, _, .cons q r => .cons q (RepL.set h n r)
theorem eraseIdx : ∀ (n : Nat) {vs : List HV} {ds : List D}, RepL K G c vs ds → RepL K G c (vs.eraseIdx n) (ds.eraseIdx n)
  | _, _, _, .nil => .nil
  | 0, _, _, .cons _ r => r
  | n + 1, _, _, .cons q r => .cons q (RepL.eraseIdx n r)
theorem dropLast {vs : List HV} {ds : List D} (r : RepL K G c vs ds) : RepL K G c vs.dropLast ds.dropLast := by
  rw [List.dropLast_eq_take, List.dropLast_eq_take, r.length]
  exact r.take _
theorem rep {vs : List HV} {ds : List D} (r : RepL K G c vs ds) : ∀ k : Nat, RepL K G c (List.replicate k vs).flatten (List.replicate k ds).flatten
  | 0 => .nil
  | k + 1 => by
    rw [List.replicate_succ, List.replicate_succ, List.flatten_cons, List.flatten_cons]
    exact r.append (r.rep k)
theorem toInts : ∀ {vs : List HV} {ds : List D} {l : List Int}, RepL K G c vs ds → ints? ds = some l → vs = l.map V.int
  | _, _, _, .nil, e => by
    cases e
    rfl
  | _, _, l, .cons (d := d) (ds := ds) h r, e => by
    cases h with
    | int i =>
      have e' : (match ints? ds with | some l => some (i :: l) | none => none) = some l := e
      cases q : ints? ds with
      | none => rw [q] at e'; cases e'
      | some l' =>
        rw [q] at e'
        cases e'
        rw [r.toInts q]
        rfl
    | _ => cases e
theorem toBls : ∀ {vs : List HV} {ds : List D} {l : List Bool}, RepL K G c vs ds → bools? ds = some l → vs = l.map V.bl
  | _, _, _, .nil, e => by
    cases e
    rfl
  | _, _, l, .cons (d := d) (ds := ds) h r, e => by
    cases h with
    | bl i =>
      have e' : (match bools? ds with | some l => some (i :: l) | none => none) = some l := e
      cases q : bools? ds with
      | none => rw [q] at e'; cases e'
      | some l' =>
        rw [q] at e'
        cases e'
        rw [r.toBls q]
        rfl
    | _ => cases e
theorem of_ints : ∀ (l : List Int), RepL K G c (l.map V.int) (l.map D.int)
  | [] => .nil
  | i :: r => .cons (.int i) (of_ints r)
theorem of_range : ∀ (n : Nat) (a : Int), RepL K G c ((List.range n).map fun k : Nat => V.int (a + (k : Int))) (rangeI a n)
  | 0, _ => .nil
  | n + 1, a => by
    rw [List.range_succ_eq_map, List.map_cons, List.map_map]
    have e : (List.range n).map ((fun k : Nat => V.int (a + (k : Int))) ∘ Nat.succ) = (List.range n).map fun k : Nat => V.int ((a + 1) + (k : Int)) := by
      refine List.map_congr_left fun k _ => ?_
      show V.int (a + ((k + 1 : Nat) : Int)) = V.int (a + 1 + (k : Int))
      congr 1
      omega
    rw [e]
    refine .cons ?_ (of_range n (a + 1))
    have e0 : a + ((0 : Nat) : Int) = a := by omega
    rw [e0]
    exact .int a
end RepL

/-- what an object of one's own is -/
inductive OO (K : Fg) (G : Hp) (c : Option Addr) : HO → D → Prop
  | lst {xs : List HV} {ds : List D} : RepL K G c xs ds → OO K G c (.lst xs) (.lst ds)
  | dct {ks : List (Key × HV)} {kvs : List (D × D)} : RepL K G c (ks.map Prod.snd) (kvs.map Prod.snd) → kvs.map Prod.fst = ks.map (fun p => kD p.1) → OO K G c (.dK ks) (.dct kvs)
theorem OO.mono {K : Fg} {G G' : Hp} {c : Option Addr} {o : HO} {d : D} (h : OO K G c o d) (e : Same G G') : OO K G' c o d := by
  cases h with
  | lst r => exact .lst (r.mono e)
  | dct r q => exact .dct (r.mono e) q
theorem OO.cle {K : Fg} {G : Hp} {c c' : Option Addr} {o : HO} {d : D} (h : OO K G c o d) (e : CLe c c') : OO K G c' o d := by
  cases h with
  | lst r => exact .lst (r.cle e)
  | dct r q => exact .dct (r.cle e) q
theorem OO.rep {K : Fg} {G : Hp} {c : Option Addr} {o : HO} {d : D} {p : Addr} (h : OO K G c o d) (e : G p = some o) : Rep K G c (.ref p) d := by
  cases h with
  | lst r => exact .lst e r
  | dct r q => exact .dct e r q
theorem OO.isLst {K : Fg} {G : Hp} {c : Option Addr} {o : HO} {ds : List D} (h : OO K G c o (.lst ds)) : ∃ xs, o = .lst xs ∧ RepL K G c xs ds := by
  cases h with
  | lst r => exact ⟨_, rfl, r⟩
theorem OO.isDct {K : Fg} {G : Hp} {c : Option Addr} {o : HO} {kvs : List (D × D)} (h : OO K G c o (.dct kvs)) : ∃ ks, o = .dK ks ∧ RepL K G c (ks.map Prod.snd) (kvs.map Prod.snd) ∧ kvs.map Prod.fst = ks.map (fun p => kD p.1) := by
  cases h with
  | dct r q => exact ⟨_, rfl, r, q⟩
/-- a value that may be read: as Rep, or a list of one's own -/
inductive Sh (K : Fg) (G H : Hp) (c : Option Addr) : HV → D → Prop
  | rep {v : HV} {d : D} : Rep K G c v d → Sh K G H c v d
  | own {p : Addr} {o : HO} {d : D} : G p = none → H p = some o → OO K G c o d → c ≠ some p → Sh K G H c (.ref p) d
inductive ShL (K : Fg) (G H : Hp) (c : Option Addr) : List HV → List D → Prop
  | nil : ShL K G H c [] []
  | cons {v : HV} {vs : List HV} {d : D} {ds : List D} : Sh K G H c v d → ShL K G H c vs ds → ShL K G H c (v :: vs) (d :: ds)
theorem Sh.seqL {K : Fg} {G H : Hp} {c : Option Addr} {v : HV} {ds : List D} (e : Same G H) (h : Sh K G H c v (.lst ds)) : ∃ p xs, v = .ref p ∧ H p = some (.lst xs) ∧ RepL K G c xs ds := by
  cases h with
  | rep r =>
    cases r with
    | lst a b => exact ⟨_, _, rfl, e _ _ a, b⟩
  | own a b d _ =>
    obtain ⟨xs, rfl, r⟩ := d.isLst
    exact ⟨_, _, rfl, b, r⟩
theorem Sh.seqT {K : Fg} {G H : Hp} {c : Option Addr} {v : HV} {ds : List D} (e : Same G H) (h : Sh K G H c v (.tup ds)) : ∃ p xs, v = .ref p ∧ SqT K H p xs ∧ RepL K G c xs ds := by
  cases h with
  | rep r =>
    cases r with
    | tup a b => exact ⟨_, _, rfl, Same.sqT e a.sqT, b⟩
  | own _ _ q _ => cases q
theorem Sh.seq {K : Fg} {G H : Hp} {c : Option Addr} {v : HV} {d : D} {ds : List D} (e : Same G H) (h : Sh K G H c v d) (q : seqD d = some ds) : ∃ p xs, v = .ref p ∧ (SqL K H p xs ∨ SqT K H p xs) ∧ RepL K G c xs ds := by
  cases d with
  | lst es =>
    cases q
    obtain ⟨p, xs, e1, e2, e3⟩ := h.seqL e
    exact ⟨p, xs, e1, .inl (SqL.of e2), e3⟩
  | tup es =>
    cases q
    obtain ⟨p, xs, e1, e2, e3⟩ := h.seqT e
    exact ⟨p, xs, e1, .inr e2, e3⟩
  | _ => cases q
theorem Sh.int {K : Fg} {G H : Hp} {c : Option Addr} {v : HV} {i : Int} (h : Sh K G H c v (.int i)) : v = .int i := by
  cases h with
  | rep r => cases r; rfl
  | own _ _ q _ => cases q
theorem Sh.bl {K : Fg} {G H : Hp} {c : Option Addr} {v : HV} {i : Bool} (h : Sh K G H c v (.bl i)) : v = .bl i := by
  cases h with
  | rep r => cases r; rfl
  | own _ _ q _ => cases q
theorem Sh.non {K : Fg} {G H : Hp} {c : Option Addr} {v : HV} (h : Sh K G H c v .non) : v = .non := by
  cases h with
  | rep r => cases r; rfl
  | own _ _ q _ => cases q

theorem Sh.repT {K : Fg} {G H : Hp} {c : Option Addr} {v : HV} {ds : List D} (h : Sh K G H c v (.tup ds)) : Rep K G c v (.tup ds) := by
  cases h with
  | rep r => exact r
  | own _ _ q _ => cases q
/-- the cup, as it lies -/
def CupOk (c : Option Addr) (cup : Cup) (G H : Hp) : Prop := match c, cup with
  | none, none => True
  | some a, some p => G a = none ∧ H a = some (.lst [.int p.1, .int p.2])
  | _, _ => False
/-- what an expression may do to the heap -/
structure Ext (c : Option Addr) (G H : Hp) (c' : Option Addr) (cup' : Cup) (G' H' : Hp) : Prop where
  g : Same G G'
  h : Same G' H'
  k : ∀ b o, H b = some o → c ≠ some b → H' b = some o
  f : ∀ b, H b ≠ none → G' b = G b
  m : c' = c ∨ (c = none ∧ ∀ b, c' = some b → H b = none)
  cup : CupOk c' cup' G' H'
theorem CupOk.at {a : Addr} {cup : Cup} {G H : Hp} (h : CupOk (some a) cup G H) : ∃ p, cup = some p ∧ G a = none ∧ H a = some (.lst [.int p.1, .int p.2]) := by
  cases cup with
  | none => exact h.elim
  | some p => exact ⟨p, rfl, h⟩
theorem Ext.cle {c : Option Addr} {G H : Hp} {c' : Option Addr} {cup' : Cup} {G' H' : Hp} (e : Ext c G H c' cup' G' H') : CLe c c' := by
  rcases e.m with e | ⟨e, _⟩
  · exact .inl e
  · exact .inr e
theorem Ext.there {c : Option Addr} {G H : Hp} {c' : Option Addr} {cup' : Cup} {G' H' : Hp} (e : Ext c G H c' cup' G' H') {b : Addr} (h : H b ≠ none) : H' b ≠ none := by
  cases q : H b with
  | none => exact absurd q h
  | some o =>
    by_cases hc : c = some b
    · have hc' : c' = some b := by
        rcases e.m with m | ⟨m, _⟩
        · rw [m, hc]
        · rw [m] at hc; cases hc
      have hk := e.cup
      rw [hc'] at hk
      obtain ⟨p, _, _, z⟩ := hk.at
      rw [z]
      exact fun y => by cases y
    · rw [e.k b o q hc]
      exact fun y => by cases y
theorem Ext.refl {c : Option Addr} {cup : Cup} {G H : Hp} (s : Same G H) (k : CupOk c cup G H) : Ext c G H c cup G H :=
  ⟨fun _ _ e => e, s, fun _ _ e _ => e, fun _ _ => rfl, .inl rfl, k⟩
theorem Ext.trans {c c1 c2 : Option Addr} {k1 k2 : Cup} {G H G1 H1 G2 H2 : Hp} (a : Ext c G H c1 k1 G1 H1) (b : Ext c1 G1 H1 c2 k2 G2 H2) : Ext c G H c2 k2 G2 H2 where
  g := fun x o e => b.g x o (a.g x o e)
  h := b.h
  k := fun x o e hc => by
    refine b.k x o (a.k x o e hc) fun q => ?_
    rcases a.m with m | ⟨m, n⟩
    · exact hc (m ▸ q)
    · have := n x q
      rw [e] at this; cases this
  f := fun x hx => (b.f x (a.there hx)).trans (a.f x hx)
  m := by
    rcases a.m with m | ⟨m, n⟩
    · subst m
      rcases b.m with m2 | ⟨m2, n2⟩
      · exact .inl m2
      · refine .inr ⟨m2, fun x q => ?_⟩
        cases z : H x with
        | none => rfl
        | some o => exact absurd (n2 x q) (a.there (by rw [z]; exact fun y => by cases y))
    · rcases b.m with m2 | ⟨m2, n2⟩
      · exact .inr ⟨m, fun x q => n x (m2 ▸ q)⟩
      · refine .inr ⟨m, fun x q => ?_⟩
        cases z : H x with
        | none => rfl
        | some o => exact absurd (n2 x q) (a.there (by rw [z]; exact fun y => by cases y))
  cup := b.cup
theorem Sh.ext {K : Fg} {c c' : Option Addr} {G H G' H' : Hp} {cup' : Cup} (e : Ext c G H c' cup' G' H') {v : HV} {d : D} (h : Sh K G H c v d) : Sh K G' H' c' v d := by
  cases h with
  | rep r => exact .rep ((r.mono e.g).cle e.cle)
  | own a b r n =>
    have hb : H _ ≠ none := fun z => by rw [b] at z; cases z
    refine .own ((e.f _ hb).trans a) (e.k _ _ b n) ((r.mono e.g).cle e.cle) fun q => ?_
    rcases e.m with m | ⟨_, m⟩
    · exact n (m ▸ q)
    · exact hb (m _ q)
theorem ShL.ext {K : Fg} {c c' : Option Addr} {G H G' H' : Hp} {cup' : Cup} (e : Ext c G H c' cup' G' H') : ∀ {vs : List HV} {ds : List D}, ShL K G H c vs ds → ShL K G' H' c' vs ds
  | _, _, .nil => .nil
  | _, _, .cons h r => .cons (h.ext e) (ShL.ext e r)

/-- neither a list nor a dict -/
def nolst : D → Bool
  | .lst _ => false
  | .dct _ => false
  | _ => true
/-- what an operation by values leaves: nothing new, a new tuple, a new list -/
inductive PR (K : Fg) (G H : Hp) (c : Option Addr) : HV → Hp → D → Prop
  | old {v : HV} {d : D} : nolst d = true → Rep K G c v d → PR K G H c v H d
  | tup {p : Addr} {xs : List HV} {ds : List D} {o : Obj} : H p = none → o.dict = none → RepL K G c xs ds → PR K G H c (.ref p) (upd H p (.frz o (.tup xs))) (.tup ds)
  | lst {p : Addr} {xs : List HV} {ds : List D} : H p = none → RepL K G c xs ds → PR K G H c (.ref p) (upd H p (.lst xs)) (.lst ds)
/-- a new list is nobody else's -/
def NewR (K : Fg) (H : Hp) (c' : Option Addr) (G' H' : Hp) (v : HV) : D → Prop
  | .lst ds => ∃ p o, v = .ref p ∧ H p = none ∧ G' p = none ∧ H' p = some o ∧ OO K G' c' o (.lst ds) ∧ c' ≠ some p
  | .dct ds => ∃ p o, v = .ref p ∧ H p = none ∧ G' p = none ∧ H' p = some o ∧ OO K G' c' o (.dct ds) ∧ c' ≠ some p
  | d => Rep K G' c' v d
theorem NewR.of_OO {K : Fg} {H G' H' : Hp} {c' : Option Addr} {p : Addr} {o : HO} {d : D} (h : H p = none) (g : G' p = none) (h' : H' p = some o) (r : OO K G' c' o d) (nc : c' ≠ some p) : NewR K H c' G' H' (.ref p) d := by
  cases r with
  | lst r => exact ⟨p, _, rfl, h, g, h', .lst r, nc⟩
  | dct r q => exact ⟨p, _, rfl, h, g, h', .dct r q, nc⟩
theorem upd_same_of {G H : Hp} {p : Addr} {o : HO} (e : Same G H) (h : H p = none) : Same G (upd H p o) := fun b x q => by
  have z : H b = some x := e b x q
  rw [upd_ne (ne_of_none z h)]
  exact z
theorem free_of {G H : Hp} {p : Addr} (e : Same G H) (h : H p = none) : G p = none := e.free h
theorem CupOk.upd {c : Option Addr} {cup : Cup} {G H : Hp} {p : Addr} {o : HO} (k : CupOk c cup G H) (h : H p = none) : CupOk c cup G (L2.upd H p o) := by
  cases c with
  | none => cases cup <;> exact k
  | some a =>
    obtain ⟨q, rfl, h1, h2⟩ := k.at
    exact ⟨h1, by rw [upd_ne (ne_of_none h2 h)]; exact h2⟩
theorem CupOk.updG {c : Option Addr} {cup : Cup} {G H : Hp} {p : Addr} {o : HO} (k : CupOk c cup G H) (h : c ≠ some p) : CupOk c cup (L2.upd G p o) H := by
  cases c with
  | none => cases cup <;> exact k
  | some a =>
    obtain ⟨q, rfl, h1, h2⟩ := k.at
    exact ⟨by rw [upd_ne (fun e => h (by rw [e]))]; exact h1, h2⟩
theorem CupOk.ne {c : Option Addr} {cup : Cup} {G H : Hp} {p : Addr} (k : CupOk c cup G H) (h : H p = none) : c ≠ some p := fun e => by
  subst e
  obtain ⟨q, _, _, h2⟩ := k.at
  rw [h] at h2; cases h2
/-- a new object that is at once everybody's -/
theorem Ext.laid {c : Option Addr} {cup : Cup} {G H : Hp} {p : Addr} {o : HO} (s : Same G H) (k : CupOk c cup G H) (h : H p = none) : Ext c G H c cup (upd G p o) (upd H p o) where
  g := same_upd' (free_of s h)
  h := fun b x q => by
    by_cases e : b = p
    · subst e
      rw [upd_same] at q ⊢
      exact q
    · rw [upd_ne e] at q ⊢
      exact s b x q
  k := fun b x q _ => by rw [upd_ne (ne_of_none q h)]; exact q
  f := fun b q => upd_ne (fun e => q (e ▸ h))
  m := .inl rfl
  cup := (k.upd h).updG (k.ne h)
where same_upd' {G : Hp} {p : Addr} {o : HO} (h : G p = none) : Same G (upd G p o) := fun b x q => by rw [upd_ne (ne_of_none q h)]; exact q
/-- a new object of one's own -/
theorem Ext.mine {c : Option Addr} {cup : Cup} {G H : Hp} {p : Addr} {o : HO} (s : Same G H) (k : CupOk c cup G H) (h : H p = none) : Ext c G H c cup G (upd H p o) where
  g := fun _ _ q => q
  h := upd_same_of s h
  k := fun b x q _ => by rw [upd_ne (ne_of_none q h)]; exact q
  f := fun _ _ => rfl
  m := .inl rfl
  cup := k.upd h
theorem PR.new {K : Fg} {G H : Hp} {c : Option Addr} {cup : Cup} {v : HV} {H' : Hp} {d : D} (r : PR K G H c v H' d) (s : Same G H) (k : CupOk c cup G H) : ∃ G', Ext c G H c cup G' H' ∧ NewR K H c G' H' v d := by
  cases r with
  | old n r =>
    refine ⟨G, Ext.refl s k, ?_⟩
    cases d with
    | lst _ => cases n
    | dct _ => cases n
    | _ => exact r
  | tup h hd r =>
    refine ⟨_, Ext.laid (o := .frz _ (.tup _)) s k h, ?_⟩
    exact .tup (.inl ⟨_, upd_same, hd⟩) (r.mono (Ext.laid (o := .frz _ (.tup _)) s k h).g)
  | lst h r => exact ⟨G, Ext.mine s k h, _, _, rfl, h, free_of s h, upd_same, .lst r, k.ne h⟩
/-- what is one's own is given to everybody -/
theorem NewR.give {K : Fg} {c c' : Option Addr} {cup' : Cup} {G H G' H' : Hp} {v : HV} {d : D} (e : Ext c G H c' cup' G' H') (n : NewR K H c' G' H' v d) : ∃ G2, Ext c G H c' cup' G2 H' ∧ Rep K G2 c' v d := by
  have key : ∀ (p : Addr) (o : HO), H p = none → G' p = none → H' p = some o → OO K G' c' o d → c' ≠ some p → ∃ G2, Ext c G H c' cup' G2 H' ∧ Rep K G2 c' (.ref p) d := by
    intro p o h g h' r nc
    have sg : Same G' (upd G' p o) := fun b x q => by rw [upd_ne (ne_of_none q g)]; exact q
    refine ⟨upd G' p o, ⟨fun b x q => sg b x (e.g b x q), fun b x q => ?_, e.k, fun b q => ?_, e.m, e.cup.updG nc⟩, (r.mono sg).rep upd_same⟩
    · by_cases z : b = p
      · subst z
        rw [upd_same] at q
        cases q
        exact h'
      · rw [upd_ne z] at q
        exact e.h b x q
    · rw [upd_ne (fun z : b = p => q (by rw [z]; exact h))]
      exact e.f b q
  cases d with
  | lst ds =>
    obtain ⟨p, o, rfl, h, g, h', r, nc⟩ := n
    exact key p o h g h' r nc
  | dct ds =>
    obtain ⟨p, o, rfl, h, g, h', r, nc⟩ := n
    exact key p o h g h' r nc
  | _ => exact ⟨G', e, n⟩
theorem NewR.sh {K : Fg} {c c' : Option Addr} {cup' : Cup} {G H G' H' : Hp} {v : HV} {d : D} (e : Ext c G H c' cup' G' H') (n : NewR K H c' G' H' v d) : Sh K G' H' c' v d := by
  cases d with
  | lst ds =>
    obtain ⟨p, o, rfl, h, g, h', r, nc⟩ := n
    exact .own g h' r nc
  | dct ds =>
    obtain ⟨p, o, rfl, h, g, h', r, nc⟩ := n
    exact .own g h' r nc
  | _ => exact .rep n
/-- a new tuple, as it is laid -/
abbrev ntO (its : List Value) : Obj := { cls := .type "tuple", data := .seq its.toArray }
theorem laidT {X : Cx} {pins : List (Addr × Obj)} {σ : L2.St} {H : Hp} {s : Shared} {h' : Heap} {t' : Nat} {xs : List HV} {its : List Value} (I : L2.Inv X pins σ H s) (k : ∀ b u, s.heap.get? b = some u → h'.get? b = some u)
    (hz : xs.length ≤ sizeLine) (r : Vals xs its) : L2.Inv X pins σ (upd H h'.objs.size (.frz (ntO its) (.tup xs))) { s with heap := h'.push (ntO its), toks := t' } :=
  (I.kept (t' := s.toks) k).laid (t' := t') (o := .frz (ntO its) (.tup xs)) (fun b ob q => Heap.get?_push_of_some _ q) (Nat.le_refl _)
    (show ObjOk X.prog X.w _ _ _ (.frz (ntO its) (.tup xs)) from ⟨Heap.get?_push_size _ rfl, hz, its, r, PyProof.Rows.IsTup.new _ _⟩)
end PF

namespace PF
open PySem PySem.Spec L2
theorem sz_of {n : Nat} (h : szOk n = true) : n ≤ sizeLine := by
  have : n ≤ 1000000 := Nat.le_of_ble_eq_true h
  rw [sizeLine_eq]
  omega
theorem sz_lt {n : Nat} (h : szOk n = true) : n < sizeLine := by
  have : n ≤ 1000000 := Nat.le_of_ble_eq_true h
  rw [sizeLine_eq]
  omega
theorem map_some {α β : Type} {f : α → β} {o : Option α} {b : β} (h : o.map f = some b) : ∃ a, o = some a ∧ f a = b := by
  cases o with
  | none => cases h
  | some a => exact ⟨a, rfl, Option.some.inj h⟩
theorem tupMul1 (l : Addr) (ws : Array Value) (n : Nat) (dd : Option Addr) (sl : Array (Option Value)) (x : Int) (u : Tok) (h0 : (decide (x < -(2 ^ 63)) || decide (x ≥ 2 ^ 63)) = false) (h1 : (ws.isEmpty || x == 1) = true) :
    Meets (Builtin.«tuple.__mul__» ⟨[.ref l, .int x u], []⟩) (fun _ R z => z.heap.get? l = some { cls := .type "tuple", dict := dd, data := .seq ws n, slots := sl } ∧ R (.ok (.ret (Value.ref l))) z) :=
  .of_wp fun prog w A R z h => by
    obtain ⟨hp', g', d', tk', os'⟩ := z
    obtain ⟨hl, h⟩ := h
    have f1 := AutoSeq1.idx_int
    wp_walk using wpAny_loadPart' hl
    repeat (first
      | (refine wpAny_ite_false (decide_eq_false (fun z => by rw [h0] at z; cases z)) ?_; wp_walk using wpAny_loadPart' hl)
      | (refine wpAny_ite_true (decide_eq_true h1) ?_; wp_walk using wpAny_loadPart' hl))
    all_goals exact ⟨_, rfl, h⟩
theorem tupMul0 (l : Addr) (ws : Array Value) (n : Nat) (dd : Option Addr) (sl : Array (Option Value)) (x : Int) (u : Tok) (h0 : (decide (x < -(2 ^ 63)) || decide (x ≥ 2 ^ 63)) = false) (h1 : (ws.isEmpty || x == 1) = false) (h2 : (decide (x ≤ 0) || ws.isEmpty) = true) :
    Meets (Builtin.«tuple.__mul__» ⟨[.ref l, .int x u], []⟩) (fun _ R z => z.heap.get? l = some { cls := .type "tuple", dict := dd, data := .seq ws n, slots := sl } ∧
      R (.ok (.ret (Value.ref z.heap.objs.size))) { z with heap := z.heap.push { cls := Value.type "tuple", data := Data.seq #[] }, toks := z.toks }) :=
  .of_wp fun prog w A R z h => by
    obtain ⟨hp', g', d', tk', os'⟩ := z
    obtain ⟨hl, h⟩ := h
    have f1 := AutoSeq1.idx_int
    wp_walk using wpAny_loadPart' hl
    repeat (first
      | (refine wpAny_ite_false (decide_eq_false (fun z => by rw [h0] at z; cases z)) ?_; wp_walk using wpAny_loadPart' hl)
      | (refine wpAny_ite_false (decide_eq_false (fun z => by rw [h1] at z; cases z)) ?_; wp_walk using wpAny_loadPart' hl)
      | (refine wpAny_ite_true (decide_eq_true h2) ?_; wp_walk using wpAny_loadPart' hl))
    all_goals exact ⟨_, rfl, h⟩
/-- an operation of two values -/
def rBin (K : Fg) (f : D → D → Option D) : R2 := fun x y H Q => ∃ G c dx dy d, Same G H ∧ Sh K G H c x dx ∧ Sh K G H c y dy ∧ f dx dy = some d ∧ ∀ v H', PR K G H c v H' d → Q v H'
section
variable {X : Cx}
/-- t + u, the new tuple known -/
def rCatN (K : Fg) : R2 := fun x y H Q => ∃ a b xs ys, x = .ref a ∧ y = .ref b ∧ SqT K H a xs ∧ SqT K H b ys ∧ xs.length + ys.length ≤ sizeLine ∧
  (xs = [] → Q (.ref b) H) ∧ (xs ≠ [] → ys = [] → Q (.ref a) H) ∧ (xs ≠ [] → ys ≠ [] → ∀ p o, o.dict = none → H p = none → Q (.ref p) (upd H p (.frz o (.tup (xs ++ ys)))))
theorem op_catN : OpR X (binaryOp .Add) (rCatN X.K) := by
  intro pins s σ H x y v u Q I rx ry h
  obtain ⟨a, b, xs, ys, rfl, rfl, ha, hb, hz, q0, q1, q2⟩ := h
  cases rx
  cases ry
  obtain ⟨its, r1, p1, _⟩ := I.tuple ha
  obtain ⟨its2, r2, p2, _⟩ := I.tuple hb
  by_cases hx : xs = []
  · subst hx
    cases r1
    exact L2.cat_tup0 p1 p2 ⟨.ref b, H, I, rfl, q0 rfl⟩
  · refine HT.cat_tup p1 p2 (fun z => hx (r1.nil_iff.mp z)) (fun z => ⟨.ref a, H, I, rfl, q1 hx (r2.nil_iff.mp z)⟩) (fun z => ?_) (by rw [← r1.length, ← r2.length]; exact hz)
    exact ⟨.ref s.heap.objs.size, _, laidT (h' := s.heap) (t' := s.toks) I (fun _ _ q => q) (by rw [List.length_append]; exact hz) (r1.append r2), rfl, q2 hx (fun w => z (r2.nil_iff.mpr w)) _ _ rfl (I.hok.fresh (Nat.le_refl _))⟩
theorem ok_add : OpR X (binaryOp .Add) (rBin X.K (op2D .add)) := by
  intro pins s σ H x y v u Q I rx ry ⟨G, c, dx, dy, d, hs, hx, hy, hf, q⟩
  cases dx <;> cases dy <;> first | cases hf; done | skip
  case int.int i j =>
    cases hf
    rw [hx.int] at rx
    rw [hy.int] at ry
    exact op_add pins s σ H _ _ v u Q I rx ry ⟨i, j, rfl, rfl, q _ _ (.old rfl (.int _))⟩
  case lst.lst ds es =>
    obtain ⟨p, xs, rfl, h1, r1⟩ := hx.seqL hs
    obtain ⟨p2, ys, rfl, h2, r2⟩ := hy.seqL hs
    have e : (if szOk (ds.length + es.length) then some (D.lst (ds ++ es)) else none) = some d := hf
    split at e
    · rename_i hz
      cases e
      exact op_cat pins s σ H _ _ v u Q I rx ry ⟨p, p2, xs, ys, rfl, rfl, h1, h2, by rw [r1.length, r2.length]; exact sz_of hz, fun p hp => q _ _ (.lst hp (r1.append r2))⟩
    · cases e
  case tup.tup ds es =>
    have ry2 : Rep X.K G c y (.tup es) := hy.repT
    have rx2 : Rep X.K G c x (.tup ds) := hx.repT
    obtain ⟨p, xs, rfl, h1, r1⟩ := hx.seqT hs
    obtain ⟨p2, ys, rfl, h2, r2⟩ := hy.seqT hs
    have e : (if szOk (ds.length + es.length) then some (D.tup (ds ++ es)) else none) = some d := hf
    split at e
    · rename_i hz
      cases e
      refine op_catN pins s σ H _ _ v u Q I rx ry ⟨p, p2, xs, ys, rfl, rfl, h1, h2, by rw [r1.length, r2.length]; exact sz_of hz, fun e => ?_, fun _ e => ?_, fun _ _ p o ho hp => q _ _ (.tup hp ho (r1.append r2))⟩
      · subst e
        cases r1
        exact q _ _ (.old rfl ry2)
      · subst e
        cases r2
        rw [List.append_nil] at q
        exact q _ _ (.old rfl rx2)
    · cases e
theorem ok_sub : OpR X (binaryOp .Sub) (rBin X.K (op2D .sub)) := by
  intro pins s σ H x y v u Q I rx ry ⟨G, c, dx, dy, d, hs, hx, hy, hf, q⟩
  cases dx <;> cases dy <;> first | cases hf; done | skip
  case int.int i j =>
    cases hf
    rw [hx.int] at rx
    rw [hy.int] at ry
    exact op_sub pins s σ H _ _ v u Q I rx ry ⟨i, j, rfl, rfl, q _ _ (.old rfl (.int _))⟩
theorem ok_fdiv : OpR X (binaryOp .FloorDiv) (rBin X.K (op2D .fdiv)) := by
  intro pins s σ H x y v u Q I rx ry ⟨G, c, dx, dy, d, hs, hx, hy, hf, q⟩
  cases dx <;> cases dy <;> first | cases hf; done | skip
  case int.int i j =>
    have e : (if (decide (0 < j) && decide (j.natAbs.log2 < 9000)) = true then some (D.int (i / j)) else none) = some d := hf
    split at e
    · rename_i hc
      cases e
      rw [Bool.and_eq_true, decide_eq_true_eq, decide_eq_true_eq] at hc
      rw [hx.int] at rx
      rw [hy.int] at ry
      exact op_fdivW pins s σ H _ _ v u Q I rx ry ⟨i, j, rfl, rfl, hc, q _ _ (.old rfl (.int _))⟩
    · cases e
theorem ok_mod : OpR X (binaryOp .Mod) (rBin X.K (op2D .mod)) := by
  intro pins s σ H x y v u Q I rx ry ⟨G, c, dx, dy, d, hs, hx, hy, hf, q⟩
  cases dx <;> cases dy <;> first | cases hf; done | skip
  case int.int i j =>
    have e : (if 0 < j then some (D.int (i % j)) else none) = some d := hf
    split at e
    · rename_i hc
      cases e
      rw [hx.int] at rx
      rw [hy.int] at ry
      exact op_mod pins s σ H _ _ v u Q I rx ry ⟨i, j, rfl, rfl, hc, q _ _ (.old rfl (.int _))⟩
    · cases e
theorem ok_pow : OpR X (binaryOp .Pow) (rBin X.K (op2D .pow)) := by
  intro pins s σ H x y v u Q I rx ry ⟨G, c, dx, dy, d, hs, hx, hy, hf, q⟩
  cases dx <;> cases dy <;> first | cases hf; done | skip
  case int.int i j =>
    have e : (if (decide (0 ≤ j) && (decide (j ≤ 1000000) && decide (i.natAbs < 2 ^ 64))) = true then some (D.int (i ^ j.toNat)) else none) = some d := hf
    split at e
    · rename_i hc
      cases e
      simp only [Bool.and_eq_true, decide_eq_true_eq] at hc
      rw [hx.int] at rx
      rw [hy.int] at ry
      exact op_pow pins s σ H _ _ v u Q I rx ry ⟨i, j, rfl, rfl, ⟨hc.1, hc.2.1, hc.2.2⟩, q _ _ (.old rfl (.int _))⟩
    · cases e
theorem ok_shl : OpR X (binaryOp .LShift) (rBin X.K (op2D .shl)) := by
  intro pins s σ H x y v u Q I rx ry ⟨G, c, dx, dy, d, hs, hx, hy, hf, q⟩
  cases dx <;> cases dy <;> first | cases hf; done | skip
  case int.int i j =>
    have e : (if (decide (0 ≤ j) && (decide (j ≤ 1000000) && decide (i.natAbs < 2 ^ 64))) = true then some (D.int (i * 2 ^ j.toNat)) else none) = some d := hf
    split at e
    · rename_i hc
      cases e
      simp only [Bool.and_eq_true, decide_eq_true_eq] at hc
      rw [hx.int] at rx
      rw [hy.int] at ry
      exact op_shl pins s σ H _ _ v u Q I rx ry ⟨i, j, rfl, rfl, ⟨hc.1, hc.2.1, hc.2.2⟩, q _ _ (.old rfl (.int _))⟩
    · cases e
theorem ok_mul_int {i j : Int} (h : mulOk i j = true) : IntMulOk i j := by
  unfold mulOk at h
  simp only [Bool.or_eq_true, Bool.and_eq_true, decide_eq_true_eq] at h
  rcases h with h | h | h
  · exact CMul.ok (.inl h)
  · exact CMul.ok (.inr h)
  · exact CMulW.ok h
theorem op_mulA : OpR X (binaryOp .Mult) (rI IntMulOk fun i j => .int (i * j)) := opI fun _ _ _ _ _ _ _ hc q => PyProof.Rows.mul_int q hc

/-- a tuple times an int, whatever they are -/
def rRepA (K : Fg) : R2 := fun x y H Q => ∃ l k xs, x = .ref l ∧ y = .int k ∧ SqT K H l xs ∧ -1000000 < k ∧ k < 1000000 ∧ xs.length * k.toNat ≤ 1000000 ∧
  (xs = [] ∨ k = 1 → Q (.ref l) H) ∧ (¬ (xs = [] ∨ k = 1) → ∀ p o, o.dict = none → H p = none → Q (.ref p) (upd H p (.frz o (.tup (List.replicate k.toNat xs).flatten))))
theorem op_repA : OpR X (binaryOp .Mult) (rRepA X.K) := by
  intro pins s σ H x y v u Q I rx ry h
  obtain ⟨l, k, xs, rfl, rfl, hT, b1, b2, b3, q1, q2⟩ := h
  cases rx
  obtain ⟨t, rfl⟩ := ry
  obtain ⟨ws, r, ⟨⟨cls, dd, data, sl⟩, ho, hc, n, hd⟩, hs⟩ := I.tuple hT
  simp only at hc hd
  subst hc hd
  have hle : ws.length = xs.length := r.length.symm
  have hE : ws.toArray.isEmpty = xs.isEmpty := by
    cases ws with
    | nil => cases r; rfl
    | cons a w => cases r; rfl
  have c0 : (decide (k < -(2 ^ 63)) || decide (k ≥ 2 ^ 63)) = false := by
    rw [Bool.or_eq_false_iff]
    exact ⟨decide_eq_false (by omega), decide_eq_false (by omega)⟩
  have road : ∀ {R : Value → Shared → Prop} {E : Value → Shared → Prop}, wpAny (model X.prog X.w) X.A (call (.builtin "tuple.__mul__") [.ref l, .int k t]) R E s → wpAny (model X.prog X.w) X.A (binaryOp .Mult (.ref l) (.int k t)) R E s := fun hh =>
    wpAny_binaryOp_repeat_ref (T := "tuple") (U := "int") (by decide) ⟨_, ho, rfl⟩ (fun z => typeIs_int z k t) noFill_tuple_mul F.fills_int_mul F.slot_int_rmul repeat_tuple F.slot_int_index.lookup
      (call_meets F.slot_int_rmul (typeIs_int s k t) F.entry_int_rmul (F.args_int_rmul_2 _ _) (int_rmul_tuple k t l ws.toArray n dd sl) ⟨ho, rfl, ⟨_, ho, rfl⟩, hh⟩)
  refine road ?_
  by_cases h1 : xs = [] ∨ k = 1
  · refine call_meets F.slot_tuple_mul ⟨_, ho, rfl⟩ F.entry_tuple_mul (F.args_tuple_mul_2 _ _) (tupMul1 l ws.toArray n dd sl k t c0 ?_) ⟨ho, .ref l, H, I, rfl, q1 h1⟩
    rw [hE, Bool.or_eq_true]
    rcases h1 with e | e
    · left; subst e; rfl
    · right; subst e; rfl
  · have h1' : (ws.toArray.isEmpty || k == 1) = false := by
      rw [hE, Bool.or_eq_false_iff]
      refine ⟨?_, beq_eq_false_iff_ne.mpr fun e => h1 (.inr e)⟩
      cases xs with
      | nil => exact absurd (.inl rfl) h1
      | cons a b => rfl
    have hn : xs ≠ [] := fun e => h1 (.inl e)
    by_cases h2 : k ≤ 0
    · refine call_meets F.slot_tuple_mul ⟨_, ho, rfl⟩ F.entry_tuple_mul (F.args_tuple_mul_2 _ _) (tupMul0 l ws.toArray n dd sl k t c0 h1' (by rw [decide_eq_true h2]; rfl)) ⟨ho, ?_⟩
      have ek : k.toNat = 0 := by omega
      rw [ek] at q2
      exact ⟨.ref s.heap.objs.size, _, laidT (h' := s.heap) (t' := s.toks) (its := []) I (fun _ _ q => q) (Nat.zero_le _) .nil, rfl, q2 h1 _ _ rfl (I.hok.fresh (Nat.le_refl _))⟩
    · have hz : ws.toArray.isEmpty = false := by
        rw [hE]
        cases xs with
        | nil => exact absurd rfl hn
        | cons a b => rfl
      have z0 : ws.toArray.size = xs.length := by rw [List.size_toArray, hle]
      have z1 : ((ws.toArray.size : Nat) : Int) * k ≤ 1000000 := by
        rw [z0]
        have e : k = ((k.toNat : Nat) : Int) := by omega
        rw [e]
        rw [← Int.natCast_mul]
        omega
      have fl : (List.replicate k.toNat ws).flatten.length ≤ sizeLine := by
        rw [PyProof.Rows.lm_len_rep_flat, hle, sizeLine_eq, Nat.mul_comm]
        omega
      have c2 : (decide (k ≤ 0) || ws.toArray.isEmpty) = false := by
        rw [hz, Bool.or_false]
        exact decide_eq_false h2
      have c4 : Builtin.Tuple.tupleTooMany (((ws.toArray.size : Nat) : Int) * k) = false := by
        unfold Builtin.Tuple.tupleTooMany
        rw [sizeLine_eq]
        exact decide_eq_false (by omega)
      refine call_meets F.slot_tuple_mul ⟨_, ho, rfl⟩ F.entry_tuple_mul (F.args_tuple_mul_2 _ _) (tuple_mulW l ws.toArray n dd sl k t c0 h1' c2 (by omega) c4 (by rw [size_rep, List.size_toArray]; exact fl)) ⟨ho, ?_⟩
      rw [size_rep]
      exact ⟨.ref s.heap.objs.size, _, laidT (h' := s.heap) (t' := s.toks) I (fun _ _ q => q) (by rw [PyProof.Rows.lm_len_rep_flat, sizeLine_eq, Nat.mul_comm]; omega) (r.rep k.toNat), rfl, q2 h1 _ _ rfl (I.hok.fresh (Nat.le_refl _))⟩
theorem repD_of {ds es : List D} {k : Int} (h : repD ds k = some es) : -1000000 < k ∧ k < 1000000 ∧ ds.length * k.toNat ≤ 1000000 ∧ es = (List.replicate k.toNat ds).flatten := by
  unfold repD at h
  split at h
  · rename_i hc
    cases h
    simp only [Bool.and_eq_true, decide_eq_true_eq] at hc
    exact ⟨hc.1.1, hc.1.2, Nat.le_of_ble_eq_true hc.2, rfl⟩
  · cases h
theorem ok_mul : OpR X (binaryOp .Mult) (rBin X.K (op2D .mul)) := by
  intro pins s σ H x y v u Q I rx ry ⟨G, c, dx, dy, d, hs, hx, hy, hf, q⟩
  cases dx <;> cases dy <;> first | cases hf; done | skip
  case int.int i j =>
    have e : (if mulOk i j = true then some (D.int (i * j)) else none) = some d := hf
    split at e
    · rename_i hc
      cases e
      rw [hx.int] at rx
      rw [hy.int] at ry
      exact op_mulA pins s σ H _ _ v u Q I rx ry ⟨i, j, rfl, rfl, ok_mul_int hc, q _ _ (.old rfl (.int _))⟩
    · cases e
  case lst.int ds k =>
    obtain ⟨es, e1, e2⟩ := map_some (show (repD ds k).map D.lst = some d from hf)
    obtain ⟨b1, b2, b3, rfl⟩ := repD_of e1
    subst e2
    obtain ⟨p, xs, rfl, h1, r1⟩ := hx.seqL hs
    rw [hy.int] at ry
    refine op_rep pins s σ H _ _ v u Q I rx ry ⟨p, k, xs, rfl, rfl, h1, by omega, by omega, ?_, fun p hp => q _ _ (.lst hp (r1.rep _))⟩
    rw [r1.length, sizeLine_eq]
    omega
  case tup.int ds k =>
    have rx2 : Rep X.K G c x (.tup ds) := hx.repT
    obtain ⟨es, e1, e2⟩ := map_some (show (repD ds k).map D.tup = some d from hf)
    obtain ⟨b1, b2, b3, rfl⟩ := repD_of e1
    subst e2
    obtain ⟨p, xs, rfl, h1, r1⟩ := hx.seqT hs
    rw [hy.int] at ry
    refine op_repA pins s σ H _ _ v u Q I rx ry ⟨p, k, xs, rfl, rfl, h1, b1, b2, by rw [r1.length]; exact b3, fun e => ?_, fun _ p o ho hp => q _ _ (.tup hp ho (r1.rep _))⟩
    rcases e with e | e
    · subst e
      cases r1
      have z : (List.replicate k.toNat ([] : List D)).flatten = [] := by simp
      rw [z] at q
      exact q _ _ (.old rfl rx2)
    · subst e
      have z : (List.replicate (1 : Int).toNat ds).flatten = ds := by
        show (List.replicate 1 ds).flatten = ds
        simp
      rw [z] at q
      exact q _ _ (.old rfl rx2)
end
end PF

namespace PF
open PySem PySem.Spec L2
mutual
/-- as the library's data -/
def D.py : D → PyData
  | .bl b => .bool b
  | .int i => .int i
  | .str x => .str x
  | .tup xs => .tuple (D.pyL xs)
  | .lst xs => .list (D.pyL xs)
  | _ => .none
def D.pyL : List D → List PyData
  | [] => []
  | x :: xs => D.py x :: D.pyL xs
end
theorem pyL_eq : ∀ xs : List D, D.pyL xs = xs.map D.py
  | [] => rfl
  | x :: xs => by rw [D.pyL, pyL_eq xs]; rfl
theorem strOk_of {x : Sx} (h : (x.cps.toList.all fun k => decide (k < 1114112)) = true) : PyData.strOk x = true := by
  show x.cps.all (fun k => decide (k < 1114112)) = true
  rw [← Array.all_toList]
  exact h
mutual
theorem lay_py : ∀ (n : Nat) (x : D), D.good n x = true → (D.py x).canLay0 = true ∧ (D.py x).depth ≤ n
  | n, .non, _ => ⟨by simp [D.py, PyData.canLay0], by simp [D.py, PyData.depth]⟩
  | n, .bl _, _ => ⟨by simp [D.py, PyData.canLay0], by simp [D.py, PyData.depth]⟩
  | n, .int _, _ => ⟨by simp [D.py, PyData.canLay0], by simp [D.py, PyData.depth]⟩
  | n, .str x, h => by
    have h' : (x.cps.toList.all fun k => decide (k < 1114112)) = true := by
      cases n <;> exact h
    exact ⟨by simp only [D.py, PyData.canLay0]; exact strOk_of h', by simp [D.py, PyData.depth]⟩
  | 0, .tup xs, h => by cases h
  | 0, .lst xs, h => by cases h
  | n + 1, .tup xs, h => by
    have q := lay_pyL n xs h
    exact ⟨by simp only [D.py, PyData.canLay0]; exact q.1, by simp only [D.py, PyData.depth]; omega⟩
  | n + 1, .lst xs, h => by
    have q := lay_pyL n xs h
    exact ⟨by simp only [D.py, PyData.canLay0]; exact q.1, by simp only [D.py, PyData.depth]; omega⟩
  | 0, .dct _, h => by cases h
  | n + 1, .dct _, h => by cases h
  | 0, .cup, h => by cases h
  | n + 1, .cup, h => by cases h
  | 0, .scr _, h => by cases h
  | n + 1, .scr _, h => by cases h
theorem lay_pyL : ∀ (n : Nat) (xs : List D), D.goodL n xs = true → PyData.canLayAll0 (D.pyL xs) = true ∧ PyData.depthAll (D.pyL xs) ≤ n
  | n, [], _ => ⟨by simp [D.pyL, PyData.canLayAll0], by simp [D.pyL, PyData.depthAll]⟩
  | n, x :: xs, h => by
    have h2 : (D.good n x && D.goodL n xs) = true := by cases n <;> exact h
    rw [Bool.and_eq_true] at h2
    have q1 := lay_py n x h2.1
    have q2 := lay_pyL n xs h2.2
    refine ⟨by simp only [D.pyL, PyData.canLayAll0, Bool.and_eq_true]; exact ⟨q1.1, q2.1⟩, by simp only [D.pyL, PyData.depthAll]; omega⟩
end
theorem good_tup {n : Nat} {xs : List D} (h : D.good n (.tup xs) = true) : ∃ m, n = m + 1 ∧ D.goodL m xs = true := by
  cases n with
  | zero => cases h
  | succ m => exact ⟨m, rfl, h⟩
theorem good_lst {n : Nat} {xs : List D} (h : D.good n (.lst xs) = true) : ∃ m, n = m + 1 ∧ D.goodL m xs = true := by
  cases n with
  | zero => cases h
  | succ m => exact ⟨m, rfl, h⟩
theorem goodL_cons {n : Nat} {x : D} {xs : List D} (h : D.goodL n (x :: xs) = true) : D.good n x = true ∧ D.goodL n xs = true := by
  have h2 : (D.good n x && D.goodL n xs) = true := by cases n <;> exact h
  rwa [Bool.and_eq_true] at h2
theorem good_bad {n : Nat} {d : D} (h : D.good n d = true) : (∀ k, d ≠ .dct k) ∧ d ≠ .cup ∧ ∀ k, d ≠ .scr k := by
  cases d <;> cases n <;> first | cases h; done | exact ⟨(fun _ z => by cases z), (fun z => by cases z), (fun _ z => by cases z)⟩
mutual
theorem eqv_py : ∀ (n m : Nat) (x y : D), D.good n x = true → D.good m y = true → PyData.eqv (D.py x) (D.py y) = D.eqv x y
  | n, m, .tup xs, y, hx, hy => by
    obtain ⟨n', rfl, hx'⟩ := good_tup hx
    cases y with
    | tup ys =>
      obtain ⟨m', rfl, hy'⟩ := good_tup hy
      simp only [D.py, PyData.eqv, D.eqv]
      exact eqv_pyL n' m' xs ys hx' hy'
    | dct k => exact absurd rfl ((good_bad hy).1 k)
    | cup => exact absurd rfl (good_bad hy).2.1
    | scr k => exact absurd rfl ((good_bad hy).2.2 k)
    | _ => simp [D.py, PyData.eqv, D.eqv]
  | n, m, .lst xs, y, hx, hy => by
    obtain ⟨n', rfl, hx'⟩ := good_lst hx
    cases y with
    | lst ys =>
      obtain ⟨m', rfl, hy'⟩ := good_lst hy
      simp only [D.py, PyData.eqv, D.eqv]
      exact eqv_pyL n' m' xs ys hx' hy'
    | dct k => exact absurd rfl ((good_bad hy).1 k)
    | cup => exact absurd rfl (good_bad hy).2.1
    | scr k => exact absurd rfl ((good_bad hy).2.2 k)
    | _ => simp [D.py, PyData.eqv, D.eqv]
  | n, m, .non, y, hx, hy => by
    cases y with
    | dct k => exact absurd rfl ((good_bad hy).1 k)
    | cup => exact absurd rfl (good_bad hy).2.1
    | scr k => exact absurd rfl ((good_bad hy).2.2 k)
    | _ => simp [D.py, PyData.eqv, D.eqv]
  | n, m, .bl _, y, hx, hy => by
    cases y with
    | dct k => exact absurd rfl ((good_bad hy).1 k)
    | cup => exact absurd rfl (good_bad hy).2.1
    | scr k => exact absurd rfl ((good_bad hy).2.2 k)
    | _ => simp [D.py, PyData.eqv, D.eqv]
  | n, m, .int _, y, hx, hy => by
    cases y with
    | dct k => exact absurd rfl ((good_bad hy).1 k)
    | cup => exact absurd rfl (good_bad hy).2.1
    | scr k => exact absurd rfl ((good_bad hy).2.2 k)
    | _ => simp [D.py, PyData.eqv, D.eqv]
  | n, m, .str _, y, hx, hy => by
    cases y with
    | dct k => exact absurd rfl ((good_bad hy).1 k)
    | cup => exact absurd rfl (good_bad hy).2.1
    | scr k => exact absurd rfl ((good_bad hy).2.2 k)
    | _ => simp [D.py, PyData.eqv, D.eqv]
  | n, m, .dct k, y, hx, hy => absurd rfl ((good_bad hx).1 k)
  | n, m, .cup, y, hx, hy => absurd rfl (good_bad hx).2.1
  | n, m, .scr k, y, hx, hy => absurd rfl ((good_bad hx).2.2 k)
theorem eqv_pyL : ∀ (n m : Nat) (xs ys : List D), D.goodL n xs = true → D.goodL m ys = true → PyData.eqvAll (D.pyL xs) (D.pyL ys) = D.eqvL xs ys
  | n, m, [], ys, _, _ => by cases ys <;> simp [D.pyL, PyData.eqvAll, D.eqvL]
  | n, m, x :: xs, [], _, _ => by simp [D.pyL, PyData.eqvAll, D.eqvL]
  | n, m, x :: xs, y :: ys, hx, hy => by
    simp only [D.pyL, PyData.eqvAll, D.eqvL]
    rw [eqv_py n m x y (goodL_cons hx).1 (goodL_cons hy).1, eqv_pyL n m xs ys (goodL_cons hx).2 (goodL_cons hy).2]
end
theorem shaped_py {x : D} (h : D.good 50 x = true) : SeqAt.shaped (D.py x) = true := by
  have q := lay_py 50 x h
  show ((D.py x).canLay0 && decide ((D.py x).depth ≤ 64)) = true
  rw [Bool.and_eq_true]
  exact ⟨q.1, decide_eq_true (by omega)⟩
section
variable {K : Fg} {G H : Hp} {c : Option Addr}
mutual
theorem Rep.dp (e : Same G H) : ∀ {v : HV} {d : D}, Rep K G c v d → ∀ n, D.good n d = true → Dp K H v (D.py d)
  | _, _, .non, _, _ => .non
  | _, _, .bl b, _, _ => .bl b
  | _, _, .int i, _, _ => .int i
  | _, _, .str x, _, _ => .str x
  | _, _, .cup _, n, h => by cases n <;> cases h
  | _, _, .scr _, n, h => by cases n <;> cases h
  | _, _, .lst a r, n, h => by
    obtain ⟨m, rfl, h'⟩ := good_lst h
    exact .lst (SqL.of (e _ _ a)) (RepL.dp e r m h')
  | _, _, .tup a r, n, h => by
    obtain ⟨m, rfl, h'⟩ := good_tup h
    exact .tup (Same.sqT e a.sqT) (RepL.dp e r m h')
theorem RepL.dp (e : Same G H) : ∀ {vs : List HV} {ds : List D}, RepL K G c vs ds → ∀ n, D.goodL n ds = true → DpAll K H vs (D.pyL ds)
  | _, _, .nil, _, _ => .nil
  | _, _, .cons h r, n, q => .cons (Rep.dp e h n (goodL_cons q).1) (RepL.dp e r n (goodL_cons q).2)
end
theorem Sh.dp (e : Same G H) {v : HV} {d : D} (h : Sh K G H c v d) {n : Nat} (q : D.good n d = true) : Dp K H v (D.py d) := by
  cases h with
  | rep r => exact r.dp e n q
  | own a b r _ =>
    cases r with
    | lst r =>
      obtain ⟨m, rfl, h'⟩ := good_lst q
      exact .lst (SqL.of b) (r.dp e m h')
    | dct _ _ => exact absurd rfl ((good_bad q).1 _)
theorem Sh.isDct (e : Same G H) {v : HV} {kvs : List (D × D)} (h : Sh K G H c v (.dct kvs)) : ∃ p ks, v = .ref p ∧ H p = some (.dK ks) ∧ RepL K G c (ks.map Prod.snd) (kvs.map Prod.snd) ∧ kvs.map Prod.fst = ks.map (fun p => kD p.1) := by
  cases h with
  | rep r =>
    cases r with
    | dct a b d => exact ⟨_, _, rfl, e _ _ a, b, d⟩
  | own a b r _ =>
    obtain ⟨ks, rfl, r1, r2⟩ := r.isDct
    exact ⟨_, ks, rfl, b, r1, r2⟩
theorem lk_val (k : Int) : ∀ {ks : List (Key × HV)} {kvs : List (D × D)}, kvs.map Prod.fst = ks.map (fun p => kD p.1) → (valV ks (.inl k)).isSome = (lkD kvs k).isSome
  | [], [], _ => rfl
  | [], _ :: _, h => by cases h
  | _ :: _, [], h => by cases h
  | (q, v) :: ks, (d, w) :: kvs, h => by
    have h1 := (List.cons.inj h).1
    have h2 := lk_val k (List.cons.inj h).2
    have h1 : d = kD q := h1
    subst h1
    cases q with
    | inl j =>
      by_cases e : j = k
      · subst e
        rw [valV_pos (p := (Sum.inl j, v)) rfl]
        show _ = (if j = j then some w else lkD kvs j).isSome
        rw [if_pos rfl]
        rfl
      · rw [valV_neg (p := (Sum.inl j, v)) (fun z => e (Sum.inl.inj z)), h2]
        show _ = (if j = k then some w else lkD kvs k).isSome
        rw [if_neg e]
    | inr x =>
      rw [valV_neg (p := (Sum.inr x, v)) (fun z => by cases z), h2]
      rfl
end
section
variable {X : Cx}
theorem eqD_of {x y : D} {b : Bool} (h : eqD x y = some b) : D.good 50 x = true ∧ D.good 50 y = true ∧ b = D.eqv x y := by
  unfold eqD at h
  split at h
  · rename_i hc
    rw [Bool.and_eq_true] at hc
    cases h
    exact ⟨hc.1, hc.2, rfl⟩
  · cases h
theorem ok_eq (hu : X.A.units + 65 < cLine) : OpR X (compareOp .Eq) (rBin X.K (op2D .eq)) := by
  intro pins s σ H x y v u Q I rx ry ⟨G, c, dx, dy, d, hs, hx, hy, hf, q⟩
  obtain ⟨b, e1, e2⟩ := map_some (show (eqD dx dy).map D.bl = some d from by cases dx <;> cases dy <;> exact hf)
  obtain ⟨g1, g2, e3⟩ := eqD_of e1
  subst e2
  refine op_eqD (by omega) pins s σ H x y v u Q I rx ry ⟨_, _, hx.dp hs g1, hy.dp hs g2, shaped_py g1, shaped_py g2, ?_⟩
  rw [eqv_py 50 50 dx dy g1 g2, ← e3]
  exact q _ _ (.old rfl (.bl _))
theorem ok_ne (hu : X.A.units + 65 < cLine) : OpR X (compareOp .NotEq) (rBin X.K (op2D .ne)) := by
  intro pins s σ H x y v u Q I rx ry ⟨G, c, dx, dy, d, hs, hx, hy, hf, q⟩
  obtain ⟨b, e1, e2⟩ := map_some (show ((eqD dx dy).map fun b => D.bl (!b)) = some d from by cases dx <;> cases dy <;> exact hf)
  obtain ⟨g1, g2, e3⟩ := eqD_of e1
  subst e2
  refine op_neD (by omega) pins s σ H x y v u Q I rx ry ⟨_, _, hx.dp hs g1, hy.dp hs g2, shaped_py g1, shaped_py g2, ?_⟩
  rw [eqv_py 50 50 dx dy g1 g2, ← e3]
  exact q _ _ (.old rfl (.bl _))
theorem anyEq_py {x : D} (hx : D.good 50 x = true) : ∀ {ds : List D}, D.goodL 50 ds = true → ((D.pyL ds).any fun z => PyData.eqv z (D.py x)) = anyEq x ds
  | [], _ => rfl
  | y :: r, h => by
    rw [D.pyL, List.any_cons, anyEq_py hx (goodL_cons h).2, eqv_py 50 50 y x (goodL_cons h).1 hx]
    rfl
theorem room_dp {A : Around} {ds : List D} {x : D} (hd : D.goodL 50 ds = true) (hx : D.good 50 x = true) (hu : A.units + 65 < cLine) : A.units + 1 + min (PyData.depthAll (D.pyL ds)) (D.py x).depth < cLine := by
  have h1 := (lay_py 50 x hx).2
  omega
theorem inD_dct {x : D} {kvs : List (D × D)} {b : Bool} (h : inD x (.dct kvs) = some b) : ∃ k, x = .int k ∧ b = (lkD kvs k).isSome := by
  cases x <;> first | (cases h; done) | skip
  cases h
  exact ⟨_, rfl, rfl⟩
theorem inD_of {x y : D} {b : Bool} (hy : ∀ kvs, y ≠ .dct kvs) (h : inD x y = some b) : ∃ ds, D.good 50 x = true ∧ D.goodL 50 ds = true ∧ b = anyEq x ds ∧ (y = .lst ds ∨ y = .tup ds) := by
  cases y <;> first | cases h; done | exact absurd rfl (hy _) | skip
  all_goals
    unfold inD at h
    dsimp only at h
    split at h
    · rename_i hc
      rw [Bool.and_eq_true] at hc
      cases h
      exact ⟨_, hc.1, hc.2, rfl, by first | exact .inl rfl | exact .inr rfl⟩
    · cases h
theorem ok_in (hu : X.A.units + 65 < cLine) : OpR X (compareOp .In) (rBin X.K (op2D .isIn)) := by
  intro pins s σ H x y v u Q I rx ry ⟨G, c, dx, dy, d, hs, hx, hy, hf, q⟩
  obtain ⟨b, e1, e2⟩ := map_some (show (inD dx dy).map D.bl = some d from by cases dx <;> cases dy <;> exact hf)
  by_cases hd : ∃ kvs, dy = .dct kvs
  · obtain ⟨kvs, rfl⟩ := hd
    obtain ⟨k, rfl, rfl⟩ := inD_dct e1
    subst e2
    have ex := hx.int
    subst ex
    obtain ⟨p, ks, rfl, h1, h2, h3⟩ := hy.isDct hs
    have eu : u = .ref p := ry
    subst eu
    refine d_in (by omega) I (DGet.k (k := .inl k) h1) rx fun s' I' => ?_
    rw [lk_val k h3]
    exact ⟨.bl _, H, I', rfl, q _ _ (.old (K := X.K) (G := G) (c := c) rfl (.bl _))⟩
  obtain ⟨ds, g1, g2, e3, e4⟩ := inD_of (fun kvs z => hd ⟨kvs, z⟩) e1
  subst e2 e3
  obtain ⟨as, r1⟩ := Dp.reads I _ x v (hx.dp hs g1) rx
  have lay := lay_pyL 50 ds g2
  have fin := q _ _ (.old (K := X.K) (G := G) (c := c) rfl (.bl (anyEq dx ds)))
  rw [← anyEq_py g1 g2] at fin
  rcases e4 with e | e
  · subst e
    obtain ⟨bs, r2⟩ := Dp.reads I _ y u (hy.dp hs (n := 51) g2) ry
    exact SeqAt.in_list_reads (show Reads s.heap u (.list (D.pyL ds)) bs from r2) r1 lay.1 (lay_py 50 dx g1).1 (room_dp g2 g1 hu) ⟨.bl _, H, I, rfl, fin⟩
  · subst e
    obtain ⟨bs, r2⟩ := Dp.reads I _ y u (hy.dp hs (n := 51) g2) ry
    exact SeqAt.in_tuple_reads (show Reads s.heap u (.tuple (D.pyL ds)) bs from r2) r1 lay.1 (lay_py 50 dx g1).1 (room_dp g2 g1 hu) ⟨.bl _, H, I, rfl, fin⟩
theorem ok_notIn (hu : X.A.units + 65 < cLine) : OpR X (compareOp .NotIn) (rBin X.K (op2D .notIn)) := by
  intro pins s σ H x y v u Q I rx ry ⟨G, c, dx, dy, d, hs, hx, hy, hf, q⟩
  obtain ⟨b, e1, e2⟩ := map_some (show ((inD dx dy).map fun b => D.bl (!b)) = some d from by cases dx <;> cases dy <;> exact hf)
  by_cases hd : ∃ kvs, dy = .dct kvs
  · obtain ⟨kvs, rfl⟩ := hd
    obtain ⟨k, rfl, rfl⟩ := inD_dct e1
    subst e2
    have ex := hx.int
    subst ex
    obtain ⟨p, ks, rfl, h1, h2, h3⟩ := hy.isDct hs
    have eu : u = .ref p := ry
    subst eu
    refine d_notIn (by omega) I (DGet.k (k := .inl k) h1) rx fun s' I' => ?_
    rw [lk_val k h3]
    exact ⟨.bl _, H, I', rfl, q _ _ (.old (K := X.K) (G := G) (c := c) rfl (.bl _))⟩
  obtain ⟨ds, g1, g2, e3, e4⟩ := inD_of (fun kvs z => hd ⟨kvs, z⟩) e1
  subst e2 e3
  obtain ⟨as, r1⟩ := Dp.reads I _ x v (hx.dp hs g1) rx
  have lay := lay_pyL 50 ds g2
  have fin := q _ _ (.old (K := X.K) (G := G) (c := c) rfl (.bl (!anyEq dx ds)))
  rw [← anyEq_py g1 g2] at fin
  rcases e4 with e | e
  · subst e
    obtain ⟨bs, r2⟩ := Dp.reads I _ y u (hy.dp hs (n := 51) g2) ry
    exact SeqAt.notIn_list_reads (show Reads s.heap u (.list (D.pyL ds)) bs from r2) r1 lay.1 (lay_py 50 dx g1).1 (room_dp g2 g1 hu) ⟨.bl _, H, I, rfl, fin⟩
  · subst e
    obtain ⟨bs, r2⟩ := Dp.reads I _ y u (hy.dp hs (n := 51) g2) ry
    exact SeqAt.notIn_tuple_reads (show Reads s.heap u (.tuple (D.pyL ds)) bs from r2) r1 lay.1 (lay_py 50 dx g1).1 (room_dp g2 g1 hu) ⟨.bl _, H, I, rfl, fin⟩
theorem lex_same : ∀ (ns ms : List Int), HT.lexLt ns ms = lexI ns ms
  | [], [] => rfl
  | [], _ :: _ => rfl
  | _ :: _, [] => rfl
  | x :: xs, y :: ys => by rw [HT.lexLt_cons, lexI, lex_same xs ys]
theorem ok_lt (hu : X.A.units + 65 < cLine) : OpR X (compareOp .Lt) (rBin X.K (op2D .lt)) := by
  intro pins s σ H x y v u Q I rx ry ⟨G, c, dx, dy, d, hs, hx, hy, hf, q⟩
  obtain ⟨b, e1, e2⟩ := map_some (show (ltD dx dy).map D.bl = some d from by cases dx <;> cases dy <;> exact hf)
  subst e2
  cases dx <;> cases dy <;> first | cases e1; done | skip
  case int.int i j =>
    cases e1
    rw [hx.int] at rx
    rw [hy.int] at ry
    exact op_lt pins s σ H _ _ v u Q I rx ry ⟨i, j, rfl, rfl, q _ _ (.old rfl (.bl _))⟩
  case tup.tup ds es =>
    obtain ⟨p, xs, rfl, h1, r1⟩ := hx.seqT hs
    obtain ⟨p2, ys, rfl, h2, r2⟩ := hy.seqT hs
    have e : (match ints? ds, ints? es with | some a, some b => some (lexI a b) | _, _ => none) = some b := e1
    cases q1 : ints? ds with
    | none => rw [q1] at e; cases e
    | some l =>
      cases q2 : ints? es with
      | none => rw [q1, q2] at e; cases e
      | some m =>
        rw [q1, q2] at e
        cases e
        have e3 := r1.toInts q1
        have e4 := r2.toInts q2
        subst e3 e4
        refine op_ltT (by omega) pins s σ H _ _ v u Q I rx ry ⟨p, p2, l, m, rfl, rfl, h1, h2, ?_⟩
        rw [lex_same]
        exact q _ _ (.old rfl (.bl _))
theorem ok_cmp {op : CmpOp} {o : O2} {f : Int → Int → Bool} (ho : OpR X (compareOp op) (rI0 fun i j => .bl (f i j))) (hD : ∀ x y, op2D o x y = cmpI f x y) : OpR X (compareOp op) (rBin X.K (op2D o)) := by
  intro pins s σ H x y v u Q I rx ry ⟨G, c, dx, dy, d, hs, hx, hy, hf, q⟩
  rw [hD] at hf
  cases dx <;> cases dy <;> first | cases hf; done | skip
  case int.int i j =>
    cases hf
    rw [hx.int] at rx
    rw [hy.int] at ry
    exact ho pins s σ H _ _ v u Q I rx ry ⟨i, j, rfl, rfl, q _ _ (.old rfl (.bl _))⟩
theorem ok_le : OpR X (compareOp .LtE) (rBin X.K (op2D .le)) := ok_cmp op_le fun x y => by cases x <;> cases y <;> rfl
theorem ok_gt : OpR X (compareOp .Gt) (rBin X.K (op2D .gt)) := ok_cmp op_gt fun x y => by cases x <;> cases y <;> rfl
theorem ok_ge : OpR X (compareOp .GtE) (rBin X.K (op2D .ge)) := ok_cmp op_ge fun x y => by cases x <;> cases y <;> rfl
theorem ok_is : OpR X (compareOp .Is) (rBin X.K (op2D .is)) := by
  intro pins s σ H x y v u Q I rx ry ⟨G, c, dx, dy, d, hs, hx, hy, hf, q⟩
  cases dx <;> cases dy <;> first | cases hf; done | skip
  case bl.bl i j =>
    cases hf
    rw [hx.bl] at rx
    rw [hy.bl] at ry
    refine op_is_bl pins s σ H _ _ v u Q I rx ry ⟨i, j, rfl, rfl, ?_⟩
    have z : decide (i = j) = (i == j) := by cases i <;> cases j <;> rfl
    rw [z]
    exact q _ _ (.old rfl (.bl _))
theorem ok_isNot : OpR X (compareOp .IsNot) (rBin X.K (op2D .isNot)) := by
  intro pins s σ H x y v u Q I rx ry ⟨G, c, dx, dy, d, hs, hx, hy, hf, q⟩
  cases dx <;> cases dy <;> first | cases hf; done | skip
  case bl.bl i j =>
    cases hf
    rw [hx.bl] at rx
    rw [hy.bl] at ry
    refine op_isnot_bl pins s σ H _ _ v u Q I rx ry ⟨i, j, rfl, rfl, ?_⟩
    have z : decide (i = j) = (i == j) := by cases i <;> cases j <;> rfl
    rw [z]
    exact q _ _ (.old rfl (.bl _))
end
end PF

namespace PF
open PySem PySem.Spec L2
/-- one builtin deeper -/
abbrev oneC (X : Cx) : Cx := { X with A := X.A.in1 }
section
variable {X : Cx} {pins : List (Addr × Obj)} {σ : L2.St} {H : Hp} {s : Shared}
theorem ok_one (ok : X.Ok) : (oneC X).Ok := ⟨ok.mod, ok.kind, ok.glob, ok.blt, ok.above, ok.inj, ok.has, ok.cab, ok.hd, ok.frames, ok.stk, ok.exf, ok.bs, ok.bsz, ok.noex, ok.exfs, ok.funs, ok.frf⟩
theorem ok_unone (ok : (oneC X).Ok) (h : X.Ok) : X.Ok := h
theorem inv_one (I : Inv X pins σ H s) : Inv (oneC X) pins σ H s := ⟨ok_one I.ok, I.os, I.bare, I.base, I.loc, I.cell, I.free, I.freeC, I.pin, I.hok, I.len⟩
theorem inv_unone (I : Inv (oneC X) pins σ H s) (h : X.Ok) : Inv X pins σ H s := ⟨h, I.os, I.bare, I.base, I.loc, I.cell, I.free, I.freeC, I.pin, I.hok, I.len⟩
end
section
variable {prog : Program} {w : World} {A : Around} {E : Value → Shared → Prop} {s : Shared}
open PyProof.Rows in
theorem collect_tup {l : Addr} {vs : List Value} {Q : List Value → Shared → Prop} (hl : s.heap.IsTuple l vs.toArray)
    (h : Q vs { s with heap := (s.heap.push (seqObj "list" #[] 0)).update s.heap.objs.size (Obj.mapSeq (· ++ vs.toArray)) }) (hsz : vs.length ≤ sizeLine) :
    wpAny (model prog w) A (collect (.ref l)) Q E s := by
  obtain ⟨o, ho, hc, n, hd⟩ := id hl
  unfold collect
  refine wpAny_bind (wpAny_runValue (codeAny_builtin entry_proto_collect' ?_))
  show wpAny _ _ (do again (.builtin "list.__iadd__" ⟨[← newList [], .ref l], []⟩)) _ _ s
  refine wpAny_bind (wpAny_newList (wpAny_pure ⟨Code.quiet_builtin _ (by decide +kernel), codeAny_builtin entry_list_iadd' ?_⟩))
  show wpAny _ _ (Builtin.List.listExtendWith (.ref s.heap.objs.size) (.ref l) (.ref s.heap.objs.size)) _ _ { s with heap := s.heap.push (seqObj "list" #[] 0) }
  unfold Builtin.List.listExtendWith
  have ho2 : (s.heap.push (seqObj "list" #[] 0)).get? l = some o := Heap.get?_push_of_some _ ho
  refine wpAny_bind (wpAny_typeOf (T := "tuple") ⟨o, ho2, hc⟩ ?_)
  have ht : (Value.type "tuple" == Value.type "tuple") = true := by rfl
  rw [if_pos (by rw [ht]; simp)]
  refine wpAny_bind (listItems_at ho2 hd ?_)
  refine wpAny_bind (listItems_at (xs := #[]) (n := 0) (Heap.get?_push_size _ rfl) rfl ?_)
  rw [if_neg (by simp)]
  refine wpAny_bind (listUpdate_at (xs := #[]) (n := 0) (Heap.get?_push_size _ rfl) rfl ?_ (Nat.zero_le _) (by show (#[] ++ vs.toArray).size ≤ sizeLine + 1; simp only [Array.size_append, List.size_toArray, List.length_nil]; omega))
  refine wpAny_pure ?_
  show wpAny (model prog w) A (load s.heap.objs.size >>= fun o => match o.data with
      | .seq xs _ => pure xs.toList
      | _ => unsupported "internal:collect") Q E { s with heap := (s.heap.push (seqObj "list" #[] 0)).update s.heap.objs.size (Obj.mapSeq (· ++ vs.toArray)) }
  refine wpAny_bind (wpAny_load (get?_update_seq (Heap.get?_push_size _ rfl) _) ?_)
  show wpAny _ _ (pure ((#[] : Array Value) ++ vs.toArray).toList) Q E _
  rw [show ((#[] : Array Value) ++ vs.toArray).toList = vs by simp]
  exact wpAny_pure h
end
open PyProof.Rows in
theorem cr_sortedTI {X : Cx} : CallR X (.builtin "sorted") (fun vs H Q => ∃ (a : Addr) (l : List Int), vs = [V.ref a] ∧ SqT X.K H a (l.map V.int) ∧
    ∀ (l' : List Int) (p : Addr), l'.Perm l → l'.Pairwise (· ≤ ·) → H p = none → Q (.ref p) (upd H p (.lst (l'.map V.int)))) := by
  intro pins s σ H vs us Q I r h
  obtain ⟨a, l, rfl, ht, q⟩ := h
  obtain ⟨its, rv, pt, hz⟩ := I.tuple ht
  rw [Vals.ref1 r]
  have hlen := rv.length
  refine Calls.call_function_entry kind_sorted plain_sorted entry_sorted (args_sorted1 _) ?_
  unfold Builtin.«sorted»
  refine wpAny_bind (m := checkCount "sorted" 1 1 _) (wpAny_pure ?_)
  refine wpAny_bind (collect_tup (show s.heap.IsTuple a its.toArray from pt) ?_ (by omega))
  have k1 : ∀ b o, s.heap.get? b = some o → ((s.heap.push (seqObj "list" #[] 0)).update s.heap.objs.size (Obj.mapSeq (· ++ its.toArray))).get? b = some o := fun b o e => by
    rw [Heap.get?_update_ne _ _ _ _ (Nat.ne_of_lt (Heap.lt_size e))]
    exact Heap.get?_push_of_some _ e
  generalize ((s.heap.push (seqObj "list" #[] 0)).update s.heap.objs.size (Obj.mapSeq (· ++ its.toArray))) = g at k1 ⊢
  have I1 := I.kept (t' := s.toks) k1
  refine wpAny_bind (wpAny_newList ?_ (by omega))
  have I2 := I1.laid (t' := s.toks) (a := g.objs.size) (o := .lst (l.map V.int)) (fun b u e => Heap.get?_push_of_some { cls := .type "list", data := .seq its.toArray } e) (Nat.le_refl _) ⟨hz, its, 0, rv, Heap.get?_push_size _ rfl⟩
  have hn : H g.objs.size = none := I1.hok.fresh (Nat.le_refl _)
  refine wpAny_bind (wpAny_holding (thn (mt_sortI (X := (oneC X)) pins _ σ _ (V.ref g.objs.size) [] (.ref g.objs.size) [] (fun v H2 => v = .non ∧ Q (.ref g.objs.size) H2) (inv_one I2) rfl .nil ⟨_, l, rfl, rfl, upd_same, fun l' h1 h2 => ⟨rfl, by rw [upd_upd]; exact q l' _ h1 h2 hn⟩⟩) fun v s3 h3 => ?_))
  obtain ⟨v', H3, I3, r3, rfl, q3⟩ := h3
  exact wpAny_pure ⟨_, rfl, .ref _, H3, inv_unone I3 I.ok, rfl, q3⟩

/-- a call of one value, of two -/
def rB1 (K : Fg) (f : D → Option D) : List HV → Hp → VK → Prop := fun vs H Q => ∃ G c v dx d, vs = [v] ∧ Same G H ∧ Sh K G H c v dx ∧ f dx = some d ∧ ∀ v' H', PR K G H c v' H' d → Q v' H'
def rB2 (K : Fg) (f : D → D → Option D) : List HV → Hp → VK → Prop := fun vs H Q => ∃ G c v u dx dy d, vs = [v, u] ∧ Same G H ∧ Sh K G H c v dx ∧ Sh K G H c u dy ∧ f dx dy = some d ∧ ∀ v' H', PR K G H c v' H' d → Q v' H'
theorem sortI_perm : ∀ l : List Int, (sortI l).Perm l
  | [] => .nil
  | a :: r => (ins_perm a (sortI r)).trans ((sortI_perm r).cons a)
where ins_perm (a : Int) : ∀ l : List Int, (insI a l).Perm (a :: l)
  | [] => .refl _
  | b :: r => by
    unfold insI
    split
    · exact .refl _
    · exact ((ins_perm a r).cons b).trans (.swap a b r)
theorem sortI_sorted : ∀ l : List Int, (sortI l).Pairwise (· ≤ ·)
  | [] => .nil
  | a :: r => ins_sorted a (sortI_sorted r)
where ins_sorted (a : Int) : ∀ {l : List Int}, l.Pairwise (· ≤ ·) → (insI a l).Pairwise (· ≤ ·)
  | [], _ => by
    unfold insI
    exact List.pairwise_singleton _ _
  | b :: r, h => by
    obtain ⟨h1, h2⟩ := List.pairwise_cons.mp h
    unfold insI
    split
    · rename_i hab
      refine List.pairwise_cons.mpr ⟨fun x hx => ?_, h⟩
      rcases List.mem_cons.mp hx with e | hx
      · rw [e]; exact hab
      · exact Int.le_trans hab (h1 x hx)
    · rename_i hab
      refine List.pairwise_cons.mpr ⟨fun x hx => ?_, ins_sorted a h2⟩
      rcases List.mem_cons.mp ((sortI_perm.ins_perm a r).mem_iff.mp hx) with e | hx
      · rw [e]; omega
      · exact h1 x hx
theorem sorted_eq {l m : List Int} (hp : l.Perm m) (h1 : l.Pairwise (· ≤ ·)) (h2 : m.Pairwise (· ≤ ·)) : l = m :=
  hp.eq_of_pairwise (fun a b _ _ x y => Int.le_antisymm x y) h1 h2
theorem maxI_eq : ∀ (xs : List Int) (x : Int), PySem.W.maxOf x xs = maxI x xs
  | [], _ => rfl
  | y :: ys, x => by
    show PySem.W.maxOf (if decide (x < y) = true then y else x) ys = maxI (if x < y then y else x) ys
    rw [maxI_eq ys]
    by_cases h : x < y <;> simp [h]
theorem minI_eq : ∀ (xs : List Int) (x : Int), PySem.W.minOf x xs = minI x xs
  | [], _ => rfl
  | y :: ys, x => by
    show PySem.W.minOf (if decide (y < x) = true then y else x) ys = minI (if y < x then y else x) ys
    rw [minI_eq ys]
    by_cases h : y < x <;> simp [h]
theorem holdInts {K : Fg} {X : Cx} {pins : List (Addr × Obj)} {σ : L2.St} {H : Hp} {s : Shared} (I : L2.Inv X pins σ H s) {l : List Int} {us : List Value} (r : Vals (l.map V.int) us) : PySem.W.HoldAll s.heap us l := by
  have dp : ∀ l : List Int, DpAll X.K H (l.map V.int) (l.map PyData.int) := fun l => by
    induction l with
    | nil => exact .nil
    | cons a l ih => exact .cons (.int a) ih
  obtain ⟨as, h⟩ := Dp.readsAll I _ _ us (dp l) r
  exact ⟨as, h⟩
theorem int_of_holds {h : Heap} {v : Value} {i : Int} (q : PySem.W.Holds h v i) : ∃ t, v = .int i t := by
  obtain ⟨as, r⟩ := q
  have r' : Reads h v (.int i) as := r
  cases r'
  exact ⟨_, rfl⟩
section
variable {X : Cx}
theorem ok_len : CallR X (.builtin "len") (rB1 X.K (b1D .len)) := by
  intro pins s σ H vs us Q I r ⟨G, c, v, dx, d, e, hs, hx, hf, q⟩
  subst e
  cases dx <;> first | cases hf; done | skip
  case lst ds =>
    cases hf
    obtain ⟨p, xs, rfl, h1, r1⟩ := hx.seqL hs
    refine call_len_seq pins s σ H _ us Q I r ⟨p, xs, rfl, .inl (SqL.of h1), ?_⟩
    rw [r1.length]
    exact q _ _ (.old rfl (.int _))
  case tup ds =>
    cases hf
    obtain ⟨p, xs, rfl, h1, r1⟩ := hx.seqT hs
    refine call_len_seq pins s σ H _ us Q I r ⟨p, xs, rfl, .inr h1, ?_⟩
    rw [r1.length]
    exact q _ _ (.old rfl (.int _))
theorem ok_list : CallR X (.type "list") (rB1 X.K (b1D .list)) := by
  intro pins s σ H vs us Q I r ⟨G, c, v, dx, d, e, hs, hx, hf, q⟩
  subst e
  by_cases hsc : ∃ ns, dx = .scr ns
  · obtain ⟨ns, rfl⟩ := hsc
    cases hf
    cases hx with
    | rep r0 =>
      cases r0 with
      | scr a =>
        have a' : SqL X.K H _ (ns.map V.int) := Same.seq hs a
        exact call_list_of pins s σ H _ us Q I r ⟨_, _, rfl, .inl a', fun l hl => q _ _ (.lst hl (.of_ints ns))⟩
    | own _ _ z _ => cases z
  obtain ⟨ds, e1, e2⟩ := map_some (show (seqD dx).map D.lst = some d from by cases dx <;> first | exact hf | exact absurd ⟨_, rfl⟩ hsc)
  subst e2
  obtain ⟨p, xs, rfl, h1, r1⟩ := hx.seq hs e1
  exact call_list_of pins s σ H _ us Q I r ⟨p, xs, rfl, h1, fun l hl => q _ _ (.lst hl r1)⟩
theorem call_tupleN : CallR X (.type "tuple") (fun xs H Q => ∃ p ys, xs = [.ref p] ∧ ((SqL X.K H p ys ∧ ∀ l o, o.dict = none → H l = none → Q (.ref l) (upd H l (.frz o (.tup ys)))) ∨ (SqT X.K H p ys ∧ Q (.ref p) H))) := by
  intro pins s σ H xs us Q I r h
  obtain ⟨p, ys, rfl, h⟩ := h
  obtain ⟨u, rfl, rx⟩ := vals1 r
  cases rx
  rcases h with ⟨hq, q⟩ | ⟨hq, q⟩
  · obtain ⟨its, r', pl, hz⟩ := I.list hq
    have hlen := r'.length
    refine call_tuple_list pl.isList (fun h' kp => ?_) (by simp only [List.size_toArray] <;> omega)
    have I1 : L2.Inv X pins σ H { s with heap := h' } := I.kept (t' := s.toks) kp
    exact ⟨.ref h'.objs.size, _, laidT (t' := s.toks) I kp hz r', rfl, q _ _ rfl (I1.hok.fresh (Nat.le_refl _))⟩
  · obtain ⟨its, r', pl, hz⟩ := I.tuple hq
    exact PySem.call_tuple_same pl ⟨.ref p, H, I, rfl, q⟩
theorem ok_tuple : CallR X (.type "tuple") (rB1 X.K (b1D .tuple)) := by
  intro pins s σ H vs us Q I r ⟨G, c, v, dx, d, e, hs, hx, hf, q⟩
  subst e
  cases dx <;> first | cases hf; done | skip
  case lst ds =>
    cases hf
    obtain ⟨p, xs, rfl, h1, r1⟩ := hx.seqL hs
    exact call_tupleN pins s σ H _ us Q I r ⟨p, xs, rfl, .inl ⟨SqL.of h1, fun l o ho hl => q _ _ (.tup hl ho r1)⟩⟩
  case tup ds =>
    cases hf
    have rx : Rep X.K G c v (.tup ds) := hx.repT
    obtain ⟨p, xs, rfl, h1, r1⟩ := hx.seqT hs
    exact call_tupleN pins s σ H _ us Q I r ⟨p, xs, rfl, .inr ⟨h1, q _ _ (.old rfl rx)⟩⟩
theorem ok_sortedI : CallR X (.builtin "sorted") (rB1 X.K sortedI) := by
  intro pins s σ H vs us Q I r ⟨G, c, v, dx, d, e, hs, hx, hf, q⟩
  subst e
  have hf' : (match seqD dx with
    | some ds => (match ints? ds with
      | some l => if szOk l.length then some (D.lst ((sortI l).map .int)) else none
      | none => none)
    | none => none) = some d := by cases dx <;> exact hf
  cases e1 : seqD dx with
  | none => rw [e1] at hf'; cases hf'
  | some ds =>
    rw [e1] at hf'
    dsimp only at hf'
    cases e2 : ints? ds with
    | none => rw [e2] at hf'; cases hf'
    | some l =>
      rw [e2] at hf'
      dsimp only at hf'
      split at hf'
      · cases hf'
        obtain ⟨p, xs, rfl, h1, r1⟩ := hx.seq hs e1
        have e3 := r1.toInts e2
        subst e3
        have fin : ∀ (l' : List Int) (p : Addr), l'.Perm l → l'.Pairwise (· ≤ ·) → H p = none → Q (.ref p) (upd H p (.lst (l'.map V.int))) := fun l' p h1 h2 h3 => by
          rw [sorted_eq (h1.trans (sortI_perm l).symm) h2 (sortI_sorted l)]
          exact q _ _ (.lst h3 (RepL.of_ints _))
        rcases h1 with h1 | h1
        · exact cr_sortedI pins s σ H _ us Q I r ⟨p, l, rfl, h1, fin⟩
        · exact cr_sortedTI pins s σ H _ us Q I r ⟨p, l, rfl, h1, fin⟩
      · cases hf'
open PyProof.V PySem.Calls in
theorem ok_sum (hc : X.calm = true) : CallR X (.builtin "sum") (rB1 X.K (b1D .sum)) := by
  intro pins s σ H vs us Q I r ⟨G, c, v, dx, d, e, hs, hx, hf, q⟩
  subst e
  cases dx <;> first | cases hf; done | skip
  case lst ds =>
    obtain ⟨l, e1, e2⟩ := map_some (show ((ints? ds).map fun l => D.int l.sum) = some d from hf)
    subst e2
    obtain ⟨p, xs, rfl, h1, r1⟩ := hx.seqL hs
    have e3 := r1.toInts e1
    subst e3
    exact cr_sum hc pins s σ H _ us Q I r ⟨p, l, rfl, SqL.of h1, q _ _ (.old rfl (.int _))⟩
  case tup ds =>
    obtain ⟨l, e1, e2⟩ := map_some (show ((ints? ds).map fun l => D.int l.sum) = some d from hf)
    subst e2
    obtain ⟨p, xs, rfl, h1, r1⟩ := hx.seqT hs
    have e3 := r1.toInts e1
    subst e3
    obtain ⟨its, rv, pt, hz⟩ := I.tuple h1
    rw [Vals.ref1 r]
    have hi := rv.ints
    obtain ⟨ys, ey⟩ := hi.allInts.items
    have hn : numsOf (intItems ys).toList = l := by rw [← ey]; exact hi.numsOf
    rw [nums_intItems] at hn
    have pt2 : s.heap.IsTuple p (intItems ys) := by rw [← ey]; exact pt
    refine PySem.W.ktm_sumG (I.ok.hd hc) pt2 fun h' tk t' hk => ?_
    rw [preSum_eq, List.take_of_length_le (by simp), hn]
    exact ⟨.int l.sum, H, I.kept (t' := tk) hk, ⟨_, rfl⟩, q _ _ (.old rfl (.int _))⟩
theorem ok_all (hc : X.calm = true) : CallR X (.builtin "all") (rB1 X.K (b1D .all)) := by
  intro pins s σ H vs us Q I r ⟨G, c, v, dx, d, e, hs, hx, hf, q⟩
  subst e
  cases dx <;> first | cases hf; done | skip
  case lst ds =>
    obtain ⟨l, e1, e2⟩ := map_some (show ((bools? ds).map fun l => D.bl (l.all id)) = some d from hf)
    subst e2
    obtain ⟨p, xs, rfl, h1, r1⟩ := hx.seqL hs
    have e3 := r1.toBls e1
    subst e3
    exact cr_all hc pins s σ H _ us Q I r ⟨p, l, rfl, SqL.of h1, q _ _ (.old rfl (.bl _))⟩
theorem ok_any (hc : X.calm = true) : CallR X (.builtin "any") (rB1 X.K (b1D .any)) := by
  intro pins s σ H vs us Q I r ⟨G, c, v, dx, d, e, hs, hx, hf, q⟩
  subst e
  cases dx <;> first | cases hf; done | skip
  case lst ds =>
    obtain ⟨l, e1, e2⟩ := map_some (show ((bools? ds).map fun l => D.bl (l.any id)) = some d from hf)
    subst e2
    obtain ⟨p, xs, rfl, h1, r1⟩ := hx.seqL hs
    have e3 := r1.toBls e1
    subst e3
    exact cr_any hc pins s σ H _ us Q I r ⟨p, l, rfl, SqL.of h1, q _ _ (.old rfl (.bl _))⟩
theorem ok_max (hc : X.calm = true) (hu : X.A.units + 65 < cLine) : CallR X (.builtin "max") (rB1 X.K (b1D .max)) := by
  intro pins s σ H vs us Q I r ⟨G, c, v, dx, d, e, hs, hx, hf, q⟩
  subst e
  have hf' : (match seqD dx with
    | some ds => (match ints? ds with
      | some (a :: l) => some (D.int (maxI a l))
      | _ => none)
    | none => none) = some d := by cases dx <;> exact hf
  cases e1 : seqD dx with
  | none => rw [e1] at hf'; cases hf'
  | some ds =>
    rw [e1] at hf'
    dsimp only at hf'
    cases e2 : ints? ds with
    | none => rw [e2] at hf'; cases hf'
    | some l =>
      rw [e2] at hf'
      cases l with
      | nil => cases hf'
      | cons a l =>
        cases hf'
        obtain ⟨p, xs, rfl, h1, r1⟩ := hx.seq hs e1
        have e3 := r1.toInts e2
        subst e3
        rw [Vals.ref1 r]
        have fin : ∀ (i : Nat) (v : Value) (h' : Heap) (tk : Nat), PySem.W.Holds h' v (PySem.W.maxOf a l) → (∀ b o, s.heap.get? b = some o → h'.get? b = some o) → EP X pins σ Q v { s with heap := h', toks := tk } := fun i v h' tk hv hk => by
          obtain ⟨t, rfl⟩ := int_of_holds hv
          rw [maxI_eq]
          exact ⟨.int _, H, I.kept (t' := tk) hk, ⟨_, rfl⟩, q _ _ (.old rfl (.int _))⟩
        rcases h1 with h1 | h1
        · obtain ⟨its, rv, pl, hz⟩ := I.list h1
          exact PySem.W.max_list_datum (I.ok.hd hc) pl.isList (holdInts (K := X.K) I rv) (by show X.A.units + 1 + 0 < cLine; omega) fun i v h' tk _ hv hk => fin i v h' tk hv hk
        · obtain ⟨its, rv, pl, hz⟩ := I.tuple h1
          exact PySem.W.max_tuple_datum (I.ok.hd hc) (show s.heap.IsTuple p its.toArray from pl) (holdInts (K := X.K) I rv) (by show X.A.units + 1 + 0 < cLine; omega) fun i v h' tk _ hv hk => fin i v h' tk hv hk
theorem ok_min (hc : X.calm = true) (hu : X.A.units + 65 < cLine) : CallR X (.builtin "min") (rB1 X.K (b1D .min)) := by
  intro pins s σ H vs us Q I r ⟨G, c, v, dx, d, e, hs, hx, hf, q⟩
  subst e
  have hf' : (match seqD dx with
    | some ds => (match ints? ds with
      | some (a :: l) => some (D.int (minI a l))
      | _ => none)
    | none => none) = some d := by cases dx <;> exact hf
  cases e1 : seqD dx with
  | none => rw [e1] at hf'; cases hf'
  | some ds =>
    rw [e1] at hf'
    dsimp only at hf'
    cases e2 : ints? ds with
    | none => rw [e2] at hf'; cases hf'
    | some l =>
      rw [e2] at hf'
      cases l with
      | nil => cases hf'
      | cons a l =>
        cases hf'
        obtain ⟨p, xs, rfl, h1, r1⟩ := hx.seq hs e1
        have e3 := r1.toInts e2
        subst e3
        rw [Vals.ref1 r]
        have fin : ∀ (i : Nat) (v : Value) (h' : Heap) (tk : Nat), PySem.W.Holds h' v (PySem.W.minOf a l) → (∀ b o, s.heap.get? b = some o → h'.get? b = some o) → EP X pins σ Q v { s with heap := h', toks := tk } := fun i v h' tk hv hk => by
          obtain ⟨t, rfl⟩ := int_of_holds hv
          rw [minI_eq]
          exact ⟨.int _, H, I.kept (t' := tk) hk, ⟨_, rfl⟩, q _ _ (.old rfl (.int _))⟩
        rcases h1 with h1 | h1
        · obtain ⟨its, rv, pl, hz⟩ := I.list h1
          exact PySem.W.min_list_datum (I.ok.hd hc) pl.isList (holdInts (K := X.K) I rv) (by show X.A.units + 1 + 0 < cLine; omega) fun i v h' tk _ hv hk => fin i v h' tk hv hk
        · obtain ⟨its, rv, pl, hz⟩ := I.tuple h1
          exact PySem.W.min_tuple_datum (I.ok.hd hc) (show s.heap.IsTuple p its.toArray from pl) (holdInts (K := X.K) I rv) (by show X.A.units + 1 + 0 < cLine; omega) fun i v h' tk _ hv hk => fin i v h' tk hv hk
theorem ok_abs : CallR X (.builtin "abs") (rB1 X.K (b1D .abs)) := by
  intro pins s σ H vs us Q I r ⟨G, c, v, dx, d, e, hs, hx, hf, q⟩
  subst e
  cases dx <;> first | cases hf; done | skip
  case int i =>
    cases hf
    rw [hx.int] at r
    exact call_abs pins s σ H _ us Q I r ⟨i, rfl, q _ _ (.old rfl (.int _))⟩
theorem ok_int : CallR X (.type "int") (rB1 X.K (b1D .int)) := by
  intro pins s σ H vs us Q I r ⟨G, c, v, dx, d, e, hs, hx, hf, q⟩
  subst e
  cases dx <;> first | cases hf; done | skip
  case int i =>
    cases hf
    rw [hx.int] at r
    exact call_int1 pins s σ H _ us Q I r (.inl ⟨i, rfl, q _ _ (.old rfl (.int _))⟩)
theorem ok_max2 (hc : X.calm = true) : CallR X (.builtin "max") (rB2 X.K (b2D .max)) := by
  intro pins s σ H vs us Q I r ⟨G, c, v, u, dx, dy, d, e, hs, hx, hy, hf, q⟩
  subst e
  cases dx <;> cases dy <;> first | cases hf; done | skip
  case int.int i j =>
    cases hf
    rw [hx.int, hy.int] at r
    exact call_max2 hc pins s σ H _ us Q I r ⟨i, j, rfl, q _ _ (.old rfl (.int _))⟩
theorem ok_min2 (hc : X.calm = true) : CallR X (.builtin "min") (rB2 X.K (b2D .min)) := by
  intro pins s σ H vs us Q I r ⟨G, c, v, u, dx, dy, d, e, hs, hx, hy, hf, q⟩
  subst e
  cases dx <;> cases dy <;> first | cases hf; done | skip
  case int.int i j =>
    cases hf
    rw [hx.int, hy.int] at r
    exact call_min2 hc pins s σ H _ us Q I r ⟨i, j, rfl, q _ _ (.old rfl (.int _))⟩
end
end PF

/-! PF4s: sorted of a list of tuples of ints -/
namespace PFS
open PySem PyProof.Rows SrtO Srt PF
def IsIts (h : Heap) (v : Value) (l : List Int) : Prop := ∃ a o us n, v = .ref a ∧ h.get? a = some o ∧ o.cls = .type "tuple" ∧ o.data = .seq us n ∧ IntsAre us.toList l ∧ l ≠ []
theorem IsIts.keeps {h h' : Heap} {v : Value} {l : List Int} (p : IsIts h v l) (k : ∀ b o, h.get? b = some o → o.cls = .type "tuple" → h'.get? b = some o) : IsIts h' v l := by
  obtain ⟨a, o, us, n, e, ho, hc, r⟩ := p
  exact ⟨a, o, us, n, e, k _ _ ho hc, hc, r⟩
theorem swo_its (k : Value → List Int) : Swo fun v u => lexI (k v) (k u) := ⟨fun x y h => lexI_asym _ _ h, fun x y z h1 h2 => lexI_tr _ _ _ h1 h2⟩
section
variable {prog : Program} {w : World} {A : Around} {E : Value → Shared → Prop} {s : Shared}
theorem its_lex : ∀ (us ws : List Value) (l m : List Int) (i : Nat) (fin : Bool), IntsAre us l → IntsAre ws m → fin = decide (us.length < ws.length) → PySem.W.KatLex prog w A true fin (fun r s' => s' = s ∧ r = lexI l m) (us.zip ws) i s
  | [], [], _, _, i, fin, .nil, .nil, hf => PySem.W.kat_nil ⟨rfl, hf⟩
  | [], _ :: _, _, _, i, fin, .nil, .cons _ _ _, hf => PySem.W.kat_nil ⟨rfl, hf.trans (decide_eq_true (by simp))⟩
  | _ :: _, [], _, _, i, fin, .cons _ _ _, .nil, hf => PySem.W.kat_nil ⟨rfl, hf.trans (decide_eq_false (by simp))⟩
  | _ :: us, _ :: ws, _, _, i, fin, .cons (ns := l) x t r, .cons (ns := m) y u q, hf => by
    show PySem.W.KatLex prog w A true fin _ ((.int x t, .int y u) :: us.zip ws) i s
    refine PySem.W.kat_cons (SeqAt.EqAt.int_int x t y u prog w _ _ ?_)
    refine PySem.W.kat_go (fun e1 => ?_) (fun e1 => ?_)
    · have ex : x = y := by simpa using e1
      have ih := its_lex us ws l m (i + 1) fin r q (hf.trans (by simp))
      rw [lexI_cons, if_pos ex]
      exact PySem.W.kat_yes ih
    · have ex : ¬ x = y := by simpa using e1
      rw [lexI_cons, if_neg ex]
      exact PySem.W.kat_no (TS.oneLt_ints _ ⟨rfl, rfl⟩)
theorem its_cmp {vs : List Value} {k : Value → List Int} (hp : ∀ v ∈ vs, IsIts s.heap v (k v)) : Cmp prog w A s (tuples' true) (fun p => p.1 ∈ vs) (lt2 fun v u => lexI (k v) (k u)) := by
  intro p q hm hm'
  obtain ⟨a, o, us, n, e, ho, hc, hd, hi, _⟩ := hp _ hm
  obtain ⟨a', o', us', n', e', ho', hc', hd', hi', _⟩ := hp _ hm'
  show wpAny (model prog w) A (keyLt' (tuples' true) p.1 q.1) (fun r s' => s' = s ∧ r = lexI (k p.1) (k q.1)) (fun _ _ => False) s
  generalize k p.1 = l at hi ⊢
  generalize k q.1 = m at hi' ⊢
  rw [e, e']
  exact PySem.W.kat_lt ho hd ho' hd' (its_lex _ _ _ _ 0 _ hi hi' (by rw [Array.length_toList, Array.length_toList]))
theorem its_firsts {h : Heap} : ∀ {vs : List Value} {k : Value → List Int}, (∀ v ∈ vs, IsIts h v (k v)) → ∃ fs : List Value, PySem.W.KatTups h vs fs ∧ fs.length = vs.length ∧ ∀ f ∈ fs, ∃ x t, f = Value.int x t
  | [], _, _ => ⟨[], PySem.W.KatTups.nil, rfl, fun _ hm => by simp at hm⟩
  | v :: vs, k, hp => by
    obtain ⟨fs, h1, h2, h3⟩ := its_firsts (vs := vs) (k := k) fun v' hm => hp v' (List.mem_cons_of_mem _ hm)
    obtain ⟨a, o, us, n, e, ho, hc, hd, hi, hne⟩ := hp v (by simp)
    subst e
    have : ∃ x t, us[0]? = some (Value.int x t) := by
      rw [← Array.getElem?_toList]
      generalize us.toList = L at hi ⊢
      generalize k (.ref a) = l at hi hne
      cases hi with
      | nil => exact absurd rfl hne
      | cons x t r => exact ⟨x, t, rfl⟩
    obtain ⟨x, t, hf⟩ := this
    exact ⟨.int x t :: fs, PySem.W.KatTups.cons ho hc hd hf h1, congrArg Nat.succ h2, fun f hm => (List.mem_cons.mp hm).elim (fun z => ⟨x, t, z⟩) (h3 f)⟩
theorem its_sortable {a : Addr} {vs : List Value} {k : Value → List Int} (h0 : 0 < vs.length) (hp : ∀ v ∈ vs, IsIts s.heap v (k v)) (ha : ∀ o, s.heap.get? a = some o → o.cls ≠ .type "tuple") : SortableO prog w A s a vs fun v u => lexI (k v) (k u) := by
  intro h' keep
  have hp' : ∀ v ∈ vs, IsIts h' v (k v) := fun v hm => (hp v hm).keeps fun b o e c => keep b o (fun z => ha o (z ▸ e) c) e
  obtain ⟨fs, h1, h2, h3⟩ := its_firsts hp'
  refine ⟨tuples' true, fun Q E hq => PySem.W.kat_kind (T := .type "int") h1 (by omega) (fun f hm => ?_) (by rfl) ?_, its_cmp hp'⟩
  · obtain ⟨x, t, rfl⟩ := h3 f hm
    exact PySem.W.Looks.now
  · rw [show (Value.type "int" != Value.type "tuple") = true by first | decide +kernel | rfl]
    exact hq
theorem sorted_its {l : Addr} {vs : List Value} {k : Value → List Int} {Q : Value → Shared → Prop} (hl : s.heap.IsList l vs.toArray) (hz : vs.length ≤ sizeLine) (hp : ∀ v ∈ vs, IsIts s.heap v (k v))
    (h : ∀ (h' : Heap) (d : Addr) (out : List Value), Srtd (fun v u => lexI (k v) (k u)) out → out.Perm vs → (∀ b o, s.heap.get? b = some o → h'.get? b = some o) → s.heap.objs.size ≤ d → (∃ n, h'.get? d = some (seqObj "list" out.toArray n)) → Q (.ref d) { s with heap := h' }) :
    wpAny (model prog w) A (call (.builtin "sorted") [.ref l]) Q E s := by
  refine sorted_ord (swo_its k) hl hz (fun h2 h₁ a ha kk => its_sortable (s := { s with heap := h₁ }) (by omega) (fun v hm => (hp v hm).keeps fun b o e _ => (kk b o e).2) fun o e => ?_) fun out hs hb => h _ _ out hs hb.perm (fun b o e => sortedAll_old e) (Nat.le_succ _) (sortedAll_at s.heap vs out.toArray)
  have e' : some o = some (seqObj "list" vs.toArray 0) := e.symm.trans ha
  cases e'
  exact fun c => absurd (Value.type.inj c) (by decide)
/-- of a tuple -/
theorem sorted_itsT {l : Addr} {vs : List Value} {k : Value → List Int} {Q : Value → Shared → Prop} (hl : s.heap.IsTuple l vs.toArray) (hz : vs.length ≤ sizeLine) (hp : ∀ v ∈ vs, IsIts s.heap v (k v))
    (h : ∀ (h' : Heap) (d : Addr) (out : List Value), Srtd (fun v u => lexI (k v) (k u)) out → out.Perm vs → (∀ b o, s.heap.get? b = some o → h'.get? b = some o) → s.heap.objs.size ≤ d → (∃ n, h'.get? d = some (seqObj "list" out.toArray n)) → Q (.ref d) { s with heap := h' }) :
    wpAny (model prog w) A (call (.builtin "sorted") [.ref l]) Q E s := by
  refine Calls.call_function_entry kind_sorted
    plain_sorted entry_sorted (args_sorted1 _) ?_
  unfold Builtin.«sorted»
  refine wpAny_bind (m := checkCount "sorted" 1 1 _)
    (wpAny_pure ?_)
  refine wpAny_bind (collect_tup hl ?_ hz)
  have k1 : ∀ b o, s.heap.get? b = some o → ((s.heap.push (seqObj "list" #[] 0)).update s.heap.objs.size (Obj.mapSeq (· ++ vs.toArray))).get? b = some o := fun b o e => by
    rw [Heap.get?_update_ne _ _ _ _ (Nat.ne_of_lt (Heap.lt_size e))]
    exact Heap.get?_push_of_some _ e
  have k2 : s.heap.objs.size ≤ ((s.heap.push (seqObj "list" #[] 0)).update s.heap.objs.size (Obj.mapSeq (· ++ vs.toArray))).objs.size := by
    rw [Heap.size_update, size_push']
    exact Nat.le_succ _
  generalize ((s.heap.push (seqObj "list" #[] 0)).update s.heap.objs.size (Obj.mapSeq (· ++ vs.toArray))) = g at k1 k2 ⊢
  refine wpAny_bind (wpAny_newList ?_ hz)
  have ho : (g.push (seqObj "list" vs.toArray 0)).get? g.objs.size = some (seqObj "list" vs.toArray 0) := Heap.get?_push_size _ rfl
  have k3 : ∀ b o, s.heap.get? b = some o → (g.push (seqObj "list" vs.toArray 0)).get? b = some o := fun b o e => Heap.get?_push_of_some _ (k1 b o e)
  show wpAny _ _ _ _ _ { s with heap := g.push (seqObj "list" vs.toArray 0) }
  refine wpAny_bind (wpAny_holding (wpAny_call_entry slot_list_sort ⟨_, ho, rfl⟩ entry_list_sort
    (list_sort_ord (swo_its k) ho hz (fun h2 => its_sortable (by omega) (fun v hm => (hp v hm).keeps fun b o e _ => k3 b o e) fun o e c => ?_) fun out h1 h2 => ⟨_, rfl, ?_⟩) (args_list_sort _)))
  · have e' : some o = some (seqObj "list" vs.toArray 0) := e.symm.trans ho
    cases e'
    exact absurd (Value.type.inj c) (by decide)
  · refine wpAny_pure ⟨_, rfl, h _ _ out h1 h2.perm (fun b o e => ?_) k2 (sortedHeap_at ho)⟩
    have hb : b < g.objs.size := Heap.lt_size (k1 b o e)
    rw [sortedHeap_old (Nat.ne_of_lt hb) (Heap.lt_size (k3 b o e))]
    exact k3 b o e
end
end PFS
namespace PF
open PySem PySem.Spec L2 PyProof.Rows
theorem ints_vals : ∀ {l : List Int} {us : List Value}, Vals (l.map V.int) us → IntsAre us l
  | [], [], _ => .nil
  | i :: l, u :: us, .cons h r => by
    obtain ⟨t, rfl⟩ := h
    exact .cons i t (ints_vals r)
theorem ints_map' : ∀ l : List Int, ints? (l.map D.int) = some l
  | [] => rfl
  | i :: r => by
    show (match ints? (r.map D.int) with | some l => some (i :: l) | none => none) = _
    rw [ints_map' r]
def itsAt (h : Heap) (v : Value) : List Int := match v with
  | .ref t => match h.get? t with
    | some o => match o.data with
      | .seq us _ => us.toList.map SrtO.iv
      | _ => []
    | none => []
  | _ => []
theorem itsAt_of {h : Heap} {t : Addr} {o : Obj} {us : Array Value} {n : Nat} {l : List Int} (ho : h.get? t = some o) (hd : o.data = .seq us n) (hi : IntsAre us.toList l) : itsAt h (.ref t) = l := by
  unfold itsAt
  dsimp only
  rw [ho]
  dsimp only
  rw [hd]
  exact SrtO.iv_ints hi
section
variable {X : Cx}
theorem its_all {pins : List (Addr × Obj)} {σ : L2.St} {H G : Hp} {s : Shared} {c : Option Addr} (I : Inv X pins σ H s) (e : Same G H) : ∀ {ls : List (List Int)} {xs : List HV} {us : List Value}, Vals xs us → RepL X.K G c xs (ls.map tupI) → (∀ l ∈ ls, l ≠ []) →
    us.map (itsAt s.heap) = ls ∧ ∀ u ∈ us, PFS.IsIts s.heap u (itsAt s.heap u) ∧ ∃ t, u = .ref t ∧ Rep X.K G c (.ref t) (tupI (itsAt s.heap u))
  | [], _, _, r, .nil, _ => by
    cases r
    exact ⟨rfl, fun u hu => by cases hu⟩
  | l :: ls, _, _, .cons (b := u) hu r, .cons h q, hn => by
    obtain ⟨h1, h2⟩ := its_all I e r q fun m hm => hn m (List.mem_cons_of_mem _ hm)
    have hr := h
    unfold tupI at h
    cases h with
    | tup a b =>
      have b := b.toInts (ints_map' l)
      subst b
      obtain rfl : u = Value.ref _ := hu
      obtain ⟨us, r2, ⟨o, ho, hc, n, hd⟩, _⟩ := I.tuple (Same.sqT e a.sqT)
      have hi : IntsAre us l := ints_vals r2
      have k := itsAt_of ho hd hi
      refine ⟨by rw [List.map_cons, k, h1], fun v hv => ?_⟩
      rcases List.mem_cons.mp hv with z | hv
      · subst z
        rw [k]
        exact ⟨⟨_, o, us.toArray, n, rfl, ho, hc, hd, hi, hn l (by simp)⟩, _, rfl, hr⟩
      · exact h2 v hv
theorem cr_sortedIts : CallR X (.builtin "sorted") (fun vs H Q => ∃ a xs ls G c, vs = [V.ref a] ∧ SqL X.K H a xs ∧ Same G H ∧ RepL X.K G c xs ((ls : List (List Int)).map tupI) ∧ (∀ l ∈ ls, l ≠ []) ∧
    ∀ ys p, RepL X.K G c ys ((sortT ls).map tupI) → H p = none → Q (.ref p) (upd H p (.lst ys))) := by
  intro pins s σ H vs us Q I r ⟨a, xs, ls, G, c, e0, hs, e, hr, hne, q⟩
  subst e0
  obtain ⟨its, rv, hl, hz⟩ := I.list hs
  rw [Vals.ref1 r]
  obtain ⟨k1, k2⟩ := its_all I e rv hr hne
  refine PFS.sorted_its (k := itsAt s.heap) hl.isList (by rw [← rv.length]; exact hz) (fun v hv => (k2 v hv).1) fun h' d out h1 h2 kp hd hn => ?_
  have h3 : ∀ u ∈ out, ∃ a, u = Value.ref a := fun u hu => by
    obtain ⟨_, t, z, _⟩ := k2 u (h2.mem_iff.mp hu)
    exact ⟨t, z⟩
  have e4 : out.map (itsAt s.heap) = sortT ls := by
    refine (sortT_of ?_ (List.pairwise_map.mpr h1)).symm
    rw [← k1]
    exact (h2.map _).symm
  have h5 : ∀ (o : List Value), (∀ u ∈ o, u ∈ its) → RepL X.K G c (o.map backV) ((o.map (itsAt s.heap)).map tupI) := by
    intro o
    induction o with
    | nil => exact fun _ => .nil
    | cons u o ih =>
      intro h
      obtain ⟨_, t, z, hh⟩ := k2 u (h u (by simp))
      refine .cons ?_ (ih fun w hw => h w (List.mem_cons_of_mem _ hw))
      rw [z] at hh ⊢
      exact hh
  have h6 := h5 out fun u hu => h2.mem_iff.mp hu
  rw [e4] at h6
  obtain ⟨n, hn⟩ := hn
  refine ⟨.ref d, upd H d (.lst (out.map backV)), I.laid (t' := s.toks) kp hd ⟨?_, out, n, vals_back h3, hn⟩, rfl, q _ d h6 (I.hok.fresh hd)⟩
  rw [List.length_map, h2.length_eq, ← rv.length]
  exact hz
theorem cr_sortedItsT : CallR X (.builtin "sorted") (fun vs H Q => ∃ a xs ls G c, vs = [V.ref a] ∧ SqT X.K H a xs ∧ Same G H ∧ RepL X.K G c xs ((ls : List (List Int)).map tupI) ∧ (∀ l ∈ ls, l ≠ []) ∧
    ∀ ys p, RepL X.K G c ys ((sortT ls).map tupI) → H p = none → Q (.ref p) (upd H p (.lst ys))) := by
  intro pins s σ H vs us Q I r ⟨a, xs, ls, G, c, e0, hs, e, hr, hne, q⟩
  subst e0
  obtain ⟨its, rv, hl, hz⟩ := I.tuple hs
  rw [Vals.ref1 r]
  obtain ⟨k1, k2⟩ := its_all I e rv hr hne
  refine PFS.sorted_itsT (k := itsAt s.heap) (show s.heap.IsTuple a its.toArray from hl) (by rw [← rv.length]; exact hz) (fun v hv => (k2 v hv).1) fun h' d out h1 h2 kp hd hn => ?_
  have h3 : ∀ u ∈ out, ∃ a, u = Value.ref a := fun u hu => by
    obtain ⟨_, t, z, _⟩ := k2 u (h2.mem_iff.mp hu)
    exact ⟨t, z⟩
  have e4 : out.map (itsAt s.heap) = sortT ls := by
    refine (sortT_of ?_ (List.pairwise_map.mpr h1)).symm
    rw [← k1]
    exact (h2.map _).symm
  have h5 : ∀ (o : List Value), (∀ u ∈ o, u ∈ its) → RepL X.K G c (o.map backV) ((o.map (itsAt s.heap)).map tupI) := by
    intro o
    induction o with
    | nil => exact fun _ => .nil
    | cons u o ih =>
      intro h
      obtain ⟨_, t, z, hh⟩ := k2 u (h u (by simp))
      refine .cons ?_ (ih fun w hw => h w (List.mem_cons_of_mem _ hw))
      rw [z] at hh ⊢
      exact hh
  have h6 := h5 out fun u hu => h2.mem_iff.mp hu
  rw [e4] at h6
  obtain ⟨n, hn⟩ := hn
  refine ⟨.ref d, upd H d (.lst (out.map backV)), I.laid (t' := s.toks) kp hd ⟨?_, out, n, vals_back h3, hn⟩, rfl, q _ d h6 (I.hok.fresh hd)⟩
  rw [List.length_map, h2.length_eq, ← rv.length]
  exact hz
theorem tIs_of : ∀ {ds : List D} {ls : List (List Int)}, tIs? ds = some ls → ds = ls.map tupI ∧ ∀ l ∈ ls, l ≠ []
  | [], ls, h => by
    cases h
    exact ⟨rfl, fun l hl => by cases hl⟩
  | d :: r, ls, h => by
    have h : (match tI? d with | some l => (match tIs? r with | some m => some (l :: m) | none => none) | none => none) = some ls := h
    cases e1 : tI? d with
    | none => rw [e1] at h; cases h
    | some l =>
      rw [e1] at h
      dsimp only at h
      cases e2 : tIs? r with
      | none => rw [e2] at h; cases h
      | some m =>
        rw [e2] at h
        cases h
        obtain ⟨h1, h2⟩ := tIs_of e2
        have h3 : d = tupI l ∧ l ≠ [] := by
          cases d with
          | tup ds =>
            have e1 : (match ints? ds with | some (a :: l) => some (a :: l) | _ => none) = some l := e1
            cases e3 : ints? ds with
            | none => rw [e3] at e1; cases e1
            | some z =>
              rw [e3] at e1
              cases z with
              | nil => cases e1
              | cons a z =>
                cases e1
                have : ∀ {ds : List D} {l : List Int}, ints? ds = some l → ds = l.map D.int := by
                  intro ds
                  induction ds with
                  | nil => intro l h; cases h; rfl
                  | cons d r ih =>
                    intro l h
                    cases d with
                    | int i =>
                      have h : (match ints? r with | some l => some (i :: l) | none => none) = some l := h
                      cases e : ints? r with
                      | none => rw [e] at h; cases h
                      | some m => rw [e] at h; cases h; rw [ih e]; rfl
                    | _ => cases h
                exact ⟨congrArg D.tup (this e3), by simp⟩
          | _ => cases e1
        refine ⟨by rw [h3.1, h1]; rfl, fun x hx => ?_⟩
        rcases List.mem_cons.mp hx with z | hx
        · rw [z]; exact h3.2
        · exact h2 x hx
theorem ok_sorted : CallR X (.builtin "sorted") (rB1 X.K (b1D .sorted)) := by
  intro pins s σ H vs us Q I r ⟨G, c, v, dx, d, e, hs, hx, hf, q⟩
  have hf' : (match seqD dx with
    | some ds => (match ints? ds with
      | some l => if szOk l.length then some (D.lst ((sortI l).map .int)) else none
      | none => sortedT dx)
    | none => none) = some d := by cases dx <;> exact hf
  cases e1 : seqD dx with
  | none => rw [e1] at hf'; cases hf'
  | some ds =>
    rw [e1] at hf'
    dsimp only at hf'
    cases e2 : ints? ds with
    | some l => 
      refine ok_sortedI pins s σ H vs us Q I r ⟨G, c, v, dx, d, e, hs, hx, ?_, q⟩
      unfold sortedI
      rw [e1]
      dsimp only
      rw [e2]
      rw [e2] at hf'
      exact hf'
    | none =>
      rw [e2] at hf'
      subst e
      cases dx with
      | lst es =>
        have hf' : (match tIs? es with | some l => if szOk l.length then some (D.lst ((sortT l).map tupI)) else none | none => none) = some d := hf'
        cases e3 : tIs? es with
        | none => rw [e3] at hf'; cases hf'
        | some ls =>
          rw [e3] at hf'
          dsimp only at hf'
          split at hf'
          · cases hf'
            obtain ⟨h1, h2⟩ := tIs_of e3
            subst h1
            obtain ⟨p, xs, rfl, h3, r1⟩ := hx.seqL hs
            exact cr_sortedIts pins s σ H _ us Q I r ⟨p, xs, ls, G, c, rfl, SqL.of h3, hs, r1, h2, fun ys p' hy hp => q _ _ (.lst hp hy)⟩
          · cases hf'
      | tup es =>
        have hf' : (match tIs? es with | some l => if szOk l.length then some (D.lst ((sortT l).map tupI)) else none | none => none) = some d := hf'
        cases e3 : tIs? es with
        | none => rw [e3] at hf'; cases hf'
        | some ls =>
          rw [e3] at hf'
          dsimp only at hf'
          split at hf'
          · cases hf'
            obtain ⟨h1, h2⟩ := tIs_of e3
            subst h1
            obtain ⟨p, xs, rfl, h3, r1⟩ := hx.seqT hs
            exact cr_sortedItsT pins s σ H _ us Q I r ⟨p, xs, ls, G, c, rfl, h3, hs, r1, h2, fun ys p' hy hp => q _ _ (.lst hp hy)⟩
          · cases hf'
      | _ => cases hf'
end
end PF

namespace PF
open PySem PySem.Spec L2
/-! ### what a loop walks: a list (t = false) or a tuple (t = true) -/
def SqB (t : Bool) (K : Fg) (H : Hp) (a : Addr) (xs : List HV) : Prop := if t then SqT K H a xs else SqL K H a xs
def HpSq (t : Bool) (h : Heap) (a : Addr) (its : Array Value) : Prop := if t then h.IsTuple a its else h.IsList a its
def HpIt (t : Bool) (h : Heap) (it a : Addr) (i : Nat) : Prop := if t then h.IsTupleIter it a i else h.IsListIter it a i
theorem HpIt.at {t : Bool} {h h' : Heap} {it a : Addr} {i : Nat} (x : HpIt t h it a i) (k : ∀ o, h.get? it = some o → h'.get? it = some o) : HpIt t h' it a i := by
  cases t
  · exact Heap.IsListIter.at (show h.IsListIter it a i from x) k
  · exact Heap.IsTupleIter.at (show h.IsTupleIter it a i from x) k
theorem HpIt.obj {t : Bool} {h : Heap} {it a : Addr} {i : Nat} (x : HpIt t h it a i) : ∃ o vs, h.get? it = some o ∧ o.data = .fields vs := by
  cases t
  · obtain ⟨o, e, _, d⟩ := (show h.IsListIter it a i from x)
    exact ⟨o, _, e, d⟩
  · obtain ⟨o, e, _, d⟩ := (show h.IsTupleIter it a i from x)
    exact ⟨o, _, e, d⟩
theorem draws {prog : Program} {w : World} {A : Around} (hh : A.handled = none) (t : Bool) (it l : Addr) (hne : l ≠ it) (its : Array Value) :
    Draws prog w A it [it, l] its.size (fun i v => its[i]? = some v) (fun i h => HpIt t h it l i ∧ HpSq t h l its) := by
  cases t
  · exact Draws.list hh it l hne its
  · exact Draws.tuple hh it l hne its
def itObj (t : Bool) (a : Addr) : Obj := { cls := .type (if t then "tuple_iterator" else "list_iterator"), data := .fields #[.ref a, .int 0 0] }
theorem begins (t : Bool) (a : Addr) (its : Array Value) : Begins (.ref a) (itObj t a) fun h => HpSq t h a its := by
  cases t
  · exact begins_list a its
  · exact begins_tuple a its
theorem HpIt.start {t : Bool} {h : Heap} {it a : Addr} (e : h.get? it = some (itObj t a)) : HpIt t h it a 0 := by
  cases t
  · exact ⟨_, e, rfl, rfl⟩
  · exact ⟨_, e, rfl, rfl⟩
theorem meets_enum1 {v : Value} {o : Obj} {H : Heap → Prop} (B : Begins v o H) :
    Meets (Builtin.«enumerate.__new__» ⟨[.type "enumerate", v], []⟩) (fun _ R z => H z.heap ∧
      R (.ok (.ret (.ref (z.heap.push o).objs.size))) { z with heap := (z.heap.push o).push { cls := .type "enumerate", data := .fields #[.none, .bool false, .ref z.heap.objs.size, rawInt 0, .none, .none] } }) :=
  .of_wp fun prog w A R z h => by
    obtain ⟨hp', g', d', tk', os'⟩ := z
    obtain ⟨h1, h⟩ := h
    have hsub := sub_enumerate
    have q1 : ∀ {A' : Around} {E : Value → Shared → Prop} {Q : Value → Shared → Prop}, Q (.ref hp'.objs.size) ⟨hp'.push o, g', d', tk', os'⟩ → wpAny (model prog w) A' (pyIter v) Q E ⟨hp', g', d', tk', os'⟩ :=
      fun q => B.iter prog w _ _ ⟨hp', g', d', tk', os'⟩ _ h1 q
    wp_walk using q1
    refine wpAny_stack_any fun st => wpAny_pure ?_
    split
    · rename_i c _ _ _ _ _
      cases (c == Value.type "enumerate")
      · wp_walk using q1
        exact ⟨_, rfl, h⟩
      · wp_walk using q1
        exact ⟨_, rfl, h⟩
    · wp_walk using q1
      exact ⟨_, rfl, h⟩
section
variable {prog : Program} {w : World} {A : Around} {E : Value → Shared → Prop} {s : Shared}
theorem enum1 {v : Value} {o : Obj} {H : Heap → Prop} {Q : Value → Shared → Prop} (B : Begins v o H) (h1 : H s.heap)
    (h : ∀ h', IsEnum h' (s.heap.objs.size + 1) s.heap.objs.size 0 .none → h'.get? s.heap.objs.size = some o → (∀ b x, s.heap.get? b = some x → h'.get? b = some x) → Q (.ref (s.heap.objs.size + 1)) { s with heap := h' }) :
    wpAny (model prog w) A (call (.type "enumerate") [v]) Q E s := by
  refine callType_new F.called_enumerate (by decide) (F.typeCall_enumerate_1 _) (F.newCall_enumerate_1 _) (fun obj => F.args_object_init_2 obj _) F.entry_enumerate_new (meets_enum1 B) ⟨h1, ?_⟩
  have hz : (s.heap.push o).objs.size = s.heap.objs.size + 1 := Heap.size_push ..
  show _ ∧ _
  rw [hz]
  have he : IsEnum ((s.heap.push o).push { cls := .type "enumerate", data := .fields #[.none, .bool false, .ref s.heap.objs.size, rawInt 0, .none, .none] }) (s.heap.objs.size + 1) s.heap.objs.size 0 .none := by
    have z := Heap.get?_push_size (s.heap.push o) (o := { cls := .type "enumerate", data := .fields #[.none, .bool false, .ref s.heap.objs.size, rawInt 0, .none, .none] }) rfl
    rw [hz] at z
    exact z
  exact ⟨⟨_, he, rfl⟩, h _ he (Heap.get?_push_of_some _ (Heap.get?_push_size _ B.free)) fun b o x => Heap.get?_push_of_some _ (Heap.get?_push_of_some _ x)⟩
end
section
variable {X : Cx} {pins : List (Addr × Obj)} {σ : L2.St} {H : Hp} {s : Shared}
theorem inv_sqB {t : Bool} {a : Addr} {xs : List HV} (I : L2.Inv X pins σ H s) (h : SqB t X.K H a xs) : ∃ its : List Value, Vals xs its ∧ HpSq t s.heap a its.toArray ∧ xs.length ≤ sizeLine := by
  cases t
  · obtain ⟨its, r, p, z⟩ := I.list (show SqL X.K H a xs from h)
    exact ⟨its, r, p.isList, z⟩
  · obtain ⟨its, r, p, z⟩ := I.tuple (show SqT X.K H a xs from h)
    exact ⟨its, r, p, z⟩
theorem sqB_inj {t : Bool} {a : Addr} {xs ys : List HV} (I : L2.Inv X pins σ H s) (h : SqB t X.K H a xs) (h' : SqB t X.K H a ys) : xs = ys := by
  cases t
  · exact I.list_inj h h'
  · exact I.tuple_inj h h'
theorem sqB_lt {t : Bool} {h : Heap} {a : Addr} {its : Array Value} (x : HpSq t h a its) : a < h.objs.size := by
  cases t
  · obtain ⟨o, e, _⟩ := (show h.IsList a its from x)
    exact Heap.lt_size e
  · obtain ⟨o, e, _⟩ := (show h.IsTuple a its from x)
    exact Heap.lt_size e
end
/-- enumerate of what lies at a -/
def ItE (K : Fg) (t : Bool) (a : Addr) (n : Nat) : It :=
  ⟨fun i H => ∃ (xs : List HV) (x : HV), SqB t K H a xs ∧ xs.length = n ∧ xs[i]? = some x,
   fun i H v H' => ∃ T x, v = .ref T ∧ H T = none ∧ H' = upd H T (.tup [.int (i : Nat), x]) ∧ ∀ xs, SqB t K H a xs → xs[i]? = some x,
   fun i H => ∃ xs : List HV, SqB t K H a xs ∧ xs.length = n ∧ n ≤ i⟩
theorem turnE {P : Program} {w : World} {K : Fg} {elts : List Expr} {kk : Nat} {tpos : Pos} (t : Bool) (a : Addr) (n : Nat) (e it : Addr) :
    Turn P w K (.Tuple elts kk tpos) (ItE K t a n) [e, it] e (fun i h => (∃ old, IsEnum h e it ((i : Nat) : Int) old) ∧ HpIt t h it a i ∧ e ≠ it ∧ a ≠ e ∧ a ≠ it ∧ i ≤ n) where
  mem := by simp
  obj := fun i h st b hb => by
    obtain ⟨⟨old, he⟩, hi, _⟩ := st
    obtain ⟨o, vs, ho, hd⟩ := hi.obj
    have e2 : b = e ∨ b = it := by simpa using hb
    rcases e2 with z | z
    · rw [z]; exact ⟨_, he, fun v q => by cases q⟩
    · rw [z]; exact ⟨o, ho, fun v q => by rw [hd] at q; cases q⟩
  keep := fun i h h' st k => by
    obtain ⟨⟨old, he⟩, hi, r⟩ := st
    exact ⟨⟨old, k e (by simp) _ he⟩, hi.at fun o q => k it (by simp) o q, r⟩
  item := by
    intro X eP ew eK hcalm i pins s σ H E I hf st hgo
    subst eP ew eK
    obtain ⟨⟨old, he⟩, hit, hne, hae, hai, hin⟩ := st
    obtain ⟨xs, x, hq, hxn, hx⟩ := hgo
    obtain ⟨its, rv, p, hz⟩ := inv_sqB I hq
    obtain ⟨u, hu, ru⟩ := rv.get hx
    have hel : e < s.heap.objs.size := Heap.lt_size he
    have hil : it < s.heap.objs.size := by obtain ⟨_, _, q, _⟩ := hit.obj; exact Heap.lt_size q
    have hlen := rv.length
    have hix : i < its.toArray.size := by
      have := (List.getElem?_eq_some_iff.mp hu).1
      simpa using this
    refine wpAny_pyNext_enum_itemD (draws (A := X.A.in1) (I.ok.hd hcalm) t it a hai its.toArray) he ⟨hit, p⟩ hix hne (by simp [hne, Ne.symm hae]) fun x' h' tk hx' ho hst' hT hsz hk => ?_
    have eu : x' = u := by
      have z : its.toArray[i]? = some u := by simpa using hu
      have y : its.toArray[i]? = some x' := hx'
      rw [z] at y
      exact (Option.some.inj y).symm
    subst eu
    refine ⟨_, rfl, wpAny_letOwnedTupleGo_enum (s := { s with heap := h', toks := tk + 1 }) ho fun h2 he' sb => ?_⟩
    have hT2 : h2.get? s.heap.objs.size = some { cls := .type "tuple", data := .seq #[.int i tk, x'] } := (sb.2 _ (Nat.ne_of_gt hel)).trans hT
    have new : ObjOk X.prog X.w (upd H s.heap.objs.size (.tup [.int (i : Nat), x])) h2 s.heap.objs.size (.tup [.int (i : Nat), x]) :=
      ⟨(by show 2 ≤ sizeLine; decide), [.int i tk, x'], .cons ⟨_, rfl⟩ (.cons ru .nil), ⟨_, hT2, rfl, _, rfl⟩⟩
    have I1 : L2.Inv X pins σ (upd H s.heap.objs.size (.tup [.int (i : Nat), x])) { s with heap := h2, toks := tk + 1 } :=
      I.turnedNew (ch := [e, it]) (fun b ob hb q => (sb.2 b (fun z => hb (by simp [z]))).trans (hk b ob (fun z => hb (by simp [z])) (fun z => hb (by simp [z])) q)) hf (Nat.le_refl _) new
    refine ⟨.ref s.heap.objs.size, _, I1, rfl, ⟨_, x, rfl, I.hok.fresh (Nat.le_refl _), rfl, fun ys hy => by rw [sqB_inj I hy hq]; exact hx⟩, ⟨⟨x', ?_⟩, hst'.1.at fun o q => (sb.2 it (Ne.symm hne)).trans q, hne, hae, hai, by simp at hix; omega⟩, fun b hb => ?_⟩
    · have e1 : ((i + 1 : Nat) : Int) = (i : Int) + 1 := by omega
      rw [e1]
      exact he'
    · have hb2 : b < s.heap.objs.size := by
        have e2 : b = e ∨ b = it := by simpa using hb
        rcases e2 with z | z
        · rw [z]; exact hel
        · rw [z]; exact hil
      rw [upd_ne (Nat.ne_of_lt hb2)]
      exact (hf b hb).1
  done := by
    intro X eP ew eK hcalm i pins s σ H E I hf st hgo
    subst eP ew eK
    obtain ⟨⟨old, he⟩, hit, hne, hae, hai, hin⟩ := st
    obtain ⟨xs, hq, hxn, hx⟩ := hgo
    obtain ⟨its, rv, p, hz⟩ := inv_sqB I hq
    have hl := rv.length
    obtain ⟨f0, f1, f2, f3, f4, f5⟩ := hf it (by simp)
    have ei : i = its.toArray.size := by
      rw [List.size_toArray]
      omega
    rw [ei] at hit
    exact wpAny_pyNext_enum_endD (draws (A := X.A.in1) (I.ok.hd hcalm) t it a hai its.toArray) he ⟨hit, p⟩ fun h' eb => ⟨rfl, I.turned (t' := s.toks) (fun b o hb q => eb b o hb q) f0 f1 f3 f4 f5⟩
  self := fun A i s Q E st h => let ⟨⟨_, he⟩, _⟩ := st; wpAny_pyIter_enum he h
def iE (K : Fg) (ta : TA) : TI := fun σ H R => ta σ H fun vs H1 => ∃ t a xs, vs = [.ref a] ∧ SqB t K H1 a xs ∧ R (ItE K t a xs.length) H1
theorem pi_E {X : Cx} {e : Expr} {ta : TA} {p pos tpos : Pos} {elts : List Expr} {kk : Nat} (hg : Gl X "enumerate") (hm : X.mg "enumerate" = none) (ha : PA X [e] ta) (hs : starEach [e] X.env = [(false, eval e X.env)]) :
    PI X (.Tuple elts kk tpos) (.Call (.Name "enumerate" p) [e] [] pos) (iE X.K ta) := by
  refine ⟨fun pins s σ H R I h => ?_⟩
  refine PyProof.Rows.Call_ (ld_blt I hg hm PyProof.Rows.boot_enumerate (PyProof.Rows.callWith_type1 (thn (ha.run pos pins s σ H _ I h) fun us s1 ⟨vs, H1, I1, r1, q1⟩ => ?_) hs rfl))
  obtain ⟨t, a, xs, ex, hq, q⟩ := q1
  subst ex
  rw [Vals.ref1 r1]
  obtain ⟨its, rv, p', hz⟩ := inv_sqB I1 hq
  have hlt := sqB_lt p'
  refine enum1 (begins t a its.toArray) p' fun h' he hit hk => wpAny_pyIter_enum he ?_
  have I2 : L2.Inv X pins σ H1 { s1 with heap := h' } := I1.kept (t' := s1.toks) hk
  refine ⟨s1.heap.objs.size + 1, [s1.heap.objs.size + 1, s1.heap.objs.size], _, _, H1, rfl, I2, turnE t a xs.length (s1.heap.objs.size + 1) s1.heap.objs.size, ⟨⟨.none, he⟩, .start hit, Nat.succ_ne_self _, Nat.ne_of_lt (Nat.lt_succ_of_lt hlt), Nat.ne_of_lt hlt, Nat.zero_le _⟩, fun b hb => ?_, q⟩
  have hle : s1.heap.objs.size ≤ b := by
    have e2 : b = s1.heap.objs.size + 1 ∨ b = s1.heap.objs.size := by simpa using hb
    rcases e2 with z | z
    · rw [z]; exact Nat.le_add_right _ _
    · rw [z]; exact Nat.le_refl _
  exact I1.fpOk hle (I1.hok.fresh hle)
/-- zip of what lies at a and b -/
def ItZ (K : Fg) (t u : Bool) (a b : Addr) (n m : Nat) : It :=
  ⟨fun i H => ∃ (xs ys : List HV) (x y : HV), SqB t K H a xs ∧ SqB u K H b ys ∧ xs.length = n ∧ ys.length = m ∧ xs[i]? = some x ∧ ys[i]? = some y,
   fun i H v H' => ∃ T x y, v = .ref T ∧ H T = none ∧ H' = upd H T (.tup [x, y]) ∧ (∀ xs, SqB t K H a xs → xs[i]? = some x) ∧ ∀ ys, SqB u K H b ys → ys[i]? = some y,
   fun i H => ∃ xs ys : List HV, SqB t K H a xs ∧ SqB u K H b ys ∧ xs.length = n ∧ ys.length = m ∧ (n ≤ i ∨ m ≤ i)⟩
theorem turnZ {P : Program} {w : World} {K : Fg} {elts : List Expr} {kk : Nat} {tpos : Pos} (t u : Bool) {a b z TI TO i1 i2 : Addr} (n m : Nat) (D : ZipSep2 z TI TO i1 i2 [i1, a] [i2, b]) (ha : a ≠ i1) (hb : b ≠ i2) :
    Turn P w K (.Tuple elts kk tpos) (ItZ K t u a b n m) [z, TI, TO, i1, i2] z (fun i h => IsZip h z TI TO .none ∧ IsTupOf2 h TI (.ref i1) (.ref i2) ∧ (∃ x y, IsTupOf2 h TO x y) ∧ HpIt t h i1 a i ∧ HpIt u h i2 b i ∧ i ≤ n ∧ i ≤ m) where
  mem := by simp
  obj := fun i h st c hc => by
    obtain ⟨hz, hTI, ⟨x, y, hTO⟩, h1, h2, _⟩ := st
    obtain ⟨o1, vs1, e1, d1⟩ := h1.obj
    obtain ⟨o2, vs2, e2, d2⟩ := h2.obj
    have e' : c = z ∨ c = TI ∨ c = TO ∨ c = i1 ∨ c = i2 := by simpa using hc
    rcases e' with q | q | q | q | q
    · rw [q]; exact ⟨_, hz, fun v q => by cases q⟩
    · rw [q]; exact ⟨_, hTI, fun v q => by cases q⟩
    · rw [q]; exact ⟨_, hTO, fun v q => by cases q⟩
    · rw [q]; exact ⟨o1, e1, fun v q => by rw [d1] at q; cases q⟩
    · rw [q]; exact ⟨o2, e2, fun v q => by rw [d2] at q; cases q⟩
  keep := fun i h h' st k => by
    obtain ⟨hz, hTI, ⟨x, y, hTO⟩, h1, h2, r⟩ := st
    exact ⟨k z (by simp) _ hz, k TI (by simp) _ hTI, ⟨x, y, k TO (by simp) _ hTO⟩, h1.at (fun o q => k i1 (by simp) o q), h2.at (fun o q => k i2 (by simp) o q), r⟩
  item := by
    intro X eP ew eK hcalm i pins s σ H E I hf st hgo
    subst eP ew eK
    obtain ⟨hz, hTI, ⟨x0, y0, hTO⟩, h1, h2, hin, him⟩ := st
    obtain ⟨xs, ys, x, y, hqx, hqy, hxn, hym, hx, hy⟩ := hgo
    obtain ⟨its, rv, p, _⟩ := inv_sqB I hqx
    obtain ⟨its2, rv2, p2, _⟩ := inv_sqB I hqy
    obtain ⟨v1, hv1, rv1⟩ := rv.get hx
    obtain ⟨v2, hv2, rv2'⟩ := rv2.get hy
    have l1 : i < its.toArray.size := by simpa using (List.getElem?_eq_some_iff.mp hv1).1
    have l2 : i < its2.toArray.size := by simpa using (List.getElem?_eq_some_iff.mp hv2).1
    have hl1 := rv.length
    have hl2 := rv2.length
    have hzl : z < s.heap.objs.size := Heap.lt_size hz
    refine wpAny_pyNext_zipD2_item D (draws (A := X.A.in1) (I.ok.hd hcalm) t i1 a ha its.toArray) (draws (A := X.A.in1) (I.ok.hd hcalm) u i2 b hb its2.toArray) hz hTI hTO ⟨h1, p⟩ ⟨h2, p2⟩ l1 l2 fun x1 x2 h' tk hx1 hx2 z' TO' s1' s2' hT hsz hk => ?_
    have e1 : x1 = v1 := by
      have q1 : its.toArray[i]? = some v1 := by simpa using hv1
      have q2 : its.toArray[i]? = some x1 := hx1
      rw [q1] at q2
      exact (Option.some.inj q2).symm
    have e2 : x2 = v2 := by
      have q1 : its2.toArray[i]? = some v2 := by simpa using hv2
      have q2 : its2.toArray[i]? = some x2 := hx2
      rw [q1] at q2
      exact (Option.some.inj q2).symm
    subst e1 e2
    refine ⟨_, rfl, wpAny_letOwnedTupleGo_zip (s := { s with heap := h', toks := tk }) z' fun h3 z3 sb => ?_⟩
    have hT2 : h3.get? s.heap.objs.size = some { cls := .type "tuple", data := .seq #[x1, x2] } := (sb.2 _ (Nat.ne_of_gt hzl)).trans hT
    have new : ObjOk X.prog X.w (upd H s.heap.objs.size (.tup [x, y])) h3 s.heap.objs.size (.tup [x, y]) :=
      ⟨(by show 2 ≤ sizeLine; decide), [x1, x2], .cons rv1 (.cons rv2' .nil), ⟨_, hT2, rfl, _, rfl⟩⟩
    have I1 : L2.Inv X pins σ (upd H s.heap.objs.size (.tup [x, y])) { s with heap := h3, toks := tk } :=
      I.turnedNew (t' := tk) (ch := [z, TI, TO, i1, i2]) (fun c o hb q => (sb.2 c (fun q' => hb (by simp [q']))).trans (hk c o (fun q' => hb (by simp [q'])) (fun q' => hb (by simp [q'])) (fun q' => hb (by simp [q'])) (fun q' => hb (by simp [q'])) q)) hf (Nat.le_refl _) new
    have zi1 : i1 ≠ z := Ne.symm D.zi1
    have zi2 : i2 ≠ z := Ne.symm D.zi2
    refine ⟨.ref s.heap.objs.size, _, I1, rfl, ⟨_, x, y, rfl, I.hok.fresh (Nat.le_refl _), rfl, fun l hl => by rw [sqB_inj I hl hqx]; exact hx, fun l hl => by rw [sqB_inj I hl hqy]; exact hy⟩, ⟨z3, ?_, ⟨x1, x2, ?_⟩, ?_, ?_, ?_, ?_⟩, fun c hcm => ?_⟩
    · exact (sb.2 _ D.TIz).trans (hk _ _ D.TIz D.TITO D.TIi1 D.TIi2 hTI)
    · exact (sb.2 _ D.TOz).trans TO'
    · exact s1'.1.at fun o q => (sb.2 _ zi1).trans q
    · exact s2'.1.at fun o q => (sb.2 _ zi2).trans q
    · simp at l1; omega
    · simp at l2; omega
    · have hlt : c < s.heap.objs.size := by
        have e' : c = z ∨ c = TI ∨ c = TO ∨ c = i1 ∨ c = i2 := by simpa using hcm
        rcases e' with q | q | q | q | q
        · rw [q]; exact hzl
        · rw [q]; exact Heap.lt_size hTI
        · rw [q]; exact Heap.lt_size hTO
        · rw [q]; obtain ⟨_, _, e1, _⟩ := h1.obj; exact Heap.lt_size e1
        · rw [q]; obtain ⟨_, _, e2, _⟩ := h2.obj; exact Heap.lt_size e2
      rw [upd_ne (Nat.ne_of_lt hlt)]
      exact (hf c hcm).1
  done := by
    intro X eP ew eK hcalm i pins s σ H E I hf st hgo
    subst eP ew eK
    obtain ⟨hz, hTI, ⟨x0, y0, hTO⟩, h1, h2, hin, him⟩ := st
    obtain ⟨xs, ys, hqx, hqy, hxn, hym, hend⟩ := hgo
    obtain ⟨its, rv, p, _⟩ := inv_sqB I hqx
    obtain ⟨its2, rv2, p2, _⟩ := inv_sqB I hqy
    have l1 := rv.length
    have l2 := rv2.length
    refine wpAny_pyNext_zipD2_end D (draws (A := X.A.in1) (I.ok.hd hcalm) t i1 a ha its.toArray) (draws (A := X.A.in1) (I.ok.hd hcalm) u i2 b hb its2.toArray) hz hTI hTO ⟨h1, p⟩ ⟨h2, p2⟩ (by simp; omega) (by simp; omega) (by simp; omega) fun h' tk hk => ⟨rfl, I.turnedL (t' := tk) (ch := [z, TI, TO, i1, i2]) (fun c o hb q =>
      hk c o (fun q' => hb (by simp [q'])) (fun q' => hb (by simp [q'])) (fun q' => hb (by simp [q'])) (fun q' => hb (by simp [q'])) q) hf⟩
  self := fun A i s Q E st h => wpAny_pyIter_zip st.1 h
def iZ (K : Fg) (ta : TA) : TI := fun σ H R => ta σ H fun vs H1 => ∃ t u a b xs ys, vs = [.ref a, .ref b] ∧ SqB t K H1 a xs ∧ SqB u K H1 b ys ∧ R (ItZ K t u a b xs.length ys.length) H1
theorem pi_Z {X : Cx} {e e2 : Expr} {ta : TA} {p pos tpos : Pos} {elts : List Expr} {kk : Nat} (hg : Gl X "zip") (hm : X.mg "zip" = none) (ha : PA X [e, e2] ta)
    (hs : starEach [e, e2] X.env = (false, eval e X.env) :: starEach [e2] X.env) (hpl : (backTo pos (starEach [e2] X.env)).any (·.1) = false) :
    PI X (.Tuple elts kk tpos) (.Call (.Name "zip" p) [e, e2] [] pos) (iZ X.K ta) := by
  refine ⟨fun pins s σ H R I h => ?_⟩
  refine PyProof.Rows.Call_ (ld_blt I hg hm PyProof.Rows.boot_zip (PyProof.Rows.callWith_type1 (thn (ha.run pos pins s σ H _ I h) fun us s1 ⟨vs, H1, I1, r1, q1⟩ => ?_) hs hpl))
  obtain ⟨t, u, a, b, xs, ys, ex, hqx, hqy, q⟩ := q1
  subst ex
  obtain ⟨v1, v2, rfl, rv1, rv2⟩ := Vals.two r1
  cases (show v1 = Value.ref a from rv1)
  cases (show v2 = Value.ref b from rv2)
  obtain ⟨its, rv, p1, _⟩ := inv_sqB I1 hqx
  obtain ⟨its2, rv', p2, _⟩ := inv_sqB I1 hqy
  have la := sqB_lt p1
  have lb := sqB_lt p2
  refine zip_begins2 (begins t a its.toArray) (begins u b its2.toArray) p1 p2 fun h' hz hTI hTO h1 h2 hsz hk => wpAny_pyIter_zip hz ?_
  have I2 : L2.Inv X pins σ H1 { s1 with heap := h' } := I1.kept (t' := s1.toks) hk
  refine ⟨s1.heap.objs.size + 4, [s1.heap.objs.size + 4, s1.heap.objs.size + 2, s1.heap.objs.size + 3, s1.heap.objs.size, s1.heap.objs.size + 1], _, _, H1, rfl, I2,
    turnZ t u xs.length ys.length (zip_sep2 (fun c hc => by rw [List.mem_singleton.mp hc]; exact la) (fun c hc => by rw [List.mem_singleton.mp hc]; exact lb)) (Nat.ne_of_lt la) (Nat.ne_of_lt (Nat.lt_succ_of_lt lb)),
    ⟨hz, hTI, ⟨_, _, hTO⟩, .start h1, .start h2, Nat.zero_le _, Nat.zero_le _⟩, fun c hcm => ?_, q⟩
  have hle : s1.heap.objs.size ≤ c := by
    have e' : c = s1.heap.objs.size + 4 ∨ c = s1.heap.objs.size + 2 ∨ c = s1.heap.objs.size + 3 ∨ c = s1.heap.objs.size ∨ c = s1.heap.objs.size + 1 := by simpa using hcm
    rcases e' with z | z | z | z | z
    · rw [z]; exact Nat.le_add_right _ _
    · rw [z]; exact Nat.le_add_right _ _
    · rw [z]; exact Nat.le_add_right _ _
    · rw [z]; exact Nat.le_refl _
    · rw [z]; exact Nat.le_add_right _ _
  exact I1.fpOk hle (I1.hok.fresh hle)
end PF

namespace PF
open PySem PySem.Spec L2
/-! ### items, slices -/
theorem atD_at {K : Fg} {G : Hp} {c : Option Addr} {xs : List HV} {ds : List D} {i : Int} {d : D} (r : RepL K G c xs ds) (h : atD ds i = some d) : ∃ v, atI xs i = some v ∧ Rep K G c v d := by
  have hl := r.length
  unfold atD at h
  unfold atI ixN
  by_cases h0 : 0 ≤ i
  · rw [if_pos h0] at h
    obtain ⟨v, e1, e2⟩ := r.get h
    have hi : i < (xs.length : Int) := by
      have := (List.getElem?_eq_some_iff.mp e1).1
      omega
    rw [if_pos h0, if_pos hi]
    exact ⟨v, e1, e2⟩
  · rw [if_neg h0] at h
    split at h
    · rename_i h1
      obtain ⟨v, e1, e2⟩ := r.get h
      rw [if_neg h0, if_pos (by omega)]
      rw [← hl] at e1
      exact ⟨v, e1, e2⟩
    · cases h
/-- a[i] -/
def rIdx (K : Fg) : R2 := fun x y H Q => ∃ G c cup dx dk d, Same G H ∧ CupOk c cup G H ∧ Sh K G H c x dx ∧ Sh K G H c y dk ∧ idxM dx dk cup = .ok d cup ∧ ∀ v, Rep K G c v d → Q v H
theorem idxM_no {x k : D} {cup : Cup} (h : x ≠ .cup) : idxM x k cup = match idxD x k with | some d => Res.ok d cup | none => .no := by
  cases x <;> first | exact absurd rfl h | (cases k <;> cases cup <;> rfl)
theorem idxM_of {x k d : D} {cup cup' : Cup} (h : idxM x k cup = .ok d cup') : cup' = cup ∧ ((∃ ds i, (x = .lst ds ∨ x = .tup ds) ∧ k = .int i ∧ atD ds i = some d) ∨ (x = .cup ∧ ∃ p, cup = some p ∧ ((k = .int 0 ∧ d = .int p.1) ∨ (k = .int 1 ∧ d = .int p.2)))) := by
  have gen : ∀ {x k : D}, (match idxD x k with | some d => Res.ok d cup | none => .no) = .ok d cup' → cup' = cup ∧ (∃ ds i, (x = .lst ds ∨ x = .tup ds) ∧ k = .int i ∧ atD ds i = some d) := fun {x k} h => by
    cases e : idxD x k with
    | none => rw [e] at h; cases h
    | some d' =>
      rw [e] at h
      cases h
      refine ⟨rfl, ?_⟩
      cases x <;> first | cases e; done | skip
      all_goals (cases k <;> first | cases e; done | skip)
      · exact ⟨_, _, .inr rfl, rfl, e⟩
      · exact ⟨_, _, .inl rfl, rfl, e⟩
  by_cases ex : x = .cup
  · subst ex
    cases k with
    | int k =>
      cases cup with
      | some p =>
        have h' : (if k = 0 then Res.ok (D.int p.1) (some p) else if k = 1 then .ok (.int p.2) (some p) else .no) = .ok d cup' := h
        split at h'
        · rename_i e
          cases h'
          subst e
          exact ⟨rfl, .inr ⟨rfl, p, rfl, .inl ⟨rfl, rfl⟩⟩⟩
        · split at h'
          · rename_i e
            cases h'
            subst e
            exact ⟨rfl, .inr ⟨rfl, p, rfl, .inr ⟨rfl, rfl⟩⟩⟩
          · cases h'
      | none => cases h
    | _ => cases cup <;> cases h
  · rw [idxM_no ex] at h
    obtain ⟨e1, e2⟩ := gen (x := x) (k := k) h
    exact ⟨e1, .inl e2⟩
theorem ok_idx {X : Cx} : IxR X (rIdx X.K) := by
  intro value slice pins s σ H x y v u Q I rx ry ⟨G, c, cup, dx, dk, d, hs, hk, hx, hy, he, q⟩ hsub
  obtain ⟨_, e | ⟨ex, p, ec, e⟩⟩ := idxM_of he
  · obtain ⟨ds, i, e1, e2, e3⟩ := e
    subst e2
    rw [hy.int] at ry
    rcases e1 with e1 | e1
    · subst e1
      obtain ⟨p, xs, rfl, h1, r1⟩ := hx.seqL hs
      obtain ⟨w, a1, a2⟩ := atD_at r1 e3
      exact ix_seq value slice pins s σ H _ _ v u Q I rx ry (.inl ⟨p, xs, i, w, rfl, rfl, SqL.of h1, a1, q w a2⟩) hsub
    · subst e1
      obtain ⟨p, xs, rfl, h1, r1⟩ := hx.seqT hs
      obtain ⟨w, a1, a2⟩ := atD_at r1 e3
      exact ix_seq value slice pins s σ H _ _ v u Q I rx ry (.inr (.inl ⟨p, xs, i, w, rfl, rfl, h1, a1, q w a2⟩)) hsub
  · subst ex ec
    have hx' : ∃ a, x = .ref a ∧ c = some a := by
      cases hx with
      | rep r => cases r with | cup z => exact ⟨_, rfl, z⟩
      | own _ _ z _ => cases z
    obtain ⟨a, rfl, rfl⟩ := hx'
    obtain ⟨p', ep, _, hH⟩ := hk.at
    cases ep
    rcases e with ⟨e1, e2⟩ | ⟨e1, e2⟩
    · subst e1 e2
      rw [hy.int] at ry
      exact ix_seq value slice pins s σ H _ _ v u Q I rx ry (.inl ⟨a, _, 0, .int p.1, rfl, rfl, SqL.of hH, rfl, q _ (.int _)⟩) hsub
    · subst e1 e2
      rw [hy.int] at ry
      exact ix_seq value slice pins s σ H _ _ v u Q I rx ry (.inl ⟨a, _, 1, .int p.2, rfl, rfl, SqL.of hH, rfl, q _ (.int _)⟩) hsub
theorem clip_sIx (n d : Nat) : ∀ o : Option Int, HT.sIx n d o = clip n d o
  | none => rfl
  | some _ => rfl
theorem cutV_cut (xs : List HV) (lo hi : Option Int) : cutV xs lo hi = cut xs lo hi := by
  unfold cutV cut
  rw [clip_sIx, clip_sIx, List.drop_take]
theorem clip_le {n d : Nat} (h : d ≤ n) (o : Option Int) : clip n d o ≤ n := by
  rw [← clip_sIx]
  exact HT.sIx_le n d h o
/-- x[lo:hi] -/
def cutD : D → Option Int → Option Int → Option D
  | .lst ds, lo, hi => some (D.lst (cut ds lo hi))
  | .tup ds, lo, hi => some (.tup (cut ds lo hi))
  | _, _, _ => none
def rSlc (K : Fg) : HV → Option Int → Option Int → Hp → VK → Prop := fun x lo hi H Q => ∃ G c dx d, Same G H ∧ Sh K G H c x dx ∧ cutD dx lo hi = some d ∧ ∀ v H', PR K G H c v H' d → Q v H'
theorem RepL.cut {K : Fg} {G : Hp} {c : Option Addr} {xs : List HV} {ds : List D} (r : RepL K G c xs ds) (lo hi : Option Int) : RepL K G c (cut xs lo hi) (cut ds lo hi) := by
  unfold PF.cut
  rw [r.length]
  exact (r.take _).drop _
/-- t[lo:hi], the new tuple known -/
def rSlN (K : Fg) : HV → Option Int → Option Int → Hp → VK → Prop := fun x lo hi H Q => ∃ a xs, x = .ref a ∧ SqT K H a xs ∧
  (HT.sIx xs.length 0 lo = 0 ∧ HT.sIx xs.length xs.length hi = xs.length → Q (.ref a) H) ∧ (¬ (HT.sIx xs.length 0 lo = 0 ∧ HT.sIx xs.length xs.length hi = xs.length) → ∀ p o, o.dict = none → H p = none → Q (.ref p) (upd H p (.frz o (.tup (cutV xs lo hi)))))
theorem sl_tupN {X : Cx} : SlR X (rSlN X.K) := by
  intro pins s σ H x v vl vu lo hi sl Q I rx hs pl pu h
  obtain ⟨a, xs, rfl, hx, q1, q2⟩ := h
  cases rx
  obtain ⟨its, r, ht, hz⟩ := I.tuple hx
  have hlen : its.toArray.size = xs.length := by rw [List.size_toArray]; exact r.length.symm
  refine ⟨"tuple", _, PyProof.Rows.slot_tuple_getitem.lookup, ht.typeIs, ?_⟩
  by_cases hw : HT.sIx xs.length 0 lo = 0 ∧ HT.sIx xs.length xs.length hi = xs.length
  · exact L2.getItem_tuple_whole ht hs pl pu (by rw [hlen]; exact hw) ⟨.ref a, H, I, rfl, q1 hw⟩
  · refine HT.getItem_tuple_cut ht hs pl pu (by rw [hlen]; exact hw) ?_ (by rw [hlen]; exact hz)
    rw [hlen]
    exact ⟨.ref s.heap.objs.size, _, laidT (h' := s.heap) (t' := s.toks) I (fun _ _ q => q) (Nat.le_trans (cutV_length xs lo hi) hz) ((r.drop (HT.sIx xs.length 0 lo)).take (HT.sIx xs.length xs.length hi - HT.sIx xs.length 0 lo)), rfl, q2 hw _ _ rfl (I.hok.fresh (Nat.le_refl _))⟩
theorem ok_slc {X : Cx} : SlR X (rSlc X.K) := by
  intro pins s σ H x v vl vu lo hi sl Q I rx hsl pl pu ⟨G, c, dx, d, hs, hx, hf, q⟩
  cases dx <;> first | cases hf; done | skip
  case lst ds =>
    cases hf
    obtain ⟨p, xs, rfl, h1, r1⟩ := hx.seqL hs
    exact sl_list pins s σ H _ v vl vu lo hi sl Q I rx hsl pl pu ⟨p, xs, rfl, SqL.of h1, fun p hp => by rw [cutV_cut]; exact q _ _ (.lst hp (r1.cut lo hi))⟩
  case tup ds =>
    cases hf
    have rx2 : Rep X.K G c x (.tup ds) := hx.repT
    obtain ⟨p, xs, rfl, h1, r1⟩ := hx.seqT hs
    refine sl_tupN pins s σ H _ v vl vu lo hi sl Q I rx hsl pl pu ⟨p, xs, rfl, h1, fun e => ?_, fun _ p o ho hp => by rw [cutV_cut]; exact q _ _ (.tup hp ho (r1.cut lo hi))⟩
    have z : cut ds lo hi = ds := by
      unfold cut
      rw [← clip_sIx, ← clip_sIx, ← r1.length, e.1, e.2, r1.length, List.take_length]
      rfl
    rw [z] at q
    exact q _ _ (.old rfl rx2)
theorem filterMap_some {α β : Type} {f : α → Option β} {g : α → β} : ∀ {l : List α}, (∀ m ∈ l, f m = some (g m)) → l.filterMap f = l.map g
  | [], _ => rfl
  | a :: l, h => by
    rw [List.filterMap_cons, h a (List.mem_cons_self ..), List.map_cons, filterMap_some fun m hm => h m (List.mem_cons_of_mem _ hm)]
theorem rev_pick (xs : Array Value) : ((List.range xs.size).filterMap fun (m : Nat) => xs[(((xs.size : Int) - 1) + (m : Int) * (-1)).toNat]?).toArray = xs.toList.reverse.toArray := by
  congr 1
  have e : ∀ m ∈ List.range xs.size, (xs[(((xs.size : Int) - 1) + (m : Int) * (-1)).toNat]?) = some (xs.toList.reverse.getD m .none) := fun m hm => by
    have hm' : m < xs.size := List.mem_range.mp hm
    have e1 : (((xs.size : Int) - 1) + (m : Int) * (-1)).toNat = xs.size - 1 - m := by omega
    rw [e1, List.getD_eq_getElem?_getD, List.getElem?_reverse (by simpa using hm'), Array.length_toList, Array.getElem?_toList]
    rw [Array.getElem?_eq_getElem (by omega)]
    rfl
  rw [filterMap_some e]
  refine List.ext_getElem (by simp) fun i h1 h2 => ?_
  simp at h1 h2
  simp [h2]
open PyProof.Rows HT in
theorem tup_rev {prog : Program} {w : World} {A : Around} {E : Value → Shared → Prop} {s : Shared} {t sl : Addr} {its : Array Value} {k : Tok} {Q : Value → Shared → Prop} (ht : IsTup s.heap t its) (hs : s.heap.IsSliceOf sl .none .none (.int (-1) k))
    (h : Q (.ref s.heap.objs.size) { s with heap := s.heap.push { cls := .type "tuple", data := .seq its.toList.reverse.toArray } }) (hsz : its.size ≤ sizeLine) : wpAny (model prog w) A (getItem (.ref t) (.ref sl)) Q E s := by
  have fits : sizeOk (.seq its.toList.reverse.toArray) := by
    show its.toList.reverse.toArray.size ≤ sizeLine
    simpa using hsz
  obtain ⟨os, hos, hcs, hds⟩ := id hs
  have hT : s.TypeIs (.ref sl) "slice" := ⟨os, hos, hcs⟩
  unfold getItem
  try with_reducible refine wpAny_holding ?_
  first | refine wpAny_bind (wpAny_pure ?_) | skip
  refine wpAny_bind (wpAny_sequenceKey ht.typeIs (by decide) ?_)
  refine wpAny_bind (wpAny_callSpecial?_slot (name := Str.ofString "__getitem__") ht.typeIs PyProof.Rows.slot_tuple_getitem
    (wpAny_call_entry PyProof.Rows.slot_tuple_getitem ht.typeIs entry_tuple_getitem ?_ (args_tuple_getitem _ _)))
  show wpAny _ _ (Builtin.Tuple.tupleItemsOf (.ref t) >>= _) _ _ s
  refine wpAny_bind (tupleItemsOf_ ht ?_)
  refine wpAny_bind (wpAny_typeOf hT ?_)
  rw [if_pos (by decide)]
  have app : ∀ {R : Int × Int × Nat → Shared → Prop} {A' : Around}, R ((its.size : Int) - 1, -1, its.size) s → wpAny (model prog w) A' (Builtin.Slice.sliceApplied (.ref sl) (pure (its.size : Int))) R E s := fun {R A'} hr => by
    unfold Builtin.Slice.sliceApplied Builtin.Slice.sliceFields
    refine wpAny_bind (wpAny_bind (wpAny_field hos hds (x := .none) rfl (wpAny_bind (wpAny_field hos hds (x := .none) rfl (wpAny_bind (wpAny_field hos hds (x := .int (-1) k) rfl (wpAny_pure ?_)))))))
    refine wpAny_bind (slicePart_ (.int (-1) k) ?_)
    show wpAny _ _ (if ((-1 : Int) == 0) = true then _ else _) _ _ s
    rw [if_neg (by decide)]
    refine wpAny_bind (slicePart_ .none (wpAny_bind (slicePart_ .none (wpAny_bind (wpAny_pure ?_)))))
    have e1 : Builtin.Slice.sliceAdjust none none (-1) (its.size : Int) = ((its.size : Int) - 1, -1) := rfl
    have e2 : Builtin.Slice.slicePlaces ((its.size : Int) - 1) (-1) (-1) = its.size := by
      unfold Builtin.Slice.slicePlaces
      have z : (-(-1) : Int) = 1 := rfl
      rw [if_neg (by decide), z, Int.ediv_one]
      split <;> omega
    show wpAny _ _ (pure ((Builtin.Slice.sliceAdjust none none (-1) (its.size : Int)).1, (-1 : Int), Builtin.Slice.slicePlaces (Builtin.Slice.sliceAdjust none none (-1) (its.size : Int)).1 (Builtin.Slice.sliceAdjust none none (-1) (its.size : Int)).2 (-1))) _ _ s
    rw [e1]
    show wpAny _ _ (pure ((its.size : Int) - 1, (-1 : Int), Builtin.Slice.slicePlaces ((its.size : Int) - 1) (-1) (-1))) _ _ s
    rw [e2]
    exact wpAny_pure hr
  refine wpAny_bind (app ?_)
  have hno : ¬ ((((its.size : Int) - 1 == 0) && ((-1 : Int) == 1) && (its.size == its.size)) = true) := by
    intro q
    rw [Bool.and_eq_true, Bool.and_eq_true] at q
    exact absurd (eq_of_beq q.1.2) (by decide)
  show wpAny _ _ (if (((its.size : Int) - 1 == 0) && ((-1 : Int) == 1) && (its.size == its.size)) = true then _ else _) _ _ s
  rw [if_neg hno, rev_pick]
  first
    | exact wpAny_bind (m := Builtin.Tuple.tupleExact _) (wpAny_newObj_type (wpAny_pure ⟨_, rfl, wpAny_pure h⟩) fits)
    | exact wpAny_bind (m := Builtin.Tuple.tupleExact _) (wpAny_newObj_type (wpAny_bind (wpAny_pure (wpAny_pure ⟨_, rfl, wpAny_pure h⟩))) fits)
    | exact wpAny_bind (wpAny_bind (m := Builtin.Tuple.tupleExact _) (wpAny_newObj_type (wpAny_pure (wpAny_pure ⟨_, rfl, wpAny_pure h⟩)) fits))
    | exact wpAny_bind (wpAny_bind (m := Builtin.Tuple.tupleExact _) (wpAny_newObj_type (wpAny_pure ⟨_, rfl, wpAny_pure h⟩) fits))
/-- x[::-1] -/
def tRev (K : Fg) (te : L2.TE) : L2.TE := fun σ H Q => te σ H fun x H1 => ∃ G c dx d, Same G H1 ∧ Sh K G H1 c x dx ∧ revD dx = some d ∧ ∀ v H', PR K G H1 c v H' d → Q v H'
theorem pe_rev {X : Cx} {e : Expr} {te : L2.TE} {k : Nat} {p1 p2 p3 pos : Pos} (he : PE X e te) : PE X (.Subscript e (.Slice none none (some (.UnaryOp .USub (.Constant (.int 1) k p1) p2)) p3) pos) (tRev X.K te) := by
  refine ⟨fun pins s σ H Q I h => ?_⟩
  refine PyProof.Rows.Subscript_ (thn (he.run pins s σ H _ I h) fun v s1 ⟨x, H1, I1, r1, q1⟩ => ?_)
  obtain ⟨G, c, dx, d, hs, hx, hf, q⟩ := q1
  have hst : PO X (some (.UnaryOp .USub (.Constant (.int 1) k p1) p2)) (tPart (tUn (rU fun i => .int (-i)) (tC (.int 1)))) := po_some (pe_un un_neg pe_int)
  refine wpAny_Slice (thn (po_none.run pins s1 σ H1 (fun o H2 => o = none ∧ H2 = H1) I1 ⟨rfl, rfl⟩) fun vl s2 ⟨l, H2, I2, pl, el, e2⟩ => ?_)
  subst el e2
  refine thn (po_none.run pins s2 σ H2 (fun o H3 => o = none ∧ H3 = H2) I2 ⟨rfl, rfl⟩) fun vu s3 ⟨u, H3, I3, pu, eu, e3⟩ => ?_
  subst eu e3
  refine thn (hst.run pins s3 σ H3 (fun o H4 => o = some (-1) ∧ H4 = H3) I3 ⟨1, rfl, -1, rfl, rfl, rfl⟩) fun vs s4 ⟨o, H4, I4, ps, eo, e4⟩ => ?_
  subst eo e4
  have I5 : L2.Inv X pins σ H4 { s4 with heap := s4.heap.push { cls := .type "slice", data := .fields #[vl, vu, vs] } } := I4.kept (t' := s4.toks) fun b ob q => Heap.get?_push_of_some _ q
  have fr := I5.hok.fresh (Nat.le_refl _)
  cases dx <;> first | cases hf; done | skip
  case lst ds =>
    cases hf
    obtain ⟨a, xs, rfl, h1, rr⟩ := hx.seqL hs
    cases r1
    obtain ⟨its, r, ht, hz⟩ := I5.list (SqL.of h1)
    have hlen := r.length
    show wpAny (model X.prog X.w) X.A (PyProof.Rows.subscriptTail e (.Slice none none (some (.UnaryOp .USub (.Constant (.int 1) k p1) p2)) p3) (.ref a) (.ref s4.heap.objs.size)) (EP X pins σ Q) X.xe { s4 with heap := s4.heap.push { cls := .type "slice", data := .fields #[vl, vu, vs] } }
    refine PyProof.Rows.tail_any (ops := [.ref a, .ref s4.heap.objs.size]) ht.isList.typeIs (PySem.slot_list_getitem.lookup) ?_ (by with_unfolding_all rfl)
    refine wpAny_getItem_list_slice ht.isList (Heap.IsSliceOf.new _ vl vu vs) pl pu ps (by decide) ?_ (by rw [List.size_toArray]; omega)
    rw [PySem.W.krv_pick]
    exact ⟨.ref _, _, I5.laid (t' := s4.toks) (o := .lst xs.reverse) (fun b ob q => Heap.get?_push_of_some _ q) (Nat.le_refl _) ⟨by rw [List.length_reverse]; exact hz, _, 0, r.reverse, Heap.get?_push_size _ rfl⟩, rfl, q _ _ (.lst fr rr.reverse)⟩
  case tup ds =>
    cases hf
    obtain ⟨a, xs, rfl, h1, rr⟩ := hx.seqT hs
    cases r1
    obtain ⟨its, r, ht, hz⟩ := I5.tuple h1
    have hlen := r.length
    cases pl
    cases pu
    cases ps
    show wpAny (model X.prog X.w) X.A (PyProof.Rows.subscriptTail e (.Slice none none (some (.UnaryOp .USub (.Constant (.int 1) k p1) p2)) p3) (.ref a) (.ref s4.heap.objs.size)) (EP X pins σ Q) X.xe { s4 with heap := s4.heap.push { cls := .type "slice", data := .fields #[Value.none, Value.none, _] } }
    refine PyProof.Rows.tail_any (ops := [.ref a, .ref s4.heap.objs.size]) ht.typeIs (PyProof.Rows.slot_tuple_getitem.lookup) ?_ (by with_unfolding_all rfl)
    refine tup_rev ht (Heap.IsSliceOf.new _ _ _ _) ?_ (by rw [List.size_toArray]; omega)
    exact ⟨.ref _, _, laidT (t' := s4.toks) (xs := xs.reverse) (its := its.reverse) I5 (fun _ _ q => q) (by rw [List.length_reverse]; exact hz) r.reverse, rfl, q _ _ (.tup fr rfl rr.reverse)⟩
end PF

namespace PF
open PySem PySem.Spec L2
/-! ### index, count, isinstance -/
theorem findEq_py {y : D} (hy : D.good 50 y = true) : ∀ {ds : List D} (k : Nat), D.goodL 50 ds = true → findEq y k ds = (SeqAt.dataPlace (D.pyL ds) (D.py y)).map (· + k)
  | [], _, _ => rfl
  | d :: r, k, h => by
    have g := goodL_cons h
    have e := eqv_py 50 50 d y g.1 hy
    unfold findEq SeqAt.dataPlace
    rw [D.pyL, List.findIdx?_cons, e]
    cases D.eqv d y with
    | true => simp
    | false =>
      have ih := findEq_py hy (k + 1) g.2
      unfold SeqAt.dataPlace at ih
      simp only [Bool.false_eq_true, if_false]
      rw [ih, Option.map_map]
      congr 1
      funext n
      show n + (k + 1) = n + 1 + k
      omega
theorem countEq_py {y : D} (hy : D.good 50 y = true) : ∀ {ds : List D}, D.goodL 50 ds = true → (D.pyL ds).countP (fun z => PyData.eqv z (D.py y)) = countEq y ds
  | [], _ => rfl
  | d :: r, h => by
    have g := goodL_cons h
    unfold countEq
    rw [D.pyL, List.countP_cons, countEq_py hy g.2, eqv_py 50 50 d y g.1 hy]
    cases D.eqv d y <;> simp
theorem readsOf {X : Cx} {pins : List (Addr × Obj)} {σ : L2.St} {H : Hp} {s : Shared} {G : Hp} {c : Option Addr} (I : L2.Inv X pins σ H s) (hs : Same G H) {v : HV} {d : D} {u : Value} (h : Sh X.K G H c v d) (g : D.good 51 d = true) (r : RelV v u) :
    ∃ as, Reads s.heap u (D.py d) as := Dp.reads I _ v u (h.dp hs g) r
/-- x.index(y), x.count(y) -/
def rM2 (K : Fg) (f : D → D → Option D) : HV → List HV → Hp → VK → Prop := fun x xs H Q => ∃ G c y dx dy d, xs = [y] ∧ Same G H ∧ Sh K G H c x dx ∧ Sh K G H c y dy ∧ f dx dy = some d ∧ ∀ v, Rep K G c v d → Q v H
def onL (f : D → D → Option D) (x y : D) : Option D := match x with
  | .lst _ => f x y
  | _ => none
def onT (f : D → D → Option D) (x y : D) : Option D := match x with
  | .tup _ => f x y
  | _ => none
theorem index_of {x y d : D} {ds : List D} (hq : seqD x = some ds) (h : b2D .index x y = some d) : D.good 50 y = true ∧ D.goodL 50 ds = true ∧ szOk ds.length = true ∧ ∃ k, SeqAt.dataPlace (D.pyL ds) (D.py y) = some k ∧ d = .int (k : Nat) := by
  have h' : (match seqD x with
    | some ds => if D.good 50 y && (D.goodL 50 ds && szOk ds.length) then (findEq y 0 ds).map fun k => D.int (k : Nat) else none
    | none => none) = some d := by cases x <;> cases y <;> exact h
  rw [hq] at h'
  dsimp only at h'
  split at h'
  · rename_i hc
    simp only [Bool.and_eq_true] at hc
    obtain ⟨k, e1, e2⟩ := map_some h'
    rw [findEq_py hc.1 0 hc.2.1] at e1
    obtain ⟨j, e3, e4⟩ := map_some e1
    have : j = k := e4
    subst this
    exact ⟨hc.1, hc.2.1, hc.2.2, j, e3, e2.symm⟩
  · cases h'
theorem count_of {x y d : D} {ds : List D} (hq : seqD x = some ds) (h : b2D .count x y = some d) : D.good 50 y = true ∧ D.goodL 50 ds = true ∧ szOk ds.length = true ∧ d = .int (countEq y ds : Nat) := by
  have h' : (match seqD x with
    | some ds => if D.good 50 y && (D.goodL 50 ds && szOk ds.length) then some (D.int (countEq y ds : Nat)) else none
    | none => none) = some d := by cases x <;> cases y <;> exact h
  rw [hq] at h'
  dsimp only at h'
  split at h'
  · rename_i hc
    simp only [Bool.and_eq_true] at hc
    cases h'
    exact ⟨hc.1, hc.2.1, hc.2.2, rfl⟩
  · cases h'
theorem plain_pyL {ds : List D} (g : D.goodL 50 ds = true) : PyData.plainAll (D.pyL ds) = true := by
  have z : (PyData.list (D.pyL ds)).canLay0 = true := by
    simp only [PyData.canLay0]
    exact (lay_pyL 50 ds g).1
  have y := PyData.plain_of_canLay0 _ z
  simpa only [PyData.plain] using y
section
variable {X : Cx}
theorem ok_index_list (hu : X.A.units + 65 < cLine) : MtR X "list.index" (rM2 X.K (onL (b2D .index))) := by
  intro pins s σ H x xs v us Q I rx rxs ⟨G, c, y, dx, dy, d, e, hs, hx, hy, hf, q⟩
  subst e
  cases dx <;> first | cases hf; done | skip
  rename_i ds
  obtain ⟨g1, g2, g3, k, e1, e2⟩ := index_of (x := .lst ds) rfl hf
  subst e2
  obtain ⟨uy, rfl, ry⟩ := Vals.one rxs
  obtain ⟨bs, r1⟩ := Dp.reads I _ y uy (hy.dp hs g1) ry
  obtain ⟨p, zs, rfl, h1, rr⟩ := hx.seqL hs
  cases rx
  obtain ⟨its, rv, ⟨⟨cls, dd, data, sls⟩, n, ho, hc, hdn, hdt⟩, hlen⟩ := I.list (SqL.of h1)
  simp only at hc hdt
  subst hc hdt
  obtain ⟨as, h4⟩ := Dp.readsAll I _ _ its (rr.dp hs 50 g2) rv
  have hpl := plain_pyL g2
  obtain ⟨hj, hit, hno⟩ := SeqAt.hit_at (vs := its.toArray) h4 hpl e1
  have hz : its.toArray.size ≤ 1000000 := by
    have := Nat.le_of_ble_eq_true g3
    rw [List.size_toArray, ← rv.length, rr.length]
    exact this
  exact call_meets PySem.F.slot_list_index ⟨_, ho, rfl⟩ PySem.F.entry_list_index (PySem.F.args_list_index_2 _ _)
    (SeqAt.list_indexAt p its.toArray n dd sls uy _ k hj (by omega) hit hno) ⟨ho, SeqAt.items_plain h4 r1 hpl (PyData.plain_of_canLay0 _ (lay_py 50 dy g1).1) (room_dp g2 g1 hu), ⟨.int (k : Nat), H, I.tok _, ⟨_, rfl⟩, q _ (.int _)⟩⟩
theorem ok_index_tup (hu : X.A.units + 65 < cLine) : MtR X "tuple.index" (rM2 X.K (onT (b2D .index))) := by
  intro pins s σ H x xs v us Q I rx rxs ⟨G, c, y, dx, dy, d, e, hs, hx, hy, hf, q⟩
  subst e
  cases dx <;> first | cases hf; done | skip
  rename_i ds
  obtain ⟨g1, g2, g3, k, e1, e2⟩ := index_of (x := .tup ds) rfl hf
  subst e2
  obtain ⟨uy, rfl, ry⟩ := Vals.one rxs
  obtain ⟨bs, r1⟩ := Dp.reads I _ y uy (hy.dp hs g1) ry
  obtain ⟨p, zs, rfl, h1, rr⟩ := hx.seqT hs
  cases rx
  obtain ⟨its, rv, ⟨⟨cls, dd, data, sls⟩, ho, hc, n, hdt⟩, hlen⟩ := I.tuple h1
  simp only at hc hdt
  subst hc hdt
  obtain ⟨as, h4⟩ := Dp.readsAll I _ _ its (rr.dp hs 50 g2) rv
  have hpl := plain_pyL g2
  obtain ⟨hj, hit, hno⟩ := SeqAt.hit_at (vs := its.toArray) h4 hpl e1
  exact call_meets PySem.F.slot_tuple_index ⟨_, ho, rfl⟩ PySem.F.entry_tuple_index (PySem.F.args_tuple_index_2 _ _)
    (TI.tuple_indexAt p its.toArray n dd sls uy _ k hj hit hno) ⟨ho, SeqAt.items_plain h4 r1 hpl (PyData.plain_of_canLay0 _ (lay_py 50 dy g1).1) (room_dp g2 g1 hu), ⟨.int (k : Nat), H, I.tok _, ⟨_, rfl⟩, q _ (.int _)⟩⟩
theorem ok_count_list (hu : X.A.units + 65 < cLine) : MtR X "list.count" (rM2 X.K (onL (b2D .count))) := by
  intro pins s σ H x xs v us Q I rx rxs ⟨G, c, y, dx, dy, d, e, hs, hx, hy, hf, q⟩
  subst e
  cases dx <;> first | cases hf; done | skip
  rename_i ds
  obtain ⟨g1, g2, g3, e2⟩ := count_of (x := .lst ds) rfl hf
  subst e2
  obtain ⟨uy, rfl, ry⟩ := Vals.one rxs
  obtain ⟨bs, r1⟩ := Dp.reads I _ y uy (hy.dp hs g1) ry
  obtain ⟨p, zs, rfl, h1, rr⟩ := hx.seqL hs
  cases rx
  obtain ⟨its, rv, pl, hlen⟩ := I.list (SqL.of h1)
  obtain ⟨as, h4⟩ := Dp.readsAll I _ _ its (rr.dp hs 50 g2) rv
  have hpl := plain_pyL g2
  refine SeqAt.count_list_data (vs := its.toArray) pl.isList h4 r1 hpl (PyData.plain_of_canLay0 _ (lay_py 50 dy g1).1) (room_dp g2 g1 hu) ?_
  rw [countEq_py g1 g2]
  exact ⟨.int _, H, I.tok _, ⟨_, rfl⟩, q _ (.int _)⟩
theorem ok_count_tup (hu : X.A.units + 65 < cLine) : MtR X "tuple.count" (rM2 X.K (onT (b2D .count))) := by
  intro pins s σ H x xs v us Q I rx rxs ⟨G, c, y, dx, dy, d, e, hs, hx, hy, hf, q⟩
  subst e
  cases dx <;> first | cases hf; done | skip
  rename_i ds
  obtain ⟨g1, g2, g3, e2⟩ := count_of (x := .tup ds) rfl hf
  subst e2
  obtain ⟨uy, rfl, ry⟩ := Vals.one rxs
  obtain ⟨bs, r1⟩ := Dp.reads I _ y uy (hy.dp hs g1) ry
  obtain ⟨p, zs, rfl, h1, rr⟩ := hx.seqT hs
  cases rx
  obtain ⟨its, rv, pl, hlen⟩ := I.tuple h1
  obtain ⟨as, h4⟩ := Dp.readsAll I _ _ its (rr.dp hs 50 g2) rv
  have hpl := plain_pyL g2
  refine SeqAt.count_tuple_data (vs := its.toArray) (show s.heap.IsTuple p its.toArray from pl) h4 r1 hpl (PyData.plain_of_canLay0 _ (lay_py 50 dy g1).1) (room_dp g2 g1 hu) ?_
  rw [countEq_py g1 g2]
  exact ⟨.int _, H, I.tok _, ⟨_, rfl⟩, q _ (.int _)⟩
/-- a value's built-in type -/
def tyD : D → String
  | .non => "NoneType"
  | .bl _ => "bool"
  | .int _ => "int"
  | .str _ => "str"
  | .tup _ => "tuple"
  | .lst _ => "list"
  | .cup => "list"
  | .dct _ => "dict"
  | .scr _ => "list"
theorem sh_ty {K : Fg} {G H : Hp} {c : Option Addr} {cup : Cup} {v : HV} {d : D} (hs : Same G H) (hk : CupOk c cup G H) (h : Sh K G H c v d) : TyX K H v (.type (tyD d)) := by
  cases h with
  | own a b r _ =>
    cases r with
    | lst r => exact .base (.lst b)
    | dct _ _ => exact .base (.dK b)
  | rep r =>
    cases r with
    | dct e _ _ => exact .base (.dK (hs _ _ e))
    | non => exact .base .non
    | bl b => exact .base (.bl b)
    | int i => exact .base (.int i)
    | str x => exact .base (.str x)
    | cup e =>
      subst e
      obtain ⟨p, _, _, z⟩ := hk.at
      exact .base (.lst z)
    | scr e =>
      rcases e with (e | ⟨o, e⟩) | ⟨o, its, n, e, e1, _⟩
      · exact .base (.lst (hs _ _ e))
      · exact .base (.frz (hs _ _ e))
      · exact .kList e e1
    | lst a r => exact .base (.lst (hs _ _ a))
    | tup a r =>
      rcases a with ⟨o, e, _⟩ | ⟨o, its, n, e, e1, _⟩
      · exact .fTuple (hs _ _ e)
      · exact .kTuple e e1
/-- isinstance(x, T) -/
def rIsiD (K : Fg) (T : String) (f : D → Option D) : List HV → Hp → VK → Prop := fun vs H Q => ∃ G c cup v dx d, vs = [v, .ty T] ∧ Same G H ∧ CupOk c cup G H ∧ Sh K G H c v dx ∧ f dx = some d ∧ ∀ v', Rep K G c v' d → Q v' H
theorem ok_isi {T : String} {f : D → Option D} (hT : ∀ dx d, f dx = some d → ∃ b, d = .bl b ∧ kitB (tyD dx) T = some b) : CallR X (.builtin "isinstance") (rIsiD X.K T f) := by
  intro pins s σ H vs us Q I r ⟨G, c, cup, v, dx, d, e, hs, hk, hx, hf, q⟩
  obtain ⟨b, rfl, hb⟩ := hT dx d hf
  exact call_isi pins s σ H vs us Q I r ⟨v, .ty T, .type (tyD dx), .type T, b, e, .ty T, sh_ty hs hk hx, kit_ty hb, q _ (.bl b)⟩
theorem kit_int : kitB "NoneType" "int" = some false ∧ kitB "bool" "int" = some true ∧ kitB "int" "int" = some true ∧ kitB "str" "int" = some false ∧ kitB "tuple" "int" = some false ∧ kitB "list" "int" = some false ∧ kitB "dict" "int" = some false := by decide +kernel
theorem isi_int (dx d : D) (h : b1D .isInt dx = some d) : ∃ b, d = .bl b ∧ kitB (tyD dx) "int" = some b := by
  obtain ⟨a1, a2, a3, a4, a5, a6, a7⟩ := kit_int
  cases dx <;> (cases h; first | exact ⟨_, rfl, a1⟩ | exact ⟨_, rfl, a2⟩ | exact ⟨_, rfl, a3⟩ | exact ⟨_, rfl, a4⟩ | exact ⟨_, rfl, a5⟩ | exact ⟨_, rfl, a6⟩ | exact ⟨_, rfl, a7⟩)
theorem kit_bool : kitB "NoneType" "bool" = some false ∧ kitB "bool" "bool" = some true ∧ kitB "int" "bool" = some false ∧ kitB "str" "bool" = some false ∧ kitB "tuple" "bool" = some false ∧ kitB "list" "bool" = some false ∧ kitB "dict" "bool" = some false := by decide +kernel
theorem isi_bool (dx d : D) (h : b1D .isBool dx = some d) : ∃ b, d = .bl b ∧ kitB (tyD dx) "bool" = some b := by
  obtain ⟨a1, a2, a3, a4, a5, a6, a7⟩ := kit_bool
  cases dx <;> (cases h; first | exact ⟨_, rfl, a1⟩ | exact ⟨_, rfl, a2⟩ | exact ⟨_, rfl, a3⟩ | exact ⟨_, rfl, a4⟩ | exact ⟨_, rfl, a5⟩ | exact ⟨_, rfl, a6⟩ | exact ⟨_, rfl, a7⟩)
theorem kit_str : kitB "NoneType" "str" = some false ∧ kitB "bool" "str" = some false ∧ kitB "int" "str" = some false ∧ kitB "str" "str" = some true ∧ kitB "tuple" "str" = some false ∧ kitB "list" "str" = some false ∧ kitB "dict" "str" = some false := by decide +kernel
theorem isi_str (dx d : D) (h : b1D .isStr dx = some d) : ∃ b, d = .bl b ∧ kitB (tyD dx) "str" = some b := by
  obtain ⟨a1, a2, a3, a4, a5, a6, a7⟩ := kit_str
  cases dx <;> (cases h; first | exact ⟨_, rfl, a1⟩ | exact ⟨_, rfl, a2⟩ | exact ⟨_, rfl, a3⟩ | exact ⟨_, rfl, a4⟩ | exact ⟨_, rfl, a5⟩ | exact ⟨_, rfl, a6⟩ | exact ⟨_, rfl, a7⟩)
theorem kit_tuple : kitB "NoneType" "tuple" = some false ∧ kitB "bool" "tuple" = some false ∧ kitB "int" "tuple" = some false ∧ kitB "str" "tuple" = some false ∧ kitB "tuple" "tuple" = some true ∧ kitB "list" "tuple" = some false ∧ kitB "dict" "tuple" = some false := by decide +kernel
theorem isi_tuple (dx d : D) (h : b1D .isTuple dx = some d) : ∃ b, d = .bl b ∧ kitB (tyD dx) "tuple" = some b := by
  obtain ⟨a1, a2, a3, a4, a5, a6, a7⟩ := kit_tuple
  cases dx <;> (cases h; first | exact ⟨_, rfl, a1⟩ | exact ⟨_, rfl, a2⟩ | exact ⟨_, rfl, a3⟩ | exact ⟨_, rfl, a4⟩ | exact ⟨_, rfl, a5⟩ | exact ⟨_, rfl, a6⟩ | exact ⟨_, rfl, a7⟩)
theorem kit_list : kitB "NoneType" "list" = some false ∧ kitB "bool" "list" = some false ∧ kitB "int" "list" = some false ∧ kitB "str" "list" = some false ∧ kitB "tuple" "list" = some false ∧ kitB "list" "list" = some true ∧ kitB "dict" "list" = some false := by decide +kernel
theorem isi_list (dx d : D) (h : b1D .isList dx = some d) : ∃ b, d = .bl b ∧ kitB (tyD dx) "list" = some b := by
  obtain ⟨a1, a2, a3, a4, a5, a6, a7⟩ := kit_list
  cases dx <;> (cases h; first | exact ⟨_, rfl, a1⟩ | exact ⟨_, rfl, a2⟩ | exact ⟨_, rfl, a3⟩ | exact ⟨_, rfl, a4⟩ | exact ⟨_, rfl, a5⟩ | exact ⟨_, rfl, a6⟩ | exact ⟨_, rfl, a7⟩)
end
end PF

namespace PF
open PySem PySem.Spec L2
/-! ### the state, and what an expression's reading is -/
/-- slot i holds a list of one's own -/
def Own (K : Fg) (G H : Hp) (c : Option Addr) (v : HV) (d : D) : Prop := ∃ p o, v = .ref p ∧ G p = none ∧ H p = some o ∧ OO K G c o d ∧ c ≠ some p
structure Rel (K : Fg) (O : List Nat) (G H : Hp) (c : Option Addr) (cup : Cup) (σ : L2.St) (δ : Env) : Prop where
  same : Same G H
  cup : CupOk c cup G H
  slot : ∀ i d, δ[i]? = some (some d) → ∃ v, σ[i]? = some (some v) ∧ (i ∈ O → Own K G H c v d) ∧ (i ∉ O → Rep K G c v d)
  len : σ.length = δ.length
  apart : ∀ i j p, i ∈ O → j ∈ O → i ≠ j → (∃ d, δ[i]? = some (some d)) → (∃ d, δ[j]? = some (some d)) → σ[i]? = some (some (.ref p)) → σ[j]? ≠ some (some (.ref p))
theorem Own.ext {K : Fg} {c c' : Option Addr} {G H G' H' : Hp} {cup' : Cup} (e : Ext c G H c' cup' G' H') {v : HV} {d : D} (h : Own K G H c v d) : Own K G' H' c' v d := by
  obtain ⟨p, o, rfl, a, b, r, n⟩ := h
  have hb : H p ≠ none := fun z => by rw [b] at z; cases z
  refine ⟨p, o, rfl, (e.f _ hb).trans a, e.k _ _ b n, (r.mono e.g).cle e.cle, fun q => ?_⟩
  rcases e.m with m | ⟨_, m⟩
  · exact n (m ▸ q)
  · exact hb (m _ q)
theorem Own.sh {K : Fg} {c : Option Addr} {G H : Hp} {v : HV} {d : D} (h : Own K G H c v d) : Sh K G H c v d := by
  obtain ⟨p, o, rfl, a, b, r, n⟩ := h
  exact .own a b r n
theorem Rel.ext {K : Fg} {O : List Nat} {c c' : Option Addr} {G H G' H' : Hp} {cup cup' : Cup} {σ : L2.St} {δ : Env} (R : Rel K O G H c cup σ δ) (e : Ext c G H c' cup' G' H') : Rel K O G' H' c' cup' σ δ :=
  ⟨e.h, e.cup, fun i d h => let ⟨v, a, b, b'⟩ := R.slot i d h; ⟨v, a, fun z => (b z).ext e, fun z => ((b' z).mono e.g).cle e.cle⟩, R.len, R.apart⟩
abbrev Pst := Hp → Option Addr → Hp → Hp → HV → D → Prop
def pVal (K : Fg) : Pst := fun _ c' G' _ v d => Rep K G' c' v d
def pArg (K : Fg) : Pst := fun _ c' G' H' v d => Sh K G' H' c' v d
def pNew (K : Fg) : Pst := fun H c' G' H' v d => NewR K H c' G' H' v d
def TX (K : Fg) (O : List Nat) (C : Nat → List D → M D) (P : Pst) (e : Ex) : L2.TE := fun σ H Q => ∃ G c cup δ, Rel K O G H c cup σ δ ∧ ∃ d cup', evE C e δ cup = .ok d cup' ∧
  ∀ v c' G' H', Ext c G H c' cup' G' H' → P H c' G' H' v d → Q v H'
def TT (K : Fg) (O : List Nat) (C : Nat → List D → M D) (e : Ex) : L2.TT := fun σ H Q => ∃ G c cup δ, Rel K O G H c cup σ δ ∧ ∃ b cup', evE C e δ cup = .ok (.bl b) cup' ∧
  ∀ c' G' H', Ext c G H c' cup' G' H' → Q b H'
abbrev Lst := Option Addr → Hp → Hp → List HV → List D → Prop
def TL (K : Fg) (O : List Nat) (C : Nat → List D → M D) (P : Lst) (l : Ex) : L2.TA := fun σ H Q => ∃ G c cup δ, Rel K O G H c cup σ δ ∧ ∃ ds cup', evE C l δ cup = .ok (.tup ds) cup' ∧
  ∀ vs c' G' H', Ext c G H c' cup' G' H' → P c' G' H' vs ds → Q vs H'
def lArg (K : Fg) : Lst := fun c' G' H' vs ds => ShL K G' H' c' vs ds
def lVal (K : Fg) : Lst := fun c' G' _ vs ds => RepL K G' c' vs ds
theorem PEimp {X : Cx} {e : Expr} {t t' : L2.TE} (h : PE X e t) (i : ∀ σ H Q, t' σ H Q → t σ H Q) : PE X e t' := ⟨fun pins s σ H Q I q => h.run pins s σ H Q I (i _ _ _ q)⟩
theorem PTimp {X : Cx} {e : Expr} {t t' : L2.TT} (h : PT X e t) (i : ∀ σ H Q, t' σ H Q → t σ H Q) : PT X e t' := ⟨fun pins s σ H Q I q => h.run pins s σ H Q I (i _ _ _ q)⟩
theorem PWimp {X : Cx} {e : Expr} {t t' : L2.TT} (h : PW X e t) (i : ∀ σ H Q, t' σ H Q → t σ H Q) : PW X e t' := ⟨fun wh pins s σ H Q I q => h.run wh pins s σ H Q I (i _ _ _ q)⟩
theorem PAimp {X : Cx} {es : List Expr} {t t' : L2.TA} (h : PA X es t) (i : ∀ σ H Q, t' σ H Q → t σ H Q) : PA X es t' := ⟨fun pos pins s σ H Q I q => h.run pos pins s σ H Q I (i _ _ _ q)⟩
theorem PSimp {X : Cx} {e : Stmt} {t t' : L2.TS} (h : PS X e t) (i : ∀ D σ H, t' D σ H → t D σ H) : PS X e t' := ⟨fun pins s σ H D I q => h.run pins s σ H D I (i _ _ _ q)⟩
theorem PSsimp {X : Cx} {e : List Stmt} {t t' : L2.TS} (h : PSs X e t) (i : ∀ D σ H, t' D σ H → t D σ H) : PSs X e t' := ⟨fun pins s σ H D I q => h.run pins s σ H D I (i _ _ _ q)⟩
theorem bnd_ok {α β : Type} {m : M α} {f : α → M β} {c c' : Cup} {b : β} (h : bnd m f c = .ok b c') : ∃ a c1, m c = .ok a c1 ∧ f a c1 = .ok b c' := by
  unfold bnd at h
  cases e : m c with
  | ok a c1 => rw [e] at h; exact ⟨a, c1, rfl, h⟩
  | exc k => rw [e] at h; cases h
  | no => rw [e] at h; cases h
theorem lift_ok {α : Type} {o : Option α} {c c' : Cup} {a : α} (h : lift o c = .ok a c') : o = some a ∧ c' = c := by
  cases o with
  | none => cases h
  | some b => cases h; exact ⟨rfl, rfl⟩
theorem ret_ok {α : Type} {a b : α} {c c' : Cup} (h : ret a c = .ok b c') : b = a ∧ c' = c := by
  cases h
  exact ⟨rfl, rfl⟩
theorem unT_ok {f : List D → M D} {d r : D} {c c' : Cup} (h : unT f d c = .ok r c') : ∃ l, d = .tup l ∧ f l c = .ok r c' := by
  cases d with
  | tup l => exact ⟨l, rfl, h⟩
  | _ => cases h
theorem truth_ok {α : Type} {d : D} {a b : M α} {c c' : Cup} {r : α} (h : truth d a b c = .ok r c') : (d = .bl true ∧ a c = .ok r c') ∨ (d = .bl false ∧ b c = .ok r c') := by
  cases d with
  | bl k => cases k with
    | true => exact .inl ⟨rfl, h⟩
    | false => exact .inr ⟨rfl, h⟩
  | _ => cases h
theorem Ext.none_of {c c' : Option Addr} {cup' : Cup} {G H G' H' : Hp} (e : Ext c G H c' cup' G' H') {p : Addr} (h : H' p = none) : H p = none := by
  cases q : H p with
  | none => rfl
  | some o => exact absurd h (e.there (by rw [q]; exact fun z => by cases z))
theorem NewR.back {K : Fg} {c c1 c2 : Option Addr} {k1 : Cup} {G H G1 H1 G2 H2 : Hp} (e : Ext c G H c1 k1 G1 H1) {v : HV} {d : D} (n : NewR K H1 c2 G2 H2 v d) : NewR K H c2 G2 H2 v d := by
  cases d with
  | lst ds =>
    obtain ⟨p, xs, a, b, r⟩ := n
    exact ⟨p, xs, a, e.none_of b, r⟩
  | dct ds =>
    obtain ⟨p, xs, a, b, r⟩ := n
    exact ⟨p, xs, a, e.none_of b, r⟩
  | _ => exact n
section
variable {X : Cx} {O : List Nat} {C : Nat → List D → M D} {a b : Expr} {ia ib ic : Ex} {pos : Pos} {e : Expr} {ie : Ex} {K : Fg}
/-- from a fresh value to a plain one, to an argument -/
theorem val_of_new (h : PE X e (TX K O C (pNew K) ie)) : PE X e (TX K O C (pVal K) ie) := PEimp h fun σ H Q ⟨G, c, cup, δ, R, d, cup', he, hq⟩ =>
  ⟨G, c, cup, δ, R, d, cup', he, fun v c' G' H' e n => let ⟨G2, e2, r⟩ := NewR.give e n; hq v c' G2 H' e2 r⟩
theorem arg_of_new (h : PE X e (TX K O C (pNew K) ie)) : PE X e (TX K O C (pArg K) ie) := PEimp h fun σ H Q ⟨G, c, cup, δ, R, d, cup', he, hq⟩ =>
  ⟨G, c, cup, δ, R, d, cup', he, fun v c' G' H' e n => hq v c' G' H' e (NewR.sh e n)⟩
theorem arg_of_val (h : PE X e (TX K O C (pVal K) ie)) : PE X e (TX K O C (pArg K) ie) := PEimp h fun σ H Q ⟨G, c, cup, δ, R, d, cup', he, hq⟩ =>
  ⟨G, c, cup, δ, R, d, cup', he, fun v c' G' H' e n => hq v c' G' H' e (.rep n)⟩
/-- constants -/
theorem sx_const {v : HV} {d : D} (h : PE X e (tC v)) (hr : ∀ G c H, NewR X.K H c G H v d) (he : ∀ δ cup, evE C ie δ cup = .ok d cup) : PE X e (TX X.K O C (pNew X.K) ie) :=
  PEimp h fun σ H Q ⟨G, c, cup, δ, R, d', cup', h1, hq⟩ => by
    rw [he] at h1
    cases h1
    exact hq v c G H (Ext.refl R.same R.cup) (hr G c H)
theorem sx_op2 {op : Operator} {o : O2} (ho : OpR X (binaryOp op) (rBin X.K (op2D o))) (ha : PE X a (TX X.K O C (pArg X.K) ia)) (hb : PE X b (TX X.K O C (pArg X.K) ib)) : PE X (.BinOp a op b pos) (TX X.K O C (pNew X.K) (.op2 o ia ib)) :=
  PEimp (pe_op ho ha hb) fun σ H Q ⟨G, c, cup, δ, R, d, cup', he, hq⟩ => by
    obtain ⟨x, c1, h1, he⟩ := bnd_ok he
    obtain ⟨y, c2, h2, he⟩ := bnd_ok he
    obtain ⟨h3, rfl⟩ := lift_ok he
    exact ⟨G, c, cup, δ, R, x, c1, h1, fun v _ G1 H1 e1 r1 => ⟨G1, _, c1, δ, R.ext e1, y, _, h2, fun u _ G2 H2 e2 r2 => ⟨G2, _, x, y, d, e2.h, r1.ext e2, r2, h3, fun w H' pr => by
      obtain ⟨G3, e3, n3⟩ := pr.new e2.h e2.cup
      exact hq w _ G3 H' ((e1.trans e2).trans e3) (n3.back (e1.trans e2))⟩⟩⟩
theorem sx_cmp {op : CmpOp} {o : O2} (ho : OpR X (compareOp op) (rBin X.K (op2D o))) (ha : PE X a (TX X.K O C (pArg X.K) ia)) (hb : PE X b (TX X.K O C (pArg X.K) ib)) (hm : behindInMarks op b = false) : PE X (.Compare a [op] [b] pos) (TX X.K O C (pNew X.K) (.op2 o ia ib)) :=
  PEimp (pe_cmpR ho ha hb hm) fun σ H Q ⟨G, c, cup, δ, R, d, cup', he, hq⟩ => by
    obtain ⟨x, c1, h1, he⟩ := bnd_ok he
    obtain ⟨y, c2, h2, he⟩ := bnd_ok he
    obtain ⟨h3, rfl⟩ := lift_ok he
    exact ⟨G, c, cup, δ, R, x, c1, h1, fun v _ G1 H1 e1 r1 => ⟨G1, _, c1, δ, R.ext e1, y, _, h2, fun u _ G2 H2 e2 r2 => ⟨G2, _, x, y, d, e2.h, r1.ext e2, r2, h3, fun w H' pr => by
      obtain ⟨G3, e3, n3⟩ := pr.new e2.h e2.cup
      exact hq w _ G3 H' ((e1.trans e2).trans e3) (n3.back (e1.trans e2))⟩⟩⟩
theorem pr_bl {K : Fg} {G H : Hp} {c : Option Addr} {v : HV} {H' : Hp} {b : Bool} (h : PR K G H c v H' (.bl b)) : v = .bl b ∧ H' = H := by
  cases h with
  | old n r => cases r; exact ⟨rfl, rfl⟩
theorem st_cmp {op : CmpOp} {o : O2} (ho : OpR X (compareOp op) (rBin X.K (op2D o))) (ha : PE X a (TX X.K O C (pArg X.K) ia)) (hb : PE X b (TX X.K O C (pArg X.K) ib)) (hm : behindInMarks op b = false) : PT X (.Compare a [op] [b] pos) (TT X.K O C (.op2 o ia ib)) :=
  PTimp (pt_cmpR ho ha hb hm) fun σ H Q ⟨G, c, cup, δ, R, k, cup', he, hq⟩ => by
    obtain ⟨x, c1, h1, he⟩ := bnd_ok he
    obtain ⟨y, c2, h2, he⟩ := bnd_ok he
    obtain ⟨h3, rfl⟩ := lift_ok he
    exact ⟨G, c, cup, δ, R, x, c1, h1, fun v _ G1 H1 e1 r1 => ⟨G1, _, c1, δ, R.ext e1, y, _, h2, fun u _ G2 H2 e2 r2 => ⟨G2, _, x, y, .bl k, e2.h, r1.ext e2, r2, h3, fun w H' pr => by
      obtain ⟨rfl, rfl⟩ := pr_bl pr
      exact ⟨k, rfl, hq _ G2 _ (e1.trans e2)⟩⟩⟩⟩
/-- any expression without a form of its own, as a test -/
theorem st_val (h : PE X e (TX K O C (pNew K) ie)) (he : ∀ whole, isTrue e X.env whole = (do let v ← whole; standAt e.pos; holding [v] (truthy v))) : PT X e (TT K O C ie) :=
  PTimp (pt_val h he) fun σ H Q ⟨G, c, cup, δ, R, k, cup', h1, hq⟩ => ⟨G, c, cup, δ, R, .bl k, cup', h1, fun v c' G' H' e n => by
    have n' : Rep K G' c' v (.bl k) := n
    cases n'
    exact ⟨k, rfl, hq c' G' H' e⟩⟩
theorem st_arg (h : PE X e (TX K O C (pArg K) ie)) (he : ∀ whole, isTrue e X.env whole = (do let v ← whole; standAt e.pos; holding [v] (truthy v))) : PT X e (TT K O C ie) :=
  PTimp (pt_val h he) fun σ H Q ⟨G, c, cup, δ, R, k, cup', h1, hq⟩ => ⟨G, c, cup, δ, R, .bl k, cup', h1, fun v c' G' H' e n => ⟨k, Sh.bl n, hq c' G' H' e⟩⟩
theorem sx_neg (ha : PE X a (TX X.K O C (pArg X.K) ia)) : PE X (.UnaryOp .USub a pos) (TX X.K O C (pNew X.K) (.neg ia)) :=
  PEimp (pe_un un_neg ha) fun σ H Q ⟨G, c, cup, δ, R, d, cup', he, hq⟩ => by
    obtain ⟨x, c1, h1, he⟩ := bnd_ok he
    cases x <;> first | cases he; done | skip
    rename_i i
    cases he
    exact ⟨G, c, cup, δ, R, _, _, h1, fun v _ G1 H1 e1 r1 => ⟨i, Sh.int r1, hq _ _ G1 H1 e1 (.int _)⟩⟩
theorem st_not (ha : PT X a (TT X.K O C ia)) : PT X (.UnaryOp .Not a pos) (TT X.K O C (.not ia)) :=
  PTimp (pt_not ha) fun σ H Q ⟨G, c, cup, δ, R, k, cup', he, hq⟩ => by
    obtain ⟨x, c1, h1, he⟩ := bnd_ok he
    rcases truth_ok he with ⟨e1, h2⟩ | ⟨e1, h2⟩
    · obtain ⟨e2, rfl⟩ := ret_ok h2
      cases e2
      subst e1
      exact ⟨G, c, cup, δ, R, true, _, h1, fun c' G' H' e => hq c' G' H' e⟩
    · obtain ⟨e2, rfl⟩ := ret_ok h2
      cases e2
      subst e1
      exact ⟨G, c, cup, δ, R, false, _, h1, fun c' G' H' e => hq c' G' H' e⟩
theorem sx_not (ha : PE X a (TX X.K O C (pArg X.K) ia)) : PE X (.UnaryOp .Not a pos) (TX X.K O C (pNew X.K) (.not ia)) :=
  PEimp (pe_not ha) fun σ H Q ⟨G, c, cup, δ, R, d, cup', he, hq⟩ => by
    obtain ⟨x, c1, h1, he⟩ := bnd_ok he
    rcases truth_ok he with ⟨e1, h2⟩ | ⟨e1, h2⟩
    · obtain ⟨e2, rfl⟩ := ret_ok h2
      subst e1 e2
      exact ⟨G, c, cup, δ, R, _, _, h1, fun v c' G' H' e r => ⟨true, Sh.bl r, hq _ c' G' H' e (.bl _)⟩⟩
    · obtain ⟨e2, rfl⟩ := ret_ok h2
      subst e1 e2
      exact ⟨G, c, cup, δ, R, _, _, h1, fun v c' G' H' e r => ⟨false, Sh.bl r, hq _ c' G' H' e (.bl _)⟩⟩
theorem sx_ite {P : Pst} (hP : ∀ {c c1 : Option Addr} {k1 : Cup} {G H G1 H1 : Hp}, Ext c G H c1 k1 G1 H1 → ∀ {c' G' H' v d}, P H1 c' G' H' v d → P H c' G' H' v d) {c0 : Expr} (hc : PT X c0 (TT X.K O C ic)) (ha : PE X a (TX X.K O C P ia)) (hb : PE X b (TX X.K O C P ib)) : PE X (.IfExp c0 a b pos) (TX X.K O C P (.ite ic ia ib)) :=
  PEimp (pe_ifExp hc ha hb) fun σ H Q ⟨G, c, cup, δ, R, d, cup', he, hq⟩ => by
    obtain ⟨x, c1, h1, he⟩ := bnd_ok he
    rcases truth_ok he with ⟨e1, h2⟩ | ⟨e1, h2⟩
    · subst e1
      exact ⟨G, c, cup, δ, R, true, c1, h1, fun c' G' H' e => iteT ⟨G', c', c1, δ, R.ext e, d, cup', h2, fun v c2 G2 H2 e2 p => hq v c2 G2 H2 (e.trans e2) (hP e p)⟩⟩
    · subst e1
      exact ⟨G, c, cup, δ, R, false, c1, h1, fun c' G' H' e => iteF ⟨G', c', c1, δ, R.ext e, d, cup', h2, fun v c2 G2 H2 e2 p => hq v c2 G2 H2 (e.trans e2) (hP e p)⟩⟩
theorem st_ite {c0 : Expr} (hc : PT X c0 (TT X.K O C ic)) (ha : PT X a (TT X.K O C ia)) (hb : PT X b (TT X.K O C ib)) : PT X (.IfExp c0 a b pos) (TT X.K O C (.ite ic ia ib)) := by
  refine ⟨fun pins s σ H Q I ⟨G, c, cup, δ, R, k, cup', he, hq⟩ => ?_⟩
  obtain ⟨x, c1, h1, he⟩ := bnd_ok he
  rw [show PySem.isTrue (.IfExp c0 a b pos) X.env (eval (.IfExp c0 a b pos) X.env) = (do if ← PySem.isTrue c0 X.env (eval c0 X.env) then PySem.isTrue a X.env (eval a X.env) else PySem.isTrue b X.env (eval b X.env)) by rw [PySem.isTrue]]
  rcases truth_ok he with ⟨e1, h2⟩ | ⟨e1, h2⟩
  · subst e1
    refine wpAny_bind (thn (hc.run pins s σ H (fun b' H1 => b' = true ∧ ∃ G1 c2, Ext c G H c2 c1 G1 H1) I ⟨G, c, cup, δ, R, true, c1, h1, fun c' G' H' e => ⟨rfl, G', c', e⟩⟩) fun b' s1 ⟨H1, I1, e, G1, c2, x1⟩ => ?_)
    subst e
    rw [if_pos rfl]
    exact ha.run pins s1 σ H1 Q I1 ⟨G1, c2, c1, δ, R.ext x1, k, cup', h2, fun c' G' H' e2 => hq c' G' H' (x1.trans e2)⟩
  · subst e1
    refine wpAny_bind (thn (hc.run pins s σ H (fun b' H1 => b' = false ∧ ∃ G1 c2, Ext c G H c2 c1 G1 H1) I ⟨G, c, cup, δ, R, false, c1, h1, fun c' G' H' e => ⟨rfl, G', c', e⟩⟩) fun b' s1 ⟨H1, I1, e, G1, c2, x1⟩ => ?_)
    subst e
    rw [if_neg Bool.false_ne_true]
    exact hb.run pins s1 σ H1 Q I1 ⟨G1, c2, c1, δ, R.ext x1, k, cup', h2, fun c' G' H' e2 => hq c' G' H' (x1.trans e2)⟩
end
end PF

namespace PF
open PySem PySem.Spec L2 PySem.W
def exLen : Ex → Nat
  | .cons _ r => exLen r + 1
  | _ => 0
def isLs : Ex → Bool
  | .cons _ r => isLs r
  | .nil => true
  | _ => false
theorem ev_len {C : Nat → List D → M D} {δ : Env} : ∀ {l : Ex}, isLs l = true → ∀ {c c' : Cup} {ds : List D}, evE C l δ c = .ok (.tup ds) c' → ds.length = exLen l
  | .nil, _, c, c', ds, h => by cases h; rfl
  | .cons a r, hl, c, c', ds, h => by
    obtain ⟨x, c1, h1, h⟩ := bnd_ok h
    obtain ⟨y, c2, h2, h⟩ := bnd_ok h
    obtain ⟨l, rfl, h⟩ := unT_ok h
    cases h
    show l.length + 1 = exLen r + 1
    rw [ev_len (show isLs r = true from hl) h2]
  | .cN, h, _, _, _, _ => by cases h
  | .cB _, h, _, _, _, _ => by cases h
  | .cI _, h, _, _, _, _ => by cases h
  | .cS _, h, _, _, _, _ => by cases h
  | .var _, h, _, _, _, _ => by cases h
  | .tup _, h, _, _, _, _ => by cases h
  | .lst _, h, _, _, _, _ => by cases h
  | .op2 _ _ _, h, _, _, _, _ => by cases h
  | .neg _, h, _, _, _, _ => by cases h
  | .not _, h, _, _, _, _ => by cases h
  | .and _ _, h, _, _, _, _ => by cases h
  | .or _ _, h, _, _, _, _ => by cases h
  | .ite _ _ _, h, _, _, _, _ => by cases h
  | .chain _ _ _ _ _, h, _, _, _, _ => by cases h
  | .idx _ _, h, _, _, _, _ => by cases h
  | .slc _ _ _, h, _, _, _, _ => by cases h
  | .rev _, h, _, _, _, _ => by cases h
  | .b1 _ _, h, _, _, _, _ => by cases h
  | .b2 _ _ _, h, _, _, _, _ => by cases h
  | .call _ _, h, _, _, _, _ => by cases h
  | .callB _ _, h, _, _, _, _ => by cases h
  | .itR _, h, _, _, _, _ => by cases h
  | .itE _, h, _, _, _, _ => by cases h
  | .itZ _ _, h, _, _, _, _ => by cases h
  | .itV _, h, _, _, _, _ => by cases h
  | .comp _ _ _ _, h, _, _, _, _ => by cases h
theorem newBl {K : Fg} {H : Hp} {c' : Option Addr} {G' H' : Hp} {v : HV} {b : Bool} (h : NewR K H c' G' H' v (.bl b)) : v = .bl b := by
  have r : Rep K G' c' v (.bl b) := h
  cases r
  rfl
theorem env_get {δ : Env} {i : Nat} {d : D} (h : δ[i]?.getD none = some d) : δ[i]? = some (some d) := by
  cases q : δ[i]? with
  | none => rw [q] at h; cases h
  | some o =>
    rw [q] at h
    exact congrArg some h
theorem Sh.isN {K : Fg} {G H : Hp} {c : Option Addr} {v : HV} {d : D} (h : Sh K G H c v d) : decide (v = .non) = isNone d := by
  cases h with
  | own _ _ r _ => cases r <;> rfl
  | rep r => cases r <;> rfl
section
variable {X : Cx} {O : List Nat} {C : Nat → List D → M D} {a b cc : Expr} {ia ib ic : Ex} {pos : Pos} {e : Expr} {ie il : Ex} {es rest : List Expr}
theorem sx_var {i : Nat} {x : Str} (hN : X.N[i]? = some x) (hv : Vis X.env.scope x) (hd : (x == ("__debug__" : Str)) = false := by decide) (hcd : (x == ("__classdict__" : Str)) = false := by decide) : PE X (.Name x pos) (TX X.K O C (pArg X.K) (.var i)) :=
  PEimp (pe_var hN hv hd hcd) fun σ H Q ⟨G, c, cup, δ, R, d, cup', he, hq⟩ => by
    obtain ⟨h1, rfl⟩ := lift_ok he
    obtain ⟨v, h3, h4, h5⟩ := R.slot i d (env_get h1)
    refine ⟨v, h3, hq v c G H (Ext.refl R.same R.cup) ?_⟩
    by_cases z : i ∈ O
    · exact (h4 z).sh
    · exact .rep (h5 z)
theorem sx_varV {i : Nat} {x : Str} (hO : i ∉ O) (hN : X.N[i]? = some x) (hv : Vis X.env.scope x) (hd : (x == ("__debug__" : Str)) = false := by decide) (hcd : (x == ("__classdict__" : Str)) = false := by decide) : PE X (.Name x pos) (TX X.K O C (pVal X.K) (.var i)) :=
  PEimp (pe_var hN hv hd hcd) fun σ H Q ⟨G, c, cup, δ, R, d, cup', he, hq⟩ => by
    obtain ⟨h1, rfl⟩ := lift_ok he
    obtain ⟨v, h3, h4, h5⟩ := R.slot i d (env_get h1)
    exact ⟨v, h3, hq v c G H (Ext.refl R.same R.cup) (h5 hO)⟩
theorem sx_and (ha : PE X a (TX X.K O C (pArg X.K) ia)) (hb : PE X (.BoolOp .And (b :: rest) pos) (TX X.K O C (pArg X.K) ib)) : PE X (.BoolOp .And (a :: b :: rest) pos) (TX X.K O C (pNew X.K) (.and ia ib)) :=
  PEimp (pe_and ha hb) fun σ H Q ⟨G, c, cup, δ, R, d, cup', he, hq⟩ => by
    obtain ⟨x, c1, h1, he⟩ := bnd_ok he
    rcases truth_ok he with ⟨e1, h2⟩ | ⟨e1, h2⟩
    · subst e1
      obtain ⟨y, c2, h3, h4⟩ := bnd_ok h2
      have hy : y = d ∧ c2 = cup' ∧ ∃ k, d = .bl k := by
        rcases truth_ok h4 with ⟨e2, h5⟩ | ⟨e2, h5⟩ <;> (cases h5; exact ⟨e2, rfl, _, rfl⟩)
      obtain ⟨rfl, rfl, k, rfl⟩ := hy
      exact ⟨G, c, cup, δ, R, _, c1, h1, fun v c' G' H' e r => ⟨true, Sh.bl r, iteT ⟨G', c', c1, δ, R.ext e, _, _, h3, fun v2 c2 G2 H2 e2 r2 => hq v2 c2 G2 H2 (e.trans e2) (by rw [Sh.bl r2]; exact Rep.bl k)⟩⟩⟩
    · subst e1
      obtain ⟨e2, rfl⟩ := ret_ok h2
      subst e2
      exact ⟨G, c, cup, δ, R, _, _, h1, fun v c' G' H' e r => ⟨false, Sh.bl r, iteF (hq _ c' G' H' e (.bl false))⟩⟩
theorem sx_or (ha : PE X a (TX X.K O C (pArg X.K) ia)) (hb : PE X (.BoolOp .Or (b :: rest) pos) (TX X.K O C (pArg X.K) ib)) : PE X (.BoolOp .Or (a :: b :: rest) pos) (TX X.K O C (pNew X.K) (.or ia ib)) :=
  PEimp (pe_or ha hb) fun σ H Q ⟨G, c, cup, δ, R, d, cup', he, hq⟩ => by
    obtain ⟨x, c1, h1, he⟩ := bnd_ok he
    rcases truth_ok he with ⟨e1, h2⟩ | ⟨e1, h2⟩
    · subst e1
      obtain ⟨e2, rfl⟩ := ret_ok h2
      subst e2
      exact ⟨G, c, cup, δ, R, _, _, h1, fun v c' G' H' e r => ⟨true, Sh.bl r, iteT (hq _ c' G' H' e (Rep.bl true))⟩⟩
    · subst e1
      obtain ⟨y, c2, h3, h4⟩ := bnd_ok h2
      have hy : y = d ∧ c2 = cup' ∧ ∃ k, d = .bl k := by
        rcases truth_ok h4 with ⟨e2, h5⟩ | ⟨e2, h5⟩ <;> (cases h5; exact ⟨e2, rfl, _, rfl⟩)
      obtain ⟨rfl, rfl, k, rfl⟩ := hy
      exact ⟨G, c, cup, δ, R, _, c1, h1, fun v c' G' H' e r => ⟨false, Sh.bl r, iteF ⟨G', c', c1, δ, R.ext e, _, _, h3, fun v2 c2 G2 H2 e2 r2 => hq v2 c2 G2 H2 (e.trans e2) (by rw [Sh.bl r2]; exact Rep.bl k)⟩⟩⟩
theorem sx_one {op : BoolOp} {t : L2.TE} (h : PE X a t) : PE X (.BoolOp op [a] pos) t := pe_one h
theorem sw_and {op : BoolOp} (ha : PT X a (TT X.K O C ia)) (hb : PW X (.BoolOp .And (b :: rest) pos) (TT X.K O C ib)) : PW X (.BoolOp .And (a :: b :: rest) pos) (TT X.K O C (.and ia ib)) :=
  PWimp (pw_and ha hb) fun σ H Q ⟨G, c, cup, δ, R, k, cup', he, hq⟩ => by
    obtain ⟨x, c1, h1, he⟩ := bnd_ok he
    rcases truth_ok he with ⟨e1, h2⟩ | ⟨e1, h2⟩
    · subst e1
      obtain ⟨y, c2, h3, h4⟩ := bnd_ok h2
      have hy : y = .bl k ∧ c2 = cup' := by
        rcases truth_ok h4 with ⟨e2, h5⟩ | ⟨e2, h5⟩ <;> (cases h5; exact ⟨e2, rfl⟩)
      obtain ⟨rfl, rfl⟩ := hy
      exact ⟨G, c, cup, δ, R, true, c1, h1, fun c' G' H' e => iteT ⟨G', c', c1, δ, R.ext e, _, _, h3, fun c2 G2 H2 e2 => hq c2 G2 H2 (e.trans e2)⟩⟩
    · subst e1
      obtain ⟨e2, rfl⟩ := ret_ok h2
      cases e2
      exact ⟨G, c, cup, δ, R, false, _, h1, fun c' G' H' e => iteF (hq c' G' H' e)⟩
theorem sw_or {op : BoolOp} (ha : PT X a (TT X.K O C ia)) (hb : PW X (.BoolOp .Or (b :: rest) pos) (TT X.K O C ib)) : PW X (.BoolOp .Or (a :: b :: rest) pos) (TT X.K O C (.or ia ib)) :=
  PWimp (pw_or ha hb) fun σ H Q ⟨G, c, cup, δ, R, k, cup', he, hq⟩ => by
    obtain ⟨x, c1, h1, he⟩ := bnd_ok he
    rcases truth_ok he with ⟨e1, h2⟩ | ⟨e1, h2⟩
    · subst e1
      obtain ⟨e2, rfl⟩ := ret_ok h2
      cases e2
      exact ⟨G, c, cup, δ, R, true, _, h1, fun c' G' H' e => iteT (hq c' G' H' e)⟩
    · subst e1
      obtain ⟨y, c2, h3, h4⟩ := bnd_ok h2
      have hy : y = .bl k ∧ c2 = cup' := by
        rcases truth_ok h4 with ⟨e2, h5⟩ | ⟨e2, h5⟩ <;> (cases h5; exact ⟨e2, rfl⟩)
      obtain ⟨rfl, rfl⟩ := hy
      exact ⟨G, c, cup, δ, R, false, c1, h1, fun c' G' H' e => iteF ⟨G', c', c1, δ, R.ext e, _, _, h3, fun c2 G2 H2 e2 => hq c2 G2 H2 (e.trans e2)⟩⟩
/-- a < b < c -/
theorem chain_t {r r' : R2} {o o' : O2} (hr : r = rBin X.K (op2D o)) (hr' : r' = rBin X.K (op2D o')) : ∀ σ H Q, TX X.K O C (pNew X.K) (.chain o o' ia ib ic) σ H Q → tChain r r' (TX X.K O C (pArg X.K) ia) (TX X.K O C (pArg X.K) ib) (TX X.K O C (pArg X.K) ic) σ H Q := fun σ H Q ⟨G, c, cup, δ, R, d, cup', he, hq⟩ => by
  subst hr hr'
  obtain ⟨x, c1, h1, he1⟩ := bnd_ok he
  obtain ⟨y, c2, h2, he2⟩ := bnd_ok he1
  obtain ⟨t, c3, h30, he3⟩ := bnd_ok he2
  obtain ⟨h3, h31⟩ := lift_ok h30
  subst h31
  rcases truth_ok he3 with ⟨e1, h4⟩ | ⟨e1, h4⟩
  · subst e1
    obtain ⟨z, c4, h5, h60⟩ := bnd_ok h4
    obtain ⟨h6, h61⟩ := lift_ok h60
    subst h61
    refine ⟨G, c, cup, δ, R, x, c1, h1, fun v _ G1 H1 e1 r1 => ⟨G1, _, c1, δ, R.ext e1, y, _, h2, fun u k2 G2 H2 e2 r2 => ⟨G2, k2, x, y, .bl true, e2.h, r1.ext e2, r2, h3, fun w H' pr => ?_⟩⟩⟩
    obtain ⟨rfl, rfl⟩ := pr_bl pr
    refine ⟨true, rfl, iteT ⟨G2, k2, _, δ, R.ext (e1.trans e2), z, _, h5, fun w' k3 G3 H3 e3 r3 => ⟨G3, k3, y, z, d, e3.h, r2.ext e3, r3, h6, fun w2 H'2 pr2 => ?_⟩⟩⟩
    obtain ⟨G4, e4, n4⟩ := pr2.new e3.h e3.cup
    exact hq w2 _ G4 H'2 (((e1.trans e2).trans e3).trans e4) (n4.back ((e1.trans e2).trans e3))
  · subst e1
    obtain ⟨e2, rfl⟩ := ret_ok h4
    subst e2
    refine ⟨G, c, cup, δ, R, x, c1, h1, fun v _ G1 H1 e1 r1 => ⟨G1, _, c1, δ, R.ext e1, y, _, h2, fun u k2 G2 H2 e2 r2 => ⟨G2, k2, x, y, .bl false, e2.h, r1.ext e2, r2, h3, fun w H' pr => ?_⟩⟩⟩
    obtain ⟨rfl, rfl⟩ := pr_bl pr
    exact ⟨false, rfl, iteF (hq _ k2 G2 _ (e1.trans e2) (Rep.bl false))⟩
theorem sx_chain {op op' : CmpOp} {o o' : O2} (ho : OpR X (compareOp op) (rBin X.K (op2D o))) (ho' : OpR X (compareOp op') (rBin X.K (op2D o'))) (ha : PE X a (TX X.K O C (pArg X.K) ia)) (hb : PE X b (TX X.K O C (pArg X.K) ib)) (hc : PE X cc (TX X.K O C (pArg X.K) ic))
    (hm : lastMarks [op, op'] [b, cc] = false := by with_unfolding_all rfl) : PE X (.Compare a [op, op'] [b, cc] pos) (TX X.K O C (pNew X.K) (.chain o o' ia ib ic)) := PEimp (pe_chain ho ho' ha hb hc hm) (chain_t rfl rfl)
theorem st_chain {op op' : CmpOp} {o o' : O2} (ho : OpR X (compareOp op) (rBin X.K (op2D o))) (ho' : OpR X (compareOp op') (rBin X.K (op2D o'))) (ha : PE X a (TX X.K O C (pArg X.K) ia)) (hb : PE X b (TX X.K O C (pArg X.K) ib)) (hc : PE X cc (TX X.K O C (pArg X.K) ic))
    (hm : lastMarks [op, op'] [b, cc] = false := by with_unfolding_all rfl) : PT X (.Compare a [op, op'] [b, cc] pos) (TT X.K O C (.chain o o' ia ib ic)) := PTimp (pt_chain ho ho' ha hb hc hm) fun σ H Q ⟨G, c, cup, δ, R, k, cup', he, hq⟩ =>
  chain_t rfl rfl σ H _ ⟨G, c, cup, δ, R, .bl k, cup', he, fun v c' G' H' e n => ⟨k, newBl n, hq c' G' H' e⟩⟩
theorem sx_idx (ha : PE X a (TX X.K O C (pArg X.K) ia)) (hb : PE X b (TX X.K O C (pArg X.K) ib)) (hs : PlainIx b := by intro _ _; rfl) : PE X (.Subscript a b pos) (TX X.K O C (pVal X.K) (.idx ia ib)) :=
  PEimp (pe_ix ok_idx ha hb hs) fun σ H Q ⟨G, c, cup, δ, R, d, cup', he, hq⟩ => by
    obtain ⟨x, c1, h1, he⟩ := bnd_ok he
    obtain ⟨y, c2, h2, he⟩ := bnd_ok he
    have z := (idxM_of he).1
    subst z
    exact ⟨G, c, cup, δ, R, x, c1, h1, fun v _ G1 H1 e1 r1 => ⟨G1, _, c1, δ, R.ext e1, y, _, h2, fun u k2 G2 H2 e2 r2 => ⟨G2, k2, _, x, y, d, e2.h, e2.cup, r1.ext e2, r2, he, fun w r => hq w k2 G2 H2 (e1.trans e2) r⟩⟩⟩
/-- a slice's part -/
def TP (K : Fg) (O : List Nat) (C : Nat → List D → M D) (e : Ex) : TO := fun σ H Q => ∃ G c cup δ, Rel K O G H c cup σ δ ∧ ∃ d l cup', evE C e δ cup = .ok d cup' ∧ part d = some l ∧ ∀ c' G' H', Ext c G H c' cup' G' H' → Q l H'
theorem sp_none : PO X none (TP X.K O C .cN) := by
  refine ⟨fun pins s σ H Q I ⟨G, c, cup, δ, R, d, l, cup', he, hp, hq⟩ => ?_⟩
  obtain ⟨rfl, rfl⟩ := ret_ok he
  cases hp
  exact po_none.run pins s σ H Q I (hq c G H (Ext.refl R.same R.cup))
theorem sp_some (h : PE X e (TX X.K O C (pArg X.K) ie)) : PO X (some e) (TP X.K O C ie) := by
  refine ⟨fun pins s σ H Q I ⟨G, c, cup, δ, R, d, l, cup', he, hp, hq⟩ => ?_⟩
  rw [evalPart_some]
  refine thn (h.run pins s σ H (fun x H1 => ((x = .non ∧ d = .non) ∨ ∃ i, x = .int i ∧ d = .int i) ∧ ∃ c' G', Ext c G H c' cup' G' H1) I ⟨G, c, cup, δ, R, d, cup', he, fun v c' G' H' e r => ⟨?_, c', G', e⟩⟩) fun u s1 ⟨x, H1, I1, r1, hx, c', G', e⟩ => ?_
  · cases d <;> first | cases hp; done | skip
    · exact .inl ⟨r.non, rfl⟩
    · exact .inr ⟨_, r.int, rfl⟩
  · rcases hx with ⟨rfl, rfl⟩ | ⟨i, rfl, rfl⟩
    · cases hp
      cases r1
      exact ⟨none, H1, I1, .none, hq c' G' H1 e⟩
    · cases hp
      obtain ⟨t, rfl⟩ := r1
      exact ⟨some i, H1, I1, .int i t, hq c' G' H1 e⟩
theorem slcD_of {x lo hi d : D} (h : slcD x lo hi = some d) : ∃ l u, part lo = some l ∧ part hi = some u ∧ cutD x l u = some d := by
  unfold slcD at h
  cases h1 : part lo with
  | none => rw [h1] at h; cases h
  | some l =>
    cases h2 : part hi with
    | none => rw [h1, h2] at h; cases h
    | some u =>
      rw [h1, h2] at h
      refine ⟨l, u, rfl, rfl, ?_⟩
      cases x <;> exact h
theorem sx_slc {lo hi : Option Expr} {ilo ihi : Ex} {p2 : Pos} (ha : PE X a (TX X.K O C (pArg X.K) ia)) (hl : PO X lo (TP X.K O C ilo)) (hh : PO X hi (TP X.K O C ihi)) : PE X (.Subscript a (.Slice lo hi none p2) pos) (TX X.K O C (pNew X.K) (.slc ia ilo ihi)) :=
  PEimp (pe_slice ok_slc ha hl hh) fun σ H Q ⟨G, c, cup, δ, R, d, cup', he, hq⟩ => by
    obtain ⟨x, c1, h1, he⟩ := bnd_ok he
    obtain ⟨y, c2, h2, he⟩ := bnd_ok he
    obtain ⟨z, c3, h3, he⟩ := bnd_ok he
    obtain ⟨h4, rfl⟩ := lift_ok he
    obtain ⟨l, u, p1, p2, h5⟩ := slcD_of h4
    exact ⟨G, c, cup, δ, R, x, c1, h1, fun v _ G1 H1 e1 r1 => ⟨G1, _, c1, δ, R.ext e1, y, l, c2, h2, p1, fun k2 G2 H2 e2 => ⟨G2, k2, c2, δ, R.ext (e1.trans e2), z, u, _, h3, p2, fun k3 G3 H3 e3 => ⟨G3, k3, x, d, e3.h, (r1.ext e2).ext e3, h5, fun w H' pr => by
      obtain ⟨G4, e4, n4⟩ := pr.new e3.h e3.cup
      exact hq w _ G4 H' (((e1.trans e2).trans e3).trans e4) (n4.back ((e1.trans e2).trans e3))⟩⟩⟩⟩
theorem sx_rev {k : Nat} {p1 p2 p3 : Pos} (ha : PE X a (TX X.K O C (pArg X.K) ia)) : PE X (.Subscript a (.Slice none none (some (.UnaryOp .USub (.Constant (.int 1) k p1) p2)) p3) pos) (TX X.K O C (pNew X.K) (.rev ia)) :=
  PEimp (pe_rev ha) fun σ H Q ⟨G, c, cup, δ, R, d, cup', he, hq⟩ => by
    obtain ⟨x, c1, h1, he⟩ := bnd_ok he
    obtain ⟨h2, rfl⟩ := lift_ok he
    exact ⟨G, c, cup, δ, R, x, _, h1, fun v k1 G1 H1 e1 r1 => ⟨G1, k1, x, d, e1.h, r1, h2, fun w H' pr => by
      obtain ⟨G2, e2, n2⟩ := pr.new e1.h e1.cup
      exact hq w _ G2 H' (e1.trans e2) (n2.back e1)⟩⟩
/-- argument lists -/
theorem al_nil {P : Lst} : PA X [] (TL X.K O C P .nil) → PA X [] (TL X.K O C P .nil) := id
theorem la_nil : PA X [] (TL X.K O C (lArg X.K) .nil) := PAimp pa_nil fun σ H Q ⟨G, c, cup, δ, R, ds, cup', he, hq⟩ => by
  cases he
  exact hq [] c G H (Ext.refl R.same R.cup) .nil
theorem lv_nil : PA X [] (TL X.K O C (lVal X.K) .nil) := PAimp pa_nil fun σ H Q ⟨G, c, cup, δ, R, ds, cup', he, hq⟩ => by
  cases he
  exact hq [] c G H (Ext.refl R.same R.cup) .nil
theorem cons_ok {ia il : Ex} {δ : Env} {cup cup' : Cup} {ds : List D} (h : evE C (.cons ia il) δ cup = .ok (.tup ds) cup') : ∃ d c1 r, evE C ia δ cup = .ok d c1 ∧ evE C il δ c1 = .ok (.tup r) cup' ∧ ds = d :: r := by
  obtain ⟨x, c1, h1, h⟩ := bnd_ok h
  obtain ⟨y, c2, h2, h⟩ := bnd_ok h
  obtain ⟨l, rfl, h⟩ := unT_ok h
  cases h
  exact ⟨x, c1, l, h1, h2, rfl⟩
theorem la_cons (ha : PE X e (TX X.K O C (pArg X.K) ie)) (hr : PA X es (TL X.K O C (lArg X.K) il)) (hs : starEach (e :: es) X.env = (false, eval e X.env) :: starEach es X.env := by rfl) : PA X (e :: es) (TL X.K O C (lArg X.K) (.cons ie il)) :=
  PAimp (pa_cons ha hr hs) fun σ H Q ⟨G, c, cup, δ, R, ds, cup', he, hq⟩ => by
    obtain ⟨d, c1, r, h1, h2, rfl⟩ := cons_ok he
    exact ⟨G, c, cup, δ, R, d, c1, h1, fun v _ G1 H1 e1 r1 => ⟨G1, _, c1, δ, R.ext e1, r, cup', h2, fun vs k2 G2 H2 e2 r2 => hq (v :: vs) k2 G2 H2 (e1.trans e2) (.cons (r1.ext e2) r2)⟩⟩
theorem lv_cons (ha : PE X e (TX X.K O C (pVal X.K) ie)) (hr : PA X es (TL X.K O C (lVal X.K) il)) (hs : starEach (e :: es) X.env = (false, eval e X.env) :: starEach es X.env := by rfl) : PA X (e :: es) (TL X.K O C (lVal X.K) (.cons ie il)) :=
  PAimp (pa_cons ha hr hs) fun σ H Q ⟨G, c, cup, δ, R, ds, cup', he, hq⟩ => by
    obtain ⟨d, c1, r, h1, h2, rfl⟩ := cons_ok he
    exact ⟨G, c, cup, δ, R, d, c1, h1, fun v _ G1 H1 e1 r1 => ⟨G1, _, c1, δ, R.ext e1, r, cup', h2, fun vs k2 G2 H2 e2 r2 => hq (v :: vs) k2 G2 H2 (e1.trans e2) (.cons ((Rep.mono e2.g r1).cle e2.cle) r2)⟩⟩
/-- displays -/
theorem pe_tupN {x1 : Nat} {t : TA} (h : PA X es t) : PE X (.Tuple es x1 pos) (fun σ H Q => t σ H fun xs H1 => xs.length ≤ sizeLine ∧ ∀ p o, o.dict = none → H1 p = none → Q (.ref p) (upd H1 p (.frz o (.tup xs)))) := by
  refine ⟨fun pins s σ H Q I hq => ?_⟩
  refine wpAny_Tuple_spliced (thn (h.run pos pins s σ H _ I hq) fun us s1 ⟨xs, H1, I1, r, z, q⟩ => ⟨by rw [← r.length]; exact z, ?_⟩)
  exact ⟨.ref s1.heap.objs.size, _, laidT (h' := s1.heap) (t' := s1.toks) I1 (fun _ _ q => q) z r, rfl, q _ _ rfl (I1.hok.fresh (Nat.le_refl _))⟩
theorem le_size {n : Nat} (h : n ≤ 1000) : n ≤ sizeLine := by rw [sizeLine_eq]; omega
theorem sx_tup {x1 : Nat} (h : PA X es (TL X.K O C (lVal X.K) il)) (hl : isLs il = true := by rfl) (hn : exLen il ≤ 1000 := by decide) : PE X (.Tuple es x1 pos) (TX X.K O C (pNew X.K) (.tup il)) :=
  PEimp (pe_tupN h) fun σ H Q ⟨G, c, cup, δ, R, d, cup', he, hq⟩ => by
    obtain ⟨y, c2, h2, he⟩ := bnd_ok he
    obtain ⟨l, rfl, he⟩ := unT_ok he
    cases he
    refine ⟨G, c, cup, δ, R, l, _, h2, fun vs k1 G1 H1 e1 r1 => ⟨le_size (by rw [r1.length, ev_len hl h2]; exact hn), fun p o ho hp => ?_⟩⟩
    obtain ⟨G2, e2, n2⟩ := (PR.tup (G := G1) hp ho r1).new e1.h e1.cup
    exact hq _ _ G2 _ (e1.trans e2) (n2.back e1)
theorem sx_lst (h : PA X es (TL X.K O C (lVal X.K) il)) (hl : isLs il = true := by rfl) (hn : exLen il ≤ 1000 := by decide) : PE X (.List es pos) (TX X.K O C (pNew X.K) (.lst il)) :=
  PEimp (pe_lst h) fun σ H Q ⟨G, c, cup, δ, R, d, cup', he, hq⟩ => by
    obtain ⟨y, c2, h2, he⟩ := bnd_ok he
    obtain ⟨l, rfl, he⟩ := unT_ok he
    cases he
    refine ⟨G, c, cup, δ, R, l, _, h2, fun vs k1 G1 H1 e1 r1 => ⟨le_size (by rw [r1.length, ev_len hl h2]; exact hn), fun p hp => ?_⟩⟩
    obtain ⟨G2, e2, n2⟩ := (PR.lst (G := G1) hp r1).new e1.h e1.cup
    exact hq _ _ G2 _ (e1.trans e2) (n2.back e1)
/-- built-in functions and types -/
theorem b1_t {f : B1} : ∀ σ H Q, TX X.K O C (pNew X.K) (.b1 f ia) σ H Q → tCB (rB1 X.K (b1D f)) (tCons (TX X.K O C (pArg X.K) ia) tNil) σ H Q := fun σ H Q ⟨G, c, cup, δ, R, d, cup', he, hq⟩ => by
  obtain ⟨x, c1, h1, he⟩ := bnd_ok he
  obtain ⟨h2, rfl⟩ := lift_ok he
  exact ⟨G, c, cup, δ, R, x, _, h1, fun v k1 G1 H1 e1 r1 => ⟨G1, k1, v, x, d, rfl, e1.h, r1, h2, fun w H' pr => by
    obtain ⟨G2, e2, n2⟩ := pr.new e1.h e1.cup
    exact hq w _ G2 H' (e1.trans e2) (n2.back e1)⟩⟩
theorem sx_b1 {f : B1} {id : String} {x : Str} {p : Pos} (hc : CallR X (.builtin id) (rB1 X.K (b1D f))) (hg : Gl X x) (hm : X.mg x = none) (hv : bootBuiltins x = some (.builtin id)) (ha : PE X a (TX X.K O C (pArg X.K) ia)) (hn : x ≠ "__name__" := by decide) (hdb : (x == ("__debug__" : Str)) = false := by decide)
    (hs : starEach [a] X.env = (false, eval a X.env) :: starEach [] X.env := by rfl) : PE X (.Call (.Name x p) [a] [] pos) (TX X.K O C (pNew X.K) (.b1 f ia)) := PEimp (pe_callB hc hg hm hv (pa_cons ha pa_nil hs) hn hdb hs rfl) b1_t
theorem sx_b1T {f : B1} {T : String} {x : Str} {p : Pos} (hc : CallR X (.type T) (rB1 X.K (b1D f))) (hg : Gl X x) (hm : X.mg x = none) (hv : bootBuiltins x = some (.type T)) (ha : PE X a (TX X.K O C (pArg X.K) ia)) (hn : x ≠ "__name__" := by decide) (hdb : (x == ("__debug__" : Str)) = false := by decide)
    (hs : starEach [a] X.env = (false, eval a X.env) :: starEach [] X.env := by rfl) : PE X (.Call (.Name x p) [a] [] pos) (TX X.K O C (pNew X.K) (.b1 f ia)) := PEimp (pe_callTy hc hg hm hv (pa_cons ha pa_nil hs) hn hdb hs rfl) b1_t
theorem sx_b2 {f : B2} {id : String} {x : Str} {p : Pos} (hc : CallR X (.builtin id) (rB2 X.K (b2D f))) (hg : Gl X x) (hm : X.mg x = none) (hv : bootBuiltins x = some (.builtin id)) (ha : PE X a (TX X.K O C (pArg X.K) ia)) (hb : PE X b (TX X.K O C (pArg X.K) ib)) (hn : x ≠ "__name__" := by decide) (hdb : (x == ("__debug__" : Str)) = false := by decide)
    (hs : starEach [a, b] X.env = (false, eval a X.env) :: starEach [b] X.env := by rfl) (hs2 : starEach [b] X.env = (false, eval b X.env) :: starEach [] X.env := by rfl) (hpl : (backTo pos (starEach [b] X.env)).any (·.1) = false := by rfl) : PE X (.Call (.Name x p) [a, b] [] pos) (TX X.K O C (pNew X.K) (.b2 f ia ib)) :=
  PEimp (pe_callB hc hg hm hv (pa_cons ha (pa_cons hb pa_nil hs2) hs) hn hdb hs hpl) fun σ H Q ⟨G, c, cup, δ, R, d, cup', he, hq⟩ => by
    obtain ⟨x, c1, h1, he⟩ := bnd_ok he
    obtain ⟨y, c2, h2, he⟩ := bnd_ok he
    obtain ⟨h3, rfl⟩ := lift_ok he
    exact ⟨G, c, cup, δ, R, x, _, h1, fun v k1 G1 H1 e1 r1 => ⟨G1, k1, c1, δ, R.ext e1, y, _, h2, fun u k2 G2 H2 e2 r2 => ⟨G2, k2, v, u, x, y, d, rfl, e2.h, r1.ext e2, r2, h3, fun w H' pr => by
      obtain ⟨G3, e3, n3⟩ := pr.new e2.h e2.cup
      exact hq w _ G3 H' ((e1.trans e2).trans e3) (n3.back (e1.trans e2))⟩⟩⟩
theorem sx_isN {j : Nat} {p : Pos} (ha : PE X a (TX X.K O C (pArg X.K) ia)) : PE X (.Compare a [.Is] [.Constant .none j p] pos) (TX X.K O C (pNew X.K) (.b1 .isNone ia)) :=
  PEimp (pe_cmp (pc_isN ha)) fun σ H Q ⟨G, c, cup, δ, R, d, cup', he, hq⟩ => by
    obtain ⟨x, c1, h1, he⟩ := bnd_ok he
    obtain ⟨h2, rfl⟩ := lift_ok he
    cases h2
    exact ⟨G, c, cup, δ, R, x, _, h1, fun v k1 G1 H1 e1 r1 => hq _ k1 G1 H1 e1 (by rw [r1.isN]; exact Rep.bl _)⟩
theorem st_isN {j : Nat} {p : Pos} (ha : PE X a (TX X.K O C (pArg X.K) ia)) : PT X (.Compare a [.Is] [.Constant .none j p] pos) (TT X.K O C (.b1 .isNone ia)) :=
  PTimp (pt_cmp (pc_isN ha)) fun σ H Q ⟨G, c, cup, δ, R, k, cup', he, hq⟩ => by
    obtain ⟨x, c1, h1, he⟩ := bnd_ok he
    obtain ⟨h2, rfl⟩ := lift_ok he
    cases h2
    exact ⟨G, c, cup, δ, R, x, _, h1, fun v k1 G1 H1 e1 r1 => ⟨_, rfl, by rw [r1.isN]; exact hq k1 G1 H1 e1⟩⟩
theorem not_isN {ia : Ex} {δ : Env} {cup cup' : Cup} {d : D} (h : evE C (.not (.b1 .isNone ia)) δ cup = .ok d cup') : ∃ x, evE C ia δ cup = .ok x cup' ∧ d = .bl (!isNone x) := by
  obtain ⟨y, c1, h1, h⟩ := bnd_ok h
  obtain ⟨x, c2, h2, h1⟩ := bnd_ok h1
  obtain ⟨h3, rfl⟩ := lift_ok h1
  cases h3
  rcases truth_ok h with ⟨e1, h4⟩ | ⟨e1, h4⟩ <;> (cases h4; injection e1 with e1; exact ⟨x, h2, by rw [e1]; rfl⟩)
theorem sx_notN {j : Nat} {p : Pos} (ha : PE X a (TX X.K O C (pArg X.K) ia)) : PE X (.Compare a [.IsNot] [.Constant .none j p] pos) (TX X.K O C (pNew X.K) (.not (.b1 .isNone ia))) :=
  PEimp (pe_cmp (pc_notN ha)) fun σ H Q ⟨G, c, cup, δ, R, d, cup', he, hq⟩ => by
    obtain ⟨x, h1, rfl⟩ := not_isN he
    exact ⟨G, c, cup, δ, R, x, _, h1, fun v k1 G1 H1 e1 r1 => hq _ k1 G1 H1 e1 (by rw [r1.isN]; exact Rep.bl _)⟩
theorem st_notN {j : Nat} {p : Pos} (ha : PE X a (TX X.K O C (pArg X.K) ia)) : PT X (.Compare a [.IsNot] [.Constant .none j p] pos) (TT X.K O C (.not (.b1 .isNone ia))) :=
  PTimp (pt_cmp (pc_notN ha)) fun σ H Q ⟨G, c, cup, δ, R, k, cup', he, hq⟩ => by
    obtain ⟨x, h1, h2⟩ := not_isN he
    injection h2 with h2
    exact ⟨G, c, cup, δ, R, x, _, h1, fun v k1 G1 H1 e1 r1 => ⟨_, rfl, by rw [r1.isN, ← h2]; exact hq k1 G1 H1 e1⟩⟩
/-- isinstance(x, T) -/
theorem sx_isi {f : B1} {T : String} {p q : Pos} {x : Str} (hT : ∀ dx d, b1D f dx = some d → ∃ b, d = .bl b ∧ kitB (tyD dx) T = some b) (hg : Gl X "isinstance") (hm : X.mg "isinstance" = none) (hg2 : Gl X x) (hm2 : X.mg x = none) (hv2 : bootBuiltins x = some (.type T)) (ha : PE X a (TX X.K O C (pArg X.K) ia))
    (hn : x ≠ "__name__" := by decide) (hdb : (x == ("__debug__" : Str)) = false := by decide) (hs : starEach [a, .Name x q] X.env = (false, eval a X.env) :: starEach [.Name x q] X.env := by rfl) (hs2 : starEach [.Name x q] X.env = (false, eval (.Name x q) X.env) :: starEach [] X.env := by rfl)
    (hpl : (backTo pos (starEach [.Name x q] X.env)).any (·.1) = false := by rfl) : PE X (.Call (.Name "isinstance" p) [a, .Name x q] [] pos) (TX X.K O C (pNew X.K) (.b1 f ia)) :=
  PEimp (pe_callB (ok_isi hT) hg hm PyProof.Rows.boot_isinstance (pa_cons ha (pa_cons (pe_bltn (v := .ty T) hg2 hm2 hv2 rfl hn hdb) pa_nil hs2) hs) (by decide) (by decide) hs hpl) fun σ H Q ⟨G, c, cup, δ, R, d, cup', he, hq⟩ => by
    obtain ⟨x, c1, h1, he⟩ := bnd_ok he
    obtain ⟨h2, rfl⟩ := lift_ok he
    obtain ⟨k, rfl, _⟩ := hT x d h2
    exact ⟨G, c, cup, δ, R, x, _, h1, fun v k1 G1 H1 e1 r1 => ⟨G1, k1, _, v, x, _, rfl, e1.h, e1.cup, r1, h2, fun w r => hq w k1 G1 H1 e1 r⟩⟩
end
end PF

namespace PF
open PySem PySem.Spec L2 PySem.W
/-! ### methods of lists and tuples: index, count -/
theorem seqD_of {x : D} {ds : List D} (h : seqD x = some ds) : x = .lst ds ∨ x = .tup ds := by
  cases x <;> cases h
  · exact .inr rfl
  · exact .inl rfl
theorem b2_seq {f : B2} (hf : f = .index ∨ f = .count) {x y d : D} (h : b2D f x y = some d) : ∃ ds, x = .lst ds ∨ x = .tup ds := by
  rcases hf with rfl | rfl
  · cases x <;> first | exact ⟨_, .inl rfl⟩ | exact ⟨_, .inr rfl⟩ | (cases y <;> cases h)
  · cases x <;> first | exact ⟨_, .inl rfl⟩ | exact ⟨_, .inr rfl⟩ | (cases y <;> cases h)
theorem b2_flat {f : B2} (hf : f = .index ∨ f = .count) {x y d : D} (h : b2D f x y = some d) : ∃ i, d = .int i := by
  obtain ⟨ds, hx⟩ := b2_seq hf h
  have hq : seqD x = some ds := by rcases hx with rfl | rfl <;> rfl
  rcases hf with rfl | rfl
  · obtain ⟨_, _, _, k, _, e⟩ := index_of hq h
    exact ⟨_, e⟩
  · obtain ⟨_, _, _, e⟩ := count_of hq h
    exact ⟨_, e⟩
section
variable {X : Cx} {O : List Nat} {C : Nat → List D → M D} {o e : Expr} {io ie il : Ex} {es : List Expr} {pos apos cpos : Pos}
theorem sx_meth2 {f : B2} {name : Str} {idL idT : String} (hf : f = .index ∨ f = .count) (sL : Slot "list" name idL) (tL : typeOf (.builtin idL) = pure (.type "method_descriptor")) (mL : MtR X idL (rM2 X.K (onL (b2D f))))
    (sT : Slot "tuple" name idT) (tT : typeOf (.builtin idT) = pure (.type "method_descriptor")) (mT : MtR X idT (rM2 X.K (onT (b2D f)))) (ho : PE X o (TX X.K O C (pArg X.K) io)) (ha : PE X e (TX X.K O C (pArg X.K) ie))
    (hbase : attributeBase o name X.env (eval o X.env) = eval o X.env := by rfl)
    (hfew : ((backTo cpos (starEach [e] X.env)).all (fun x => !x.1) && (backToKw cpos (keywordEach [] X.env)).all (fun x => x.1.isSome)
      && decide ([e].length + ([] : List Keyword).length + (if ([] : List Keyword).isEmpty then 0 else 1) < 30)) = true := by rfl)
    (hline : (apos.endLine == cpos.line) = true := by rfl) (hs : starEach [e] X.env = (false, eval e X.env) :: starEach [] X.env := by rfl) :
    PE X (.Call (.Attribute o name apos) [e] [] cpos) (TX X.K O C (pNew X.K) (.b2 f io ie)) := by
  refine ⟨fun pins s σ H Q I ⟨G, c, cup, δ, R, d, cup', he, hq⟩ => ?_⟩
  obtain ⟨x, c1, h1, he1⟩ := bnd_ok he
  obtain ⟨y, c2, h2, he2⟩ := bnd_ok he1
  obtain ⟨h3, h31⟩ := lift_ok he2
  subst h31
  obtain ⟨ds, hx⟩ := b2_seq hf h3
  obtain ⟨ia, hd⟩ := b2_flat hf h3
  subst hd
  refine wpAny_Call_method_late hbase hfew hline rfl (thn (ho.run pins s σ H (fun v H1 => ∃ k1 G1, Ext c G H k1 c1 G1 H1 ∧ Sh X.K G1 H1 k1 v x) I ⟨G, c, cup, δ, R, x, c1, h1, fun v k1 G1 H1 e1 r1 => ⟨k1, G1, e1, r1⟩⟩) fun u s1 ⟨v, H1, I1, r1, k1, G1, e1, hv⟩ => ?_)
  have hA := (pa_cons ha pa_nil hs).run cpos pins s1 σ H1 (fun vs H2 => ∃ w k2 G2, vs = [w] ∧ Ext k1 G1 H1 k2 cup' G2 H2 ∧ Sh X.K G2 H2 k2 w y) I1 ⟨G1, k1, c1, δ, R.ext e1, y, cup', h2, fun w k2 G2 H2 e2 r2 => ⟨w, k2, G2, rfl, e2, r2⟩⟩
  rcases hx with rfl | rfl
  · obtain ⟨p, xs, rfl, hp, rr⟩ := hv.seqL e1.h
    obtain ⟨its, _, pl, _⟩ := I1.list (SqL.of hp)
    cases r1
    refine ⟨"list", idL, PySem.F.plainAttrs_list, sL, tL, pl.isList.typeIs, fun a e => ?_, ?_⟩
    · cases e
      obtain ⟨o, n, e, c, hd, _⟩ := pl
      exact ⟨o, e, hd⟩
    · rw [hs] at hA ⊢
      refine Calls.callWith_builtin (by rfl) (Calls.evalArgs_plain ?_)
      exact thn hA fun us s2 ⟨vs, H2, I2, r2, w, k2, G2, ew, e2, hw⟩ => mL pins s2 σ H2 (.ref p) vs (.ref p) us Q I2 rfl r2 ⟨G2, k2, w, _, y, _, ew, e2.h, hv.ext e2, hw, h3, fun z rz => hq z k2 G2 H2 (e1.trans e2) rz⟩
  · have hN : ∃ p xs, v = .ref p ∧ SqN X.K H1 p xs := by
      cases hv with
      | rep r =>
        cases r with
        | tup a _ => exact ⟨_, _, rfl, Same.sqN e1.h a⟩
      | own _ _ z _ => cases z
    obtain ⟨p, xs, rfl, hp⟩ := hN
    cases r1
    obtain ⟨its, _, pl, _⟩ := I1.tuple hp.sqT
    refine ⟨"tuple", idT, PySem.F.plainAttrs_tuple, sT, tT, pl.typeIs, fun a e => ?_, ?_⟩
    · cases e
      rcases hp with ⟨o, h, hd⟩ | ⟨o, _, _, h, _, hd, _⟩
      · exact ⟨o, (I1.hok _ _ h).1, hd⟩
      · exact ⟨o, I1.kIn _ o h, hd⟩
    · rw [hs] at hA ⊢
      refine Calls.callWith_builtin (by rfl) (Calls.evalArgs_plain ?_)
      exact thn hA fun us s2 ⟨vs, H2, I2, r2, w, k2, G2, ew, e2, hw⟩ => mT pins s2 σ H2 (.ref p) vs (.ref p) us Q I2 rfl r2 ⟨G2, k2, w, _, y, _, ew, e2.h, hv.ext e2, hw, h3, fun z rz => hq z k2 G2 H2 (e1.trans e2) rz⟩
/-! ### list(range(..)), tuple(range(..)) -/
theorem rgV_rep {K : Fg} {G : Hp} {c : Option Addr} {a b : Int} : RepL K G c (rgV a b) (rangeI a (b - a).toNat) := RepL.of_range _ a
theorem rangeI_len (n : Nat) : ∀ a : Int, (rangeI a n).length = n := by
  induction n with
  | zero => intro a; rfl
  | succ n ih => intro a; show (rangeI (a + 1) n).length + 1 = n + 1; rw [ih]
theorem b62_of {i : Int} (h : b62 i = true) : -(2 ^ 61) < i ∧ i < 2 ^ 61 := by
  unfold b62 at h
  rw [Bool.and_eq_true] at h
  exact ⟨of_decide_eq_true h.1, of_decide_eq_true h.2⟩
theorem rgOk_of {a b : Int} (ha : b62 a = true) (hb : b62 b = true) (hz : szOk (b - a).toNat = true) : RgOk a b := by
  obtain ⟨a1, a2⟩ := b62_of ha
  obtain ⟨b1, b2⟩ := b62_of hb
  have z := Nat.le_of_ble_eq_true hz
  exact ⟨by omega, by omega, by omega, by omega, by omega⟩
theorem pe_tupRgN {e : Expr} {te : L2.St → Hp → (Int → Int → Hp → Prop) → Prop} {p pos : Pos} (hc : X.calm = true) (hg : Gl X "tuple") (hm : X.mg "tuple" = none) (he : PRg X e te) (na : starEach [e] X.env = (false, eval e X.env) :: starEach [] X.env := by rfl) :
    PE X (.Call (.Name "tuple" p) [e] [] pos) (fun σ H Q => te σ H fun a b H1 => RgOk a b ∧ ∀ q o, o.dict = none → H1 q = none → Q (.ref q) (upd H1 q (.frz o (.tup (rgV a b))))) := by
  refine ⟨fun pins s σ H Q I h => ?_⟩
  refine PyProof.Rows.Call_ (ld_blt I hg hm PyProof.Rows.boot_tuple (PyProof.Rows.callWith_type1 (PyProof.Rows.args_cons (thn (he pins s σ H _ I h) fun x s1 ⟨r, a, b, t, u, v, H1, ex, hr, I1, ok, q⟩ => PyProof.Rows.args_nil ?_) na) na))
  subst ex
  obtain ⟨b1, b2, b3, b4, b5⟩ := ok
  refine call_tuple_range (n := (b - a).toNat) (I1.ok.hd hc) hr (small_one b1 b2 b3 b4) (PyProof.Rows.rangeSize_nat a b) b5 fun h' tk acc hk hi => ?_
  have z := laidT (t' := tk) (its := acc.toList) I1 hk (show (rgV a b).length ≤ sizeLine by rw [rgV_length, sizeLine_eq]; omega) (vals_rg hi)
  rw [show (ntO acc.toList) = { cls := .type "tuple", data := .seq acc } by simp [ntO]] at z
  exact ⟨.ref h'.objs.size, _, z, rfl, q _ _ rfl ((I1.kept (t' := tk) hk).hok.fresh (Nat.le_refl _))⟩
/-- the bounds that range(..) is given -/
def rgB : List D → Option (Int × Int)
  | [.int b] => some (0, b)
  | [.int a, .int b] => some (a, b)
  | _ => none
theorem prg_t1 {a : Expr} {ia : Ex} {p pos : Pos} (hg : Gl X "range") (hm : X.mg "range" = none) (ha : PE X a (TX X.K O C (pArg X.K) ia)) (na : starEach [a] X.env = (false, eval a X.env) :: starEach [] X.env := by rfl) :
    PRg X (.Call (.Name "range" p) [a] [] pos) (fun σ H Q => ∃ G c cup δ, Rel X.K O G H c cup σ δ ∧ ∃ ds i j cup', evE C (.cons ia .nil) δ cup = .ok (.tup ds) cup' ∧ rgB ds = some (i, j) ∧ ∀ c' G' H', Ext c G H c' cup' G' H' → Q i j H') := fun pins s σ H Q I ⟨G, c, cup, δ, R, ds, i, j, cup', he, hb, hq⟩ => by
  obtain ⟨d, c1, r, h1, h2, rfl⟩ := cons_ok he
  cases h2
  cases d <;> first | cases hb; done | skip
  cases hb
  exact prg_1 hg hm ha na pins s σ H Q I ⟨G, c, cup, δ, R, _, _, h1, fun v k1 G1 H1 e1 r1 => ⟨_, r1.int, hq k1 G1 H1 e1⟩⟩
theorem prg_t2 {a b : Expr} {ia ib : Ex} {p pos : Pos} (hg : Gl X "range") (hm : X.mg "range" = none) (ha : PE X a (TX X.K O C (pArg X.K) ia)) (hb : PE X b (TX X.K O C (pArg X.K) ib)) (na : starEach [a, b] X.env = (false, eval a X.env) :: starEach [b] X.env := by rfl)
    (nb : starEach [b] X.env = (false, eval b X.env) :: starEach [] X.env := by rfl) (hp : (backTo pos (starEach [b] X.env)).any (·.1) = false := by rfl) :
    PRg X (.Call (.Name "range" p) [a, b] [] pos) (fun σ H Q => ∃ G c cup δ, Rel X.K O G H c cup σ δ ∧ ∃ ds i j cup', evE C (.cons ia (.cons ib .nil)) δ cup = .ok (.tup ds) cup' ∧ rgB ds = some (i, j) ∧ ∀ c' G' H', Ext c G H c' cup' G' H' → Q i j H') := fun pins s σ H Q I ⟨G, c, cup, δ, R, ds, i, j, cup', he, hb', hq⟩ => by
  obtain ⟨d, c1, r, h1, h2, rfl⟩ := cons_ok he
  obtain ⟨d2, c2, r2, h3, h4, rfl⟩ := cons_ok h2
  cases h4
  cases d <;> cases d2 <;> first | cases hb'; done | skip
  cases hb'
  exact prg_2 hg hm ha hb na nb hp pins s σ H Q I ⟨G, c, cup, δ, R, _, _, h1, fun v k1 G1 H1 e1 r1 => ⟨G1, k1, _, δ, R.ext e1, _, _, h3, fun u k2 G2 H2 e2 r2 => ⟨_, _, r1.int, r2.int, hq k2 G2 H2 (e1.trans e2)⟩⟩⟩
theorem rangeD_of {ds l : List D} (h : rangeD ds = some l) (h3 : ∀ x y z, ds ≠ [x, y, z]) : ∃ i j, rgB ds = some (i, j) ∧ b62 i = true ∧ b62 j = true ∧ l = rangeI i (j - i).toNat := by
  match ds, h with
  | [.int b], h =>
    have e : (if b62 b then some (rangeI 0 b.toNat) else none) = some l := h
    split at e
    · rename_i hb
      cases e
      exact ⟨0, b, rfl, rfl, hb, by rw [Int.sub_zero]⟩
    · cases e
  | [.int a, .int b], h =>
    have e : (if b62 a && b62 b then some (rangeI a (b - a).toNat) else none) = some l := h
    split at e
    · rename_i hb
      rw [Bool.and_eq_true] at hb
      cases e
      exact ⟨a, b, rfl, hb.1, hb.2, rfl⟩
    · cases e
  | [.int a, .int b, .int c], h => exact absurd rfl (h3 _ _ _)
theorem listR_t {e : Expr} {f : B1} (hf : f = .listR ∨ f = .tupleR) (h3 : exLen il ≤ 2) (hl : isLs il = true) {δ : Env} {cup cup' : Cup} {d : D} (h : evE C (.b1 f (.tup il)) δ cup = .ok d cup') :
    ∃ ds i j, evE C il δ cup = .ok (.tup ds) cup' ∧ rgB ds = some (i, j) ∧ RgOk i j ∧ ((f = .listR ∧ d = .lst (rangeI i (j - i).toNat)) ∨ (f = .tupleR ∧ d = .tup (rangeI i (j - i).toNat))) := by
  obtain ⟨x, c1, h1, h2⟩ := bnd_ok h
  obtain ⟨y, c2, h4, h5⟩ := bnd_ok h1
  obtain ⟨l, rfl, h6⟩ := unT_ok h5
  cases h6
  obtain ⟨h7, rfl⟩ := lift_ok h2
  have hn : ∀ x y z, l ≠ [x, y, z] := fun x y z e => by
    have := ev_len hl h4
    rw [e] at this
    simp at this
    omega
  rcases hf with rfl | rfl
  · have e : (match rangeD l with | some ds => if szOk ds.length then some (D.lst ds) else none | none => none) = some d := h7
    cases q : rangeD l with
    | none => rw [q] at e; cases e
    | some m =>
      rw [q] at e
      obtain ⟨i, j, e1, e2, e3, rfl⟩ := rangeD_of q hn
      have e : (if szOk (rangeI i (j - i).toNat).length then some (D.lst (rangeI i (j - i).toNat)) else none) = some d := e
      split at e
      · rename_i hz
        cases e
        rw [rangeI_len] at hz
        exact ⟨l, i, j, h4, e1, rgOk_of e2 e3 hz, .inl ⟨rfl, rfl⟩⟩
      · cases e
  · have e : (match rangeD l with | some ds => if szOk ds.length then some (D.tup ds) else none | none => none) = some d := h7
    cases q : rangeD l with
    | none => rw [q] at e; cases e
    | some m =>
      rw [q] at e
      obtain ⟨i, j, e1, e2, e3, rfl⟩ := rangeD_of q hn
      have e : (if szOk (rangeI i (j - i).toNat).length then some (D.tup (rangeI i (j - i).toNat)) else none) = some d := e
      split at e
      · rename_i hz
        cases e
        rw [rangeI_len] at hz
        exact ⟨l, i, j, h4, e1, rgOk_of e2 e3 hz, .inr ⟨rfl, rfl⟩⟩
      · cases e
theorem sx_listR {p : Pos} (hc : X.calm = true) (hg : Gl X "list") (hm : X.mg "list" = none) (hr : PRg X e (fun σ H Q => ∃ G c cup δ, Rel X.K O G H c cup σ δ ∧ ∃ ds i j cup', evE C il δ cup = .ok (.tup ds) cup' ∧ rgB ds = some (i, j) ∧ ∀ c' G' H', Ext c G H c' cup' G' H' → Q i j H'))
    (h3 : exLen il ≤ 2 := by decide) (hl : isLs il = true := by rfl) (na : starEach [e] X.env = (false, eval e X.env) :: starEach [] X.env := by rfl) : PE X (.Call (.Name "list" p) [e] [] pos) (TX X.K O C (pNew X.K) (.b1 .listR (.tup il))) :=
  PEimp (pe_listRg hc hg hm hr na) fun σ H Q ⟨G, c, cup, δ, R, d, cup', he, hq⟩ => by
    obtain ⟨ds, i, j, h1, h2, ok, h4⟩ := listR_t (e := e) (.inl rfl) h3 hl he
    refine ⟨G, c, cup, δ, R, ds, i, j, cup', h1, h2, fun k1 G1 H1 e1 => ⟨ok, fun q hq' => ?_⟩⟩
    rcases h4 with ⟨_, rfl⟩ | ⟨z, _⟩
    · obtain ⟨G2, e2, n2⟩ := (PR.lst (K := X.K) (G := G1) (c := k1) hq' rgV_rep).new e1.h e1.cup
      exact hq _ _ G2 _ (e1.trans e2) (n2.back e1)
    · cases z
theorem sx_tupleR {p : Pos} (hc : X.calm = true) (hg : Gl X "tuple") (hm : X.mg "tuple" = none) (hr : PRg X e (fun σ H Q => ∃ G c cup δ, Rel X.K O G H c cup σ δ ∧ ∃ ds i j cup', evE C il δ cup = .ok (.tup ds) cup' ∧ rgB ds = some (i, j) ∧ ∀ c' G' H', Ext c G H c' cup' G' H' → Q i j H'))
    (h3 : exLen il ≤ 2 := by decide) (hl : isLs il = true := by rfl) (na : starEach [e] X.env = (false, eval e X.env) :: starEach [] X.env := by rfl) : PE X (.Call (.Name "tuple" p) [e] [] pos) (TX X.K O C (pNew X.K) (.b1 .tupleR (.tup il))) :=
  PEimp (pe_tupRgN hc hg hm hr na) fun σ H Q ⟨G, c, cup, δ, R, d, cup', he, hq⟩ => by
    obtain ⟨ds, i, j, h1, h2, ok, h4⟩ := listR_t (e := e) (.inr rfl) h3 hl he
    refine ⟨G, c, cup, δ, R, ds, i, j, cup', h1, h2, fun k1 G1 H1 e1 => ⟨ok, fun q o ho hq' => ?_⟩⟩
    rcases h4 with ⟨z, _⟩ | ⟨_, rfl⟩
    · cases z
    · obtain ⟨G2, e2, n2⟩ := (PR.tup (K := X.K) (G := G1) (c := k1) hq' ho rgV_rep).new e1.h e1.cup
      exact hq _ _ G2 _ (e1.trans e2) (n2.back e1)
end
end PF

namespace PF
open PySem PySem.Spec L2 PySem.W
/-! ### what a loop walks -/
theorem PIor {X : Cx} {tg e : Expr} {t t' : TI} (h : PI X tg e t) (h' : PI X tg e t') : PI X tg e (fun σ H R => t σ H R ∨ t' σ H R) := ⟨fun pins s σ H R I q => q.elim (h.run pins s σ H R I) (h'.run pins s σ H R I)⟩
theorem PIimp {X : Cx} {tg e : Expr} {t t' : TI} (h : PI X tg e t) (i : ∀ σ H Q, t' σ H Q → t σ H Q) : PI X tg e t' := ⟨fun pins s σ H Q I q => h.run pins s σ H Q I (i _ _ _ q)⟩
/-- a later state; sg: the lists of one's own are as they were -/
structure Fut (sg : Bool) (c1 : Option Addr) (G1 H1 : Hp) (c2 : Option Addr) (G2 H2 : Hp) : Prop where
  g : Same G1 G2
  h : Same G2 H2
  c : CLe c1 c2
  k : sg = true → ∀ b x, H1 b = some x → c1 ≠ some b → H2 b = some x
def isPair : Ex → Bool
  | .itE _ => true
  | .itZ _ _ => true
  | _ => false
def Yld (K : Fg) (pr : Bool) (c2 : Option Addr) (G2 H2 : Hp) (x : HV) (H3 : Hp) (d : D) : Prop :=
  (H3 = H2 ∧ Rep K G2 c2 x d) ∨ pr = true ∧ ∃ T a b da db, x = .ref T ∧ H2 T = none ∧ H3 = upd H2 T (.tup [a, b]) ∧ d = .tup [da, db] ∧ Rep K G2 c2 a da ∧ Rep K G2 c2 b db
structure JOk (K : Fg) (pr sg : Bool) (J : It) (c1 : Option Addr) (G1 H1 : Hp) (ds : List D) : Prop where
  go : ∀ i d c2 G2 H2, Fut sg c1 G1 H1 c2 G2 H2 → ds[i]? = some d → J.go i H2 ∧ ∀ x H3, J.yld i H2 x H3 → Yld K pr c2 G2 H2 x H3 d
  stop : ∀ i c2 G2 H2, Fut sg c1 G1 H1 c2 G2 H2 → ds.length ≤ i → J.stop i H2
def TIr (K : Fg) (O : List Nat) (C : Nat → List D → M D) (sg : Bool) (it : Ex) : TI := fun σ H R => ∃ G c cup δ, Rel K O G H c cup σ δ ∧ ∃ ds cup', evE C it δ cup = .ok (.lst ds) cup' ∧ ∀ J c' G' H', Ext c G H c' cup' G' H' → JOk K (isPair it) sg J c' G' H' ds → R J H'
/-- a list or a tuple (t), as it will be -/
def SF (K : Fg) (sg : Bool) (t : Bool) (c1 : Option Addr) (G1 H1 : Hp) (v : HV) (ds : List D) : Prop := ∃ a, v = .ref a ∧ ∀ c2 G2 H2, Fut sg c1 G1 H1 c2 G2 H2 → ∃ xs, SqB t K H2 a xs ∧ RepL K G2 c2 xs ds
theorem Fut.refl {sg : Bool} {c : Option Addr} {G H : Hp} (h : Same G H) : Fut sg c G H c G H := ⟨fun _ _ e => e, h, .inl rfl, fun _ _ _ e _ => e⟩
theorem Fut.later {sg : Bool} {c c1 c2 : Option Addr} {cup1 : Cup} {G H G1 H1 G2 H2 : Hp} (e : Ext c G H c1 cup1 G1 H1) (f : Fut sg c1 G1 H1 c2 G2 H2) : Fut sg c G H c2 G2 H2 :=
  ⟨fun b x q => f.g b x (e.g b x q), f.h, by
    rcases f.c with z | z
    · rw [z]; exact e.cle
    · rcases e.cle with y | y
      · exact .inr (y ▸ z)
      · exact .inr y, fun s b x q hc => f.k s b x (e.k b x q hc) fun z => by
    rcases e.m with m | ⟨m, n⟩
    · exact hc (m ▸ z)
    · have := n b z
      rw [q] at this; cases this⟩
def isT : D → Bool
  | .tup _ => true
  | _ => false
theorem sf_rep {K : Fg} {sg : Bool} {c : Option Addr} {G H : Hp} {v : HV} {d : D} {ds : List D} (h : Rep K G c v d) (q : seqD d = some ds) : SF K sg (isT d) c G H v ds := by
  cases d <;> cases q
  · cases h with
    | tup a r => exact ⟨_, rfl, fun c2 G2 H2 f => ⟨_, Same.sqT f.h (Same.sqT f.g a.sqT), (r.mono f.g).cle f.c⟩⟩
  · cases h with
    | lst a r => exact ⟨_, rfl, fun c2 G2 H2 f => ⟨_, SqL.of (f.h _ _ (f.g _ _ a)), (r.mono f.g).cle f.c⟩⟩
theorem sf_sh {K : Fg} {c : Option Addr} {G H : Hp} {v : HV} {d : D} {ds : List D} (h : Sh K G H c v d) (q : seqD d = some ds) : SF K true (isT d) c G H v ds := by
  cases h with
  | rep r => exact sf_rep r q
  | own a b r n =>
    cases r with
    | lst r =>
      cases q
      exact ⟨_, rfl, fun c2 G2 H2 f => ⟨_, SqL.of (f.k rfl _ _ b n), (r.mono f.g).cle f.c⟩⟩
    | dct _ _ => cases q
/-- what an iterator may be made of -/
def pSeq (sg : Bool) (K : Fg) : Pst := match sg with
  | true => pArg K
  | false => pVal K
theorem pSeq.sf {sg : Bool} {K : Fg} {c' : Option Addr} {H G' H' : Hp} {v : HV} {d : D} {ds : List D} (h : pSeq sg K H c' G' H' v d) (q : seqD d = some ds) : SF K sg (isT d) c' G' H' v ds := by
  cases sg with
  | true => exact sf_sh (show Sh K G' H' c' v d from h) q
  | false => exact sf_rep (show Rep K G' c' v d from h) q
theorem pSeq.sh {sg : Bool} {K : Fg} {c' : Option Addr} {H G' H' : Hp} {v : HV} {d : D} (h : pSeq sg K H c' G' H' v d) : Sh K G' H' c' v d := by
  cases sg with
  | true => exact h
  | false => exact .rep h
section
variable {X : Cx} {O : List Nat} {C : Nat → List D → M D} {a b e : Expr} {ia ib ie il : Ex} {es : List Expr} {pos : Pos} {tg : Expr} {sg : Bool}
theorem itV_of {sg : Bool} {δ : Env} {cup cup' : Cup} {ds : List D} (h : evE C (.itV ia) δ cup = .ok (.lst ds) cup') : ∃ d, evE C ia δ cup = .ok d cup' ∧ seqD d = some ds := by
  obtain ⟨x, c1, h1, h2⟩ := bnd_ok h
  obtain ⟨h3, rfl⟩ := lift_ok h2
  obtain ⟨l, h4, h5⟩ := map_some h3
  cases h5
  exact ⟨x, h1, h4⟩
theorem ti_V (ha : PE X a (TX X.K O C (pSeq sg X.K) ia)) : PI X tg a (TIr X.K O C sg (.itV ia)) :=
  PIimp (PIor (pi_list ha) (pi_tup ha)) fun σ H R ⟨G, c, cup, δ, Rl, ds, cup', he, hq⟩ => by
    obtain ⟨d, h1, h2⟩ := itV_of (sg := sg) he
    rcases seqD_of h2 with rfl | rfl
    · refine .inl ⟨G, c, cup, δ, Rl, _, cup', h1, fun v k1 G1 H1 e1 r1 => ?_⟩
      obtain ⟨p, rfl, hp⟩ := pSeq.sf r1 h2
      obtain ⟨xs, hx, _⟩ := hp k1 G1 H1 (Fut.refl e1.h)
      refine ⟨p, rfl, ⟨xs, hx⟩, hq _ k1 G1 H1 e1 ⟨fun i d c2 G2 H2 f hd => ?_, fun i c2 G2 H2 f hl => ?_⟩⟩
      · obtain ⟨ys, hy, ry⟩ := hp c2 G2 H2 f
        obtain ⟨y, e2, r2⟩ := ry.get hd
        refine ⟨⟨ys, y, hy, e2⟩, fun x H3 ⟨e3, h3⟩ => .inl ⟨e3, ?_⟩⟩
        have := h3 ys hy
        rw [e2] at this
        cases this
        exact r2
      · obtain ⟨ys, hy, ry⟩ := hp c2 G2 H2 f
        exact ⟨ys, hy, by rw [ry.length]; exact hl⟩
    · refine .inr ⟨G, c, cup, δ, Rl, _, cup', h1, fun v k1 G1 H1 e1 r1 => ?_⟩
      obtain ⟨p, rfl, hp⟩ := pSeq.sf r1 h2
      obtain ⟨xs, hx, _⟩ := hp k1 G1 H1 (Fut.refl e1.h)
      refine ⟨p, rfl, ⟨xs, hx⟩, hq _ k1 G1 H1 e1 ⟨fun i d c2 G2 H2 f hd => ?_, fun i c2 G2 H2 f hl => ?_⟩⟩
      · obtain ⟨ys, hy, ry⟩ := hp c2 G2 H2 f
        obtain ⟨y, e2, r2⟩ := ry.get hd
        refine ⟨⟨ys, y, hy, e2⟩, fun x H3 ⟨e3, h3⟩ => .inl ⟨e3, ?_⟩⟩
        have := h3 ys hy
        rw [e2] at this
        cases this
        exact r2
      · obtain ⟨ys, hy, ry⟩ := hp c2 G2 H2 f
        exact ⟨ys, hy, by rw [ry.length]; exact hl⟩
theorem enumD_len : ∀ (ds : List D) (i : Int), (enumD i ds).length = ds.length
  | [], _ => rfl
  | d :: r, i => by show (enumD (i + 1) r).length + 1 = r.length + 1; rw [enumD_len r]
theorem enumD_get : ∀ {ds : List D} {k : Int} {i : Nat} {d : D}, (enumD k ds)[i]? = some d → ∃ x, ds[i]? = some x ∧ d = .tup [.int (k + i), x]
  | d :: r, k, 0, e, h => by
    have h : some (D.tup [.int k, d]) = some e := h
    cases h
    exact ⟨d, rfl, by simp⟩
  | d :: r, k, i + 1, e, h => by
    obtain ⟨x, h1, h2⟩ := enumD_get (ds := r) (k := k + 1) (i := i) (d := e) h
    refine ⟨x, h1, ?_⟩
    rw [h2]
    congr 3
    rw [Int.natCast_add]
    omega
theorem zipD_len : ∀ (xs ys : List D), (zipD xs ys).length = min xs.length ys.length
  | [], _ => by simp [zipD]
  | _ :: _, [] => by simp [zipD]
  | x :: xs, y :: ys => by
    show (zipD xs ys).length + 1 = min (xs.length + 1) (ys.length + 1)
    rw [zipD_len xs ys]
    omega
theorem zipD_get : ∀ {xs ys : List D} {i : Nat} {d : D}, (zipD xs ys)[i]? = some d → ∃ x y, xs[i]? = some x ∧ ys[i]? = some y ∧ d = .tup [x, y]
  | x :: xs, y :: ys, 0, d, h => by
    have h : some (D.tup [x, y]) = some d := h
    cases h
    exact ⟨x, y, rfl, rfl, rfl⟩
  | x :: xs, y :: ys, i + 1, d, h => zipD_get (xs := xs) (ys := ys) (i := i) h
theorem ti_E {elts : List Expr} {kk : Nat} {p tpos : Pos} (hg : Gl X "enumerate") (hm : X.mg "enumerate" = none) (ha : PE X a (TX X.K O C (pSeq sg X.K) ia)) (hs : starEach [a] X.env = [(false, eval a X.env)] := by rfl) :
    PI X (.Tuple elts kk tpos) (.Call (.Name "enumerate" p) [a] [] pos) (TIr X.K O C sg (.itE ia)) :=
  PIimp (pi_E hg hm (pa_cons ha pa_nil hs) hs) fun σ H R ⟨G, c, cup, δ, Rl, es, cup', he, hq⟩ => by
    obtain ⟨d, c1, h1, h20⟩ := bnd_ok he
    obtain ⟨h2, h21⟩ := lift_ok h20
    subst h21
    obtain ⟨ds, h3, h4⟩ := map_some h2
    cases h4
    refine ⟨G, c, cup, δ, Rl, d, cup', h1, fun v k1 G1 H1 e1 r1 => ?_⟩
    obtain ⟨p, rfl, hp⟩ := pSeq.sf r1 h3
    obtain ⟨xs, hx, rx⟩ := hp k1 G1 H1 (Fut.refl e1.h)
    have hl := rx.length
    refine ⟨_, p, xs, rfl, hx, hq _ k1 G1 H1 e1 ⟨fun i d c2 G2 H2 f hd => ?_, fun i c2 G2 H2 f hi => ?_⟩⟩
    · obtain ⟨ys, hy, ry⟩ := hp c2 G2 H2 f
      obtain ⟨z, hz, rfl⟩ := enumD_get hd
      obtain ⟨y, e2, r2⟩ := ry.get hz
      refine ⟨⟨ys, y, hy, by rw [ry.length, hl], e2⟩, fun x H3 ⟨T, w, e3, h3, e4, h5⟩ => .inr ⟨rfl, T, .int (i : Nat), w, _, z, e3, h3, e4, rfl, ?_, ?_⟩⟩
      · rw [Int.zero_add]
        exact .int _
      · have := h5 ys hy
        rw [e2] at this
        cases this
        exact r2
    · obtain ⟨ys, hy, ry⟩ := hp c2 G2 H2 f
      rw [enumD_len] at hi
      exact ⟨ys, hy, by rw [ry.length, hl], by rw [hl]; exact hi⟩
theorem ti_Z {elts : List Expr} {kk : Nat} {p tpos : Pos} (hg : Gl X "zip") (hm : X.mg "zip" = none) (ha : PE X a (TX X.K O C (pSeq sg X.K) ia)) (hb : PE X b (TX X.K O C (pSeq sg X.K) ib))
    (hs : starEach [a, b] X.env = (false, eval a X.env) :: starEach [b] X.env := by rfl) (hs2 : starEach [b] X.env = (false, eval b X.env) :: starEach [] X.env := by rfl) (hpl : (backTo pos (starEach [b] X.env)).any (·.1) = false := by rfl) :
    PI X (.Tuple elts kk tpos) (.Call (.Name "zip" p) [a, b] [] pos) (TIr X.K O C sg (.itZ ia ib)) :=
  PIimp (pi_Z hg hm (pa_cons ha (pa_cons hb pa_nil hs2) hs) hs hpl) fun σ H R ⟨G, c, cup, δ, Rl, es, cup', he, hq⟩ => by
    obtain ⟨d, c1, h1, he2⟩ := bnd_ok he
    obtain ⟨d', c2, h2, he3⟩ := bnd_ok he2
    have hz : ∃ ds ds', seqD d = some ds ∧ seqD d' = some ds' ∧ es = zipD ds ds' ∧ c2 = cup' := by
      cases q : seqD d with
      | none => rw [q] at he3; cases he3
      | some ds =>
        cases q' : seqD d' with
        | none => rw [q, q'] at he3; cases he3
        | some ds' =>
          rw [q, q'] at he3
          cases he3
          exact ⟨ds, ds', rfl, rfl, rfl, rfl⟩
    obtain ⟨ds, ds', q1, q2, rfl, rfl⟩ := hz
    refine ⟨G, c, cup, δ, Rl, d, c1, h1, fun v k1 G1 H1 e1 r1 => ⟨G1, k1, c1, δ, Rl.ext e1, d', c2, h2, fun u k2 G2 H2 e2 r2 => ?_⟩⟩
    obtain ⟨p, rfl, hp⟩ := pSeq.sf r1 q1
    obtain ⟨p', rfl, hp'⟩ := pSeq.sf r2 q2
    obtain ⟨xs, hx, rx⟩ := hp k2 G2 H2 ((Fut.refl e2.h).later e2)
    obtain ⟨ys, hy, ry⟩ := hp' k2 G2 H2 (Fut.refl e2.h)
    have l1 := rx.length
    have l2 := ry.length
    refine ⟨_, _, p, p', xs, ys, rfl, hx, hy, hq _ k2 G2 H2 (e1.trans e2) ⟨fun i d c3 G3 H3 f hd => ?_, fun i c3 G3 H3 f hi => ?_⟩⟩
    · obtain ⟨xs', hx', rx'⟩ := hp c3 G3 H3 (f.later e2)
      obtain ⟨ys', hy', ry'⟩ := hp' c3 G3 H3 f
      obtain ⟨z, z', hz, hz', rfl⟩ := zipD_get hd
      obtain ⟨y, g1, g2⟩ := rx'.get hz
      obtain ⟨y', g1', g2'⟩ := ry'.get hz'
      refine ⟨⟨xs', ys', y, y', hx', hy', by rw [rx'.length, l1], by rw [ry'.length, l2], g1, g1'⟩, fun x H4 ⟨T, w, w', e3, h3, e4, h5, h6⟩ => .inr ⟨rfl, T, w, w', z, z', e3, h3, e4, rfl, ?_, ?_⟩⟩
      · have := h5 xs' hx'
        rw [g1] at this
        cases this
        exact g2
      · have := h6 ys' hy'
        rw [g1'] at this
        cases this
        exact g2'
    · obtain ⟨xs', hx', rx'⟩ := hp c3 G3 H3 (f.later e2)
      obtain ⟨ys', hy', ry'⟩ := hp' c3 G3 H3 f
      rw [zipD_len] at hi
      exact ⟨xs', ys', hx', hy', by rw [rx'.length, l1], by rw [ry'.length, l2], by rw [l1, l2]; omega⟩
/-! range -/
theorem rangeI_get : ∀ {n : Nat} {a : Int} {i : Nat} {d : D}, (rangeI a n)[i]? = some d → i < n ∧ d = .int (a + i)
  | n + 1, a, 0, d, h => by
    have h : some (D.int a) = some d := h
    cases h
    exact ⟨Nat.succ_pos _, by simp⟩
  | n + 1, a, i + 1, d, h => by
    obtain ⟨h1, h2⟩ := rangeI_get (n := n) (a := a + 1) (i := i) (d := d) h
    refine ⟨Nat.succ_lt_succ h1, ?_⟩
    rw [h2]
    congr 1
    rw [Int.natCast_add]
    omega
theorem rangeS_get : ∀ {n : Nat} {a c : Int} {i : Nat} {d : D}, (rangeS a c n)[i]? = some d → i < n ∧ d = .int (a + (i : Nat) * c)
  | n + 1, a, c, 0, d, h => by
    have h : some (D.int a) = some d := h
    cases h
    exact ⟨Nat.succ_pos _, by simp⟩
  | n + 1, a, c, i + 1, d, h => by
    obtain ⟨h1, h2⟩ := rangeS_get (n := n) (a := a + c) (c := c) (i := i) (d := d) h
    refine ⟨Nat.succ_lt_succ h1, ?_⟩
    rw [h2]
    congr 1
    rw [Int.natCast_add, Int.add_mul]
    omega
theorem rangeS_len (n : Nat) : ∀ a c : Int, (rangeS a c n).length = n := by
  induction n with
  | zero => intro a c; rfl
  | succ n ih => intro a c; show (rangeS (a + c) c n).length + 1 = n + 1; rw [ih]
theorem jok_range {K : Fg} {pr : Bool} {c1 : Option Addr} {G1 H1 : Hp} {a : Int} {n : Nat} : JOk K pr sg (Itr a n) c1 G1 H1 (rangeI a n) :=
  ⟨fun i d c2 G2 H2 f hd => let ⟨h1, h2⟩ := rangeI_get hd; ⟨h1, fun x H3 ⟨e1, e2⟩ => .inl ⟨e1, by rw [e2, h2]; exact .int _⟩⟩, fun i c2 G2 H2 f hl => by rw [rangeI_len] at hl; exact hl⟩
theorem jok_rangeC {K : Fg} {pr : Bool} {c1 : Option Addr} {G1 H1 : Hp} {a c : Int} {n : Nat} : JOk K pr sg (Itc a c n) c1 G1 H1 (rangeS a c n) :=
  ⟨fun i d c2 G2 H2 f hd => let ⟨h1, h2⟩ := rangeS_get hd; ⟨h1, fun x H3 ⟨e1, e2⟩ => .inl ⟨e1, by rw [e2, h2]; exact .int _⟩⟩, fun i c2 G2 H2 f hl => by rw [rangeS_len] at hl; exact hl⟩
theorem itR_of {δ : Env} {cup cup' : Cup} {es : List D} (h : evE C (.itR il) δ cup = .ok (.lst es) cup') : ∃ ds, evE C il δ cup = .ok (.tup ds) cup' ∧ rangeD ds = some es := by
  obtain ⟨x, c1, h1, h2⟩ := bnd_ok h
  obtain ⟨l, rfl, h3⟩ := unT_ok h2
  obtain ⟨h4, rfl⟩ := lift_ok h3
  obtain ⟨m, h5, h6⟩ := map_some h4
  cases h6
  exact ⟨l, h1, h5⟩
theorem ti_R1 {p : Pos} (hg : Gl X "range") (hm : X.mg "range" = none) (ha : PE X a (TX X.K O C (pArg X.K) ia)) (hs : starEach [a] X.env = [(false, eval a X.env)] := by rfl) : PI X tg (.Call (.Name "range" p) [a] [] pos) (TIr X.K O C sg (.itR (.cons ia .nil))) :=
  PIimp (pi_range1 hg hm (pa_cons ha pa_nil hs) hs) fun σ H R ⟨G, c, cup, δ, Rl, es, cup', he, hq⟩ => by
    obtain ⟨ds, h1, h2⟩ := itR_of he
    obtain ⟨d, c1, r, h3, h4, rfl⟩ := cons_ok h1
    cases h4
    obtain ⟨i, j, e1, e2, e3, rfl⟩ := rangeD_of h2 (fun x y z e => by cases e)
    cases d <;> first | cases e1; done | skip
    cases e1
    obtain ⟨b1, b2⟩ := b62_of e3
    refine ⟨G, c, cup, δ, Rl, _, _, h3, fun v k1 G1 H1 x1 r1 => ⟨j, congrArg (fun t => [t]) r1.int, by omega, by omega, ?_⟩⟩
    have z := jok_range (pr := false) (sg := sg) (K := X.K) (c1 := k1) (G1 := G1) (H1 := H1) (a := 0) (n := (j - 0).toNat)
    have y := hq _ k1 G1 H1 x1 z
    rw [Int.sub_zero] at y
    exact y
theorem ti_R2 {p : Pos} (hg : Gl X "range") (hm : X.mg "range" = none) (ha : PE X a (TX X.K O C (pArg X.K) ia)) (hb : PE X b (TX X.K O C (pArg X.K) ib)) (hs : starEach [a, b] X.env = [(false, eval a X.env), (false, eval b X.env)] := by rfl) (hs2 : starEach [b] X.env = [(false, eval b X.env)] := by rfl) :
    PI X tg (.Call (.Name "range" p) [a, b] [] pos) (TIr X.K O C sg (.itR (.cons ia (.cons ib .nil)))) :=
  PIimp (pi_range2 hg hm (pa_cons ha (pa_cons hb pa_nil hs2) (by rw [hs, hs2])) hs hs2) fun σ H R ⟨G, c, cup, δ, Rl, es, cup', he, hq⟩ => by
    obtain ⟨ds, h1, h2⟩ := itR_of he
    obtain ⟨d, c1, r, h3, h4, rfl⟩ := cons_ok h1
    obtain ⟨d', c2, r', h5, h6, rfl⟩ := cons_ok h4
    cases h6
    obtain ⟨i, j, e1, e2, e3, rfl⟩ := rangeD_of h2 (fun x y z e => by cases e)
    cases d <;> cases d' <;> first | cases e1; done | skip
    cases e1
    obtain ⟨b1, b2⟩ := b62_of e2
    obtain ⟨b3, b4⟩ := b62_of e3
    exact ⟨G, c, cup, δ, Rl, _, _, h3, fun v k1 G1 H1 x1 r1 => ⟨G1, k1, _, δ, Rl.ext x1, _, _, h5, fun u k2 G2 H2 x2 r2 => ⟨i, j, by rw [show v = V.int i from r1.int, show u = V.int j from r2.int], ⟨by omega, by omega, by omega, by omega⟩, hq _ k2 G2 H2 (x1.trans x2) jok_range⟩⟩⟩
theorem rgN_bd {i j c : Int} (hi : -(2 ^ 61) < i ∧ i < 2 ^ 61) (hj : -(2 ^ 61) < j ∧ j < 2 ^ 61) (hc : c ≠ 0) : 0 ≤ rgN i j c ∧ rgN i j c ≤ 2 ^ 62 := by
  unfold rgN
  by_cases h : c > 0
  · rw [if_pos h]
    by_cases h2 : i < j
    · rw [if_pos h2]
      have h3 : 0 ≤ (j - i - 1) / c := Int.ediv_nonneg (by omega) (by omega)
      have h4 : (j - i - 1) / c ≤ j - i - 1 := Int.ediv_le_self _ (by omega)
      omega
    · rw [if_neg h2]
      omega
  · rw [if_neg h]
    by_cases h2 : i > j
    · rw [if_pos h2]
      have h3 : 0 ≤ (i - j - 1) / (-c) := Int.ediv_nonneg (by omega) (by omega)
      have h4 : (i - j - 1) / (-c) ≤ i - j - 1 := Int.ediv_le_self _ (by omega)
      omega
    · rw [if_neg h2]
      omega
theorem rgN_eq (i j c : Int) : Builtin.Range.rangeSize i j c = rgN i j c := rfl
theorem small3 {i j c : Int} (hi : -(2 ^ 61) < i ∧ i < 2 ^ 61) (hj : -(2 ^ 61) < j ∧ j < 2 ^ 61) (hc : c ≠ 0) (h1 : -1000000 < c) (h2 : c < 1000000) : Builtin.Range.small i j c = true := by
  have hb := rgN_bd hi hj hc
  unfold Builtin.Range.small
  rw [rgN_eq]
  simp only [Builtin.Range.rangeFitsLong, Bool.and_eq_true, Bool.or_eq_true, decide_eq_true_eq, beq_iff_eq]
  refine ⟨⟨⟨⟨⟨?_, ?_⟩, ?_, ?_⟩, ?_, ?_⟩, ?_, ?_⟩, ?_⟩ <;> try omega
  right
  split <;> (simp only [Bool.and_eq_true, decide_eq_true_eq]; omega)
theorem rangeD3 {i j c : Int} {l : List D} (h : rangeD [.int i, .int j, .int c] = some l) : (-(2 ^ 61) < i ∧ i < 2 ^ 61) ∧ (-(2 ^ 61) < j ∧ j < 2 ^ 61) ∧ c ≠ 0 ∧ -1000000 < c ∧ c < 1000000 ∧ l = rangeS i c (rgN i j c).toNat := by
  have e : (if b62 i && (b62 j && (decide (-1000000 < c) && (decide (c < 1000000) && !decide (c = 0)))) then some (rangeS i c (rgN i j c).toNat) else none) = some l := h
  split at e
  · rename_i hb
    cases e
    simp only [Bool.and_eq_true, decide_eq_true_eq, Bool.not_eq_true', decide_eq_false_iff_not] at hb
    exact ⟨b62_of hb.1, b62_of hb.2.1, hb.2.2.2.2, hb.2.2.1, hb.2.2.2.1, rfl⟩
  · cases e
theorem rgC3 {i j c : Int} (hi : -(2 ^ 61) < i ∧ i < 2 ^ 61) (hj : -(2 ^ 61) < j ∧ j < 2 ^ 61) (hc : c ≠ 0) (h1 : -1000000 < c) (h2 : c < 1000000) : RgC i j c (rgN i j c).toNat :=
  ⟨hc, by omega, small3 hi hj hc h1 h2, by rw [rgN_eq, Int.toNat_of_nonneg (rgN_bd hi hj hc).1]⟩
theorem ti_R3 {c : Expr} {ic : Ex} {p : Pos} (hg : Gl X "range") (hm : X.mg "range" = none) (ha : PE X a (TX X.K O C (pArg X.K) ia)) (hb : PE X b (TX X.K O C (pArg X.K) ib)) (hc : PE X c (TX X.K O C (pArg X.K) ic))
    (hs : starEach [a, b, c] X.env = (false, eval a X.env) :: starEach [b, c] X.env := by rfl) (hs2 : starEach [b, c] X.env = (false, eval b X.env) :: starEach [c] X.env := by rfl) (hs3 : starEach [c] X.env = (false, eval c X.env) :: starEach [] X.env := by rfl) (hpl : (backTo pos (starEach [b, c] X.env)).any (·.1) = false := by rfl) :
    PI X tg (.Call (.Name "range" p) [a, b, c] [] pos) (TIr X.K O C sg (.itR (.cons ia (.cons ib (.cons ic .nil))))) :=
  PIimp (pi_range3 hg hm (pa_cons ha (pa_cons hb (pa_cons hc pa_nil hs3) hs2) hs) hs hpl) fun σ H R ⟨G, c, cup, δ, Rl, es, cup', he, hq⟩ => by
    obtain ⟨ds, h1, h2⟩ := itR_of he
    obtain ⟨d, c1, r, h3, h4, rfl⟩ := cons_ok h1
    obtain ⟨d', c2, r', h5, h6, rfl⟩ := cons_ok h4
    obtain ⟨d'', c3, r'', h7, h8, rfl⟩ := cons_ok h6
    cases h8
    cases d <;> cases d' <;> cases d'' <;> first | cases h2; done | skip
    rename_i i j k
    obtain ⟨b1, b2, b3, b4, b5, rfl⟩ := rangeD3 h2
    exact ⟨G, c, cup, δ, Rl, _, _, h3, fun v k1 G1 H1 x1 r1 => ⟨G1, k1, _, δ, Rl.ext x1, _, _, h5, fun u k2 G2 H2 x2 r2 => ⟨G2, k2, _, δ, (Rl.ext x1).ext x2, _, _, h7, fun w k3 G3 H3 x3 r3 => ⟨i, j, k, _, by rw [show v = V.int i from r1.int, show u = V.int j from r2.int, show w = V.int k from r3.int], rgC3 b1 b2 b3 b4 b5, hq _ k3 G3 H3 ((x1.trans x2).trans x3) jok_rangeC⟩⟩⟩⟩
theorem of_rangeS {K : Fg} {G : Hp} {cc : Option Addr} (c : Int) : ∀ (n : Nat) (a : Int), RepL K G cc ((List.range n).map fun k : Nat => V.int (a + (k : Int) * c)) (rangeS a c n)
  | 0, _ => .nil
  | n + 1, a => by
    rw [List.range_succ_eq_map, List.map_cons, List.map_map]
    have e : (List.range n).map ((fun k : Nat => V.int (a + (k : Int) * c)) ∘ Nat.succ) = (List.range n).map fun k : Nat => V.int ((a + c) + (k : Int) * c) := by
      refine List.map_congr_left fun k _ => ?_
      show V.int (a + ((k + 1 : Nat) : Int) * c) = V.int (a + c + (k : Int) * c)
      congr 1
      rw [Int.natCast_add, Int.add_mul]
      omega
    rw [e]
    refine .cons ?_ (of_rangeS c n (a + c))
    have e0 : a + ((0 : Nat) : Int) * c = a := by simp
    rw [e0]
    exact .int a
/-- range(a, b, c) as an argument: its three ints, small -/
theorem prg_t3 {c : Expr} {ic : Ex} {p : Pos} (hg : Gl X "range") (hm : X.mg "range" = none) (ha : PE X a (TX X.K O C (pArg X.K) ia)) (hb : PE X b (TX X.K O C (pArg X.K) ib)) (hc : PE X c (TX X.K O C (pArg X.K) ic))
    (hs : starEach [a, b, c] X.env = (false, eval a X.env) :: starEach [b, c] X.env := by rfl) (hs2 : starEach [b, c] X.env = (false, eval b X.env) :: starEach [c] X.env := by rfl) (hs3 : starEach [c] X.env = (false, eval c X.env) :: starEach [] X.env := by rfl) (hpl : (backTo pos (starEach [b, c] X.env)).any (·.1) = false := by rfl) :
    ∀ (pins : List (Addr × Obj)) (s : Shared) (σ : L2.St) (H : Hp) (Q : Int → Int → Int → Hp → Prop), L2.Inv X pins σ H s → (∃ G c cup δ, Rel X.K O G H c cup σ δ ∧ ∃ i j k cup', evE C (.cons ia (.cons ib (.cons ic .nil))) δ cup = .ok (.tup [.int i, .int j, .int k]) cup' ∧ k ≠ 0 ∧ k.natAbs < 1073741824 ∧ ∀ c' G' H', Ext c G H c' cup' G' H' → Q i j k H') →
      wpAny (model X.prog X.w) X.A (eval (.Call (.Name "range" p) [a, b, c] [] pos) X.env) (fun x s' => ∃ r i j k t u v H', x = .ref r ∧ IsRange s'.heap r i j k t u v ∧ L2.Inv X pins σ H' s' ∧ Q i j k H') X.xe s := fun pins s σ H Q I ⟨G, c, cup, δ, Rl, i, j, k, cup', he, hk, hk2, hq⟩ => by
  obtain ⟨d, c1, r, h3, h4, e1⟩ := cons_ok he
  obtain ⟨d', c2, r', h5, h6, e2⟩ := cons_ok h4
  obtain ⟨d'', c3, r'', h7, h8, e3⟩ := cons_ok h6
  cases h8
  subst e3 e2
  cases e1
  refine PyProof.Rows.Call_ (ld_blt I hg hm PyProof.Rows.boot_range (PyProof.Rows.callWith_type1 (thn ((pa_cons ha (pa_cons hb (pa_cons hc pa_nil hs3) hs2) hs).run pos pins s σ H (fun vs H' => vs = [V.int i, V.int j, V.int k] ∧ Q i j k H') I ⟨G, c, cup, δ, Rl, _, _, h3, fun v k1 G1 H1 x1 r1 => ⟨G1, k1, _, δ, Rl.ext x1, _, _, h5, fun u k2 G2 H2 x2 r2 => ⟨G2, k2, _, δ, (Rl.ext x1).ext x2, _, _, h7, fun w k3 G3 H3 x3 r3 =>
    ⟨by rw [show v = V.int i from r1.int, show u = V.int j from r2.int, show w = V.int k from r3.int], hq k3 G3 H3 ((x1.trans x2).trans x3)⟩⟩⟩⟩) fun us s1 ⟨vs, H1, I1, r1, e, q⟩ => ?_) hs hpl))
  subst e
  cases r1 with
  | cons r rr =>
    cases rr with
    | cons r' rr =>
      cases rr with
      | cons r'' rr =>
        cases rr
        obtain ⟨t, rfl⟩ := r
        obtain ⟨t', rfl⟩ := r'
        obtain ⟨t'', rfl⟩ := r''
        exact call_range_3 hk ⟨_, i, j, k, _, _, _, H1, rfl, IsRange.new .., I1.kept (t' := s1.toks) fun b o e => Heap.get?_push_of_some _ e, q⟩ (.inl (PyProof.noPylong_small hk2))
theorem vals_rgS {a b c : Int} {n : Nat} {acc : Array Value} (h : ItemsOf (fun i v => ∃ t, v = .int (a + i * c) t) acc n) : Vals ((List.range n).map fun k : Nat => V.int (a + (k : Int) * c)) acc.toList := by
  have e : acc.toList.length = n := by rw [Array.length_toList]; exact h.1
  rw [← e]
  refine vals_of_get acc.toList _ fun j u hj => ?_
  obtain ⟨t, rfl⟩ := h.2 j u (by rw [← hj, Array.getElem?_toList])
  exact ⟨t, rfl⟩
theorem listR3_t {il : Ex} {f : B1} (hf : f = .listR ∨ f = .tupleR) (h3 : exLen il = 3) (hl : isLs il = true) {δ : Env} {cup cup' : Cup} {d : D} (h : evE C (.b1 f (.tup il)) δ cup = .ok d cup') :
    ∃ i j k, evE C il δ cup = .ok (.tup [.int i, .int j, .int k]) cup' ∧ (-(2 ^ 61) < i ∧ i < 2 ^ 61) ∧ (-(2 ^ 61) < j ∧ j < 2 ^ 61) ∧ k ≠ 0 ∧ -1000000 < k ∧ k < 1000000 ∧ szOk (rgN i j k).toNat = true ∧ ((f = .listR ∧ d = .lst (rangeS i k (rgN i j k).toNat)) ∨ (f = .tupleR ∧ d = .tup (rangeS i k (rgN i j k).toNat))) := by
  obtain ⟨x, c1, h1, h2⟩ := bnd_ok h
  obtain ⟨y, c2, h4, h5⟩ := bnd_ok h1
  obtain ⟨l, rfl, h6⟩ := unT_ok h5
  cases h6
  obtain ⟨h7, rfl⟩ := lift_ok h2
  have hlen := ev_len hl h4
  rw [h3] at hlen
  match l, hlen with
  | [x, y, z], _ =>
    have key : ∀ {m : List D}, rangeD [x, y, z] = some m → ∃ i j k, x = .int i ∧ y = .int j ∧ z = .int k := fun {m} q => by
      cases x <;> cases y <;> cases z <;> first | cases q; done | exact ⟨_, _, _, rfl, rfl, rfl⟩
    have e : ∃ m, rangeD [x, y, z] = some m ∧ szOk m.length = true ∧ ((f = .listR ∧ d = .lst m) ∨ (f = .tupleR ∧ d = .tup m)) := by
      rcases hf with rfl | rfl
      · have e : (match rangeD [x, y, z] with | some ds => if szOk ds.length then some (D.lst ds) else none | none => none) = some d := h7
        cases q : rangeD [x, y, z] with
        | none => rw [q] at e; cases e
        | some m =>
          rw [q] at e
          have e : (if szOk m.length then some (D.lst m) else none) = some d := e
          split at e
          · rename_i hz
            cases e
            exact ⟨m, rfl, hz, .inl ⟨rfl, rfl⟩⟩
          · cases e
      · have e : (match rangeD [x, y, z] with | some ds => if szOk ds.length then some (D.tup ds) else none | none => none) = some d := h7
        cases q : rangeD [x, y, z] with
        | none => rw [q] at e; cases e
        | some m =>
          rw [q] at e
          have e : (if szOk m.length then some (D.tup m) else none) = some d := e
          split at e
          · rename_i hz
            cases e
            exact ⟨m, rfl, hz, .inr ⟨rfl, rfl⟩⟩
          · cases e
    obtain ⟨m, q, hz, hd⟩ := e
    obtain ⟨i, j, k, rfl, rfl, rfl⟩ := key q
    obtain ⟨b1, b2, b3, b4, b5, rfl⟩ := rangeD3 q
    rw [rangeS_len] at hz
    exact ⟨i, j, k, h4, b1, b2, b3, b4, b5, hz, hd⟩
theorem sx_listR3 {c : Expr} {ic : Ex} {p p2 pos2 : Pos} (hh : X.calm = true) (hgl : Gl X "list") (hml : X.mg "list" = none) (hg : Gl X "range") (hm : X.mg "range" = none) (ha : PE X a (TX X.K O C (pArg X.K) ia)) (hb : PE X b (TX X.K O C (pArg X.K) ib)) (hc : PE X c (TX X.K O C (pArg X.K) ic))
    (na : starEach [.Call (.Name "range" p2) [a, b, c] [] pos2] X.env = (false, eval (.Call (.Name "range" p2) [a, b, c] [] pos2) X.env) :: starEach [] X.env := by rfl)
    (hs : starEach [a, b, c] X.env = (false, eval a X.env) :: starEach [b, c] X.env := by rfl) (hs2 : starEach [b, c] X.env = (false, eval b X.env) :: starEach [c] X.env := by rfl) (hs3 : starEach [c] X.env = (false, eval c X.env) :: starEach [] X.env := by rfl) (hpl : (backTo pos2 (starEach [b, c] X.env)).any (·.1) = false := by rfl) :
    PE X (.Call (.Name "list" p) [.Call (.Name "range" p2) [a, b, c] [] pos2] [] pos) (TX X.K O C (pNew X.K) (.b1 .listR (.tup (.cons ia (.cons ib (.cons ic .nil)))))) := by
  refine ⟨fun pins s σ H Q I ⟨G, cu, cup, δ, R, d, cup', he, hq⟩ => ?_⟩
  obtain ⟨i, j, k, h1, b1, b2, b3, b4, b5, hz, hd⟩ := listR3_t (.inl rfl) rfl rfl he
  refine PyProof.Rows.Call_ (ld_blt I hgl hml PyProof.Rows.boot_list (PyProof.Rows.callWith_type1 (PyProof.Rows.args_cons (thn (prg_t3 hg hm ha hb hc hs hs2 hs3 hpl pins s σ H (fun i' j' k' H1 => i' = i ∧ j' = j ∧ k' = k ∧ ∃ k1 G1, Ext cu G H k1 cup' G1 H1) I ⟨G, cu, cup, δ, R, i, j, k, cup', h1, b3, by omega, fun k1 G1 H1 e1 => ⟨rfl, rfl, rfl, k1, G1, e1⟩⟩)
    fun x s1 ⟨r, i', j', k', t, u, v, H1, ex, hr, I1, e1, e2, e3, k1, G1, x1⟩ => PyProof.Rows.args_nil ?_) na) na))
  subst ex e1 e2 e3
  refine call_list_range (n := (rgN i' j' k').toNat) (I1.ok.hd hh) hr (small3 b1 b2 b3 b4 b5) (by rw [rgN_eq, Int.toNat_of_nonneg (rgN_bd b1 b2 b3).1]) (Nat.le_trans (Nat.le_of_ble_eq_true hz) (by decide)) fun h' tk acc c' hk e' hi => ?_
  have vv := vals_rgS (b := j') hi
  have hx := I1.hok.fresh (Nat.le_refl _)
  refine ⟨.ref s1.heap.objs.size, _, I1.laid (o := .lst ((List.range (rgN i' j' k').toNat).map fun m : Nat => V.int (i' + (m : Int) * k'))) hk (Nat.le_refl _) ⟨?_, acc.toList, c', vv, ?_⟩, rfl, ?_⟩
  · rw [List.length_map, List.length_range]
    exact sz_of hz
  · rw [Array.toArray_toList]; exact e'
  · rcases hd with ⟨_, rfl⟩ | ⟨z, _⟩
    · obtain ⟨G2, e2, n2⟩ := (PR.lst (K := X.K) (G := G1) (c := k1) hx (of_rangeS k' _ i')).new x1.h x1.cup
      exact hq _ _ G2 _ (x1.trans e2) (n2.back x1)
    · cases z
theorem sx_tupleR3 {c : Expr} {ic : Ex} {p p2 pos2 : Pos} (hh : X.calm = true) (hgl : Gl X "tuple") (hml : X.mg "tuple" = none) (hg : Gl X "range") (hm : X.mg "range" = none) (ha : PE X a (TX X.K O C (pArg X.K) ia)) (hb : PE X b (TX X.K O C (pArg X.K) ib)) (hc : PE X c (TX X.K O C (pArg X.K) ic))
    (na : starEach [.Call (.Name "range" p2) [a, b, c] [] pos2] X.env = (false, eval (.Call (.Name "range" p2) [a, b, c] [] pos2) X.env) :: starEach [] X.env := by rfl)
    (hs : starEach [a, b, c] X.env = (false, eval a X.env) :: starEach [b, c] X.env := by rfl) (hs2 : starEach [b, c] X.env = (false, eval b X.env) :: starEach [c] X.env := by rfl) (hs3 : starEach [c] X.env = (false, eval c X.env) :: starEach [] X.env := by rfl) (hpl : (backTo pos2 (starEach [b, c] X.env)).any (·.1) = false := by rfl) :
    PE X (.Call (.Name "tuple" p) [.Call (.Name "range" p2) [a, b, c] [] pos2] [] pos) (TX X.K O C (pNew X.K) (.b1 .tupleR (.tup (.cons ia (.cons ib (.cons ic .nil)))))) := by
  refine ⟨fun pins s σ H Q I ⟨G, cu, cup, δ, R, d, cup', he, hq⟩ => ?_⟩
  obtain ⟨i, j, k, h1, b1, b2, b3, b4, b5, hz, hd⟩ := listR3_t (.inr rfl) rfl rfl he
  refine PyProof.Rows.Call_ (ld_blt I hgl hml PyProof.Rows.boot_tuple (PyProof.Rows.callWith_type1 (PyProof.Rows.args_cons (thn (prg_t3 hg hm ha hb hc hs hs2 hs3 hpl pins s σ H (fun i' j' k' H1 => i' = i ∧ j' = j ∧ k' = k ∧ ∃ k1 G1, Ext cu G H k1 cup' G1 H1) I ⟨G, cu, cup, δ, R, i, j, k, cup', h1, b3, by omega, fun k1 G1 H1 e1 => ⟨rfl, rfl, rfl, k1, G1, e1⟩⟩)
    fun x s1 ⟨r, i', j', k', t, u, v, H1, ex, hr, I1, e1, e2, e3, k1, G1, x1⟩ => PyProof.Rows.args_nil ?_) na) na))
  subst ex e1 e2 e3
  refine call_tuple_range (n := (rgN i' j' k').toNat) (I1.ok.hd hh) hr (small3 b1 b2 b3 b4 b5) (by rw [rgN_eq, Int.toNat_of_nonneg (rgN_bd b1 b2 b3).1]) (Nat.le_trans (Nat.le_of_ble_eq_true hz) (by decide)) fun h' tk acc hk hi => ?_
  have vv := vals_rgS (b := j') hi
  have z := laidT (t' := tk) (its := acc.toList) I1 hk (show ((List.range (rgN i' j' k').toNat).map fun m : Nat => V.int (i' + (m : Int) * k')).length ≤ sizeLine by rw [List.length_map, List.length_range]; exact sz_of hz) vv
  rw [show (ntO acc.toList) = { cls := .type "tuple", data := .seq acc } by simp [ntO]] at z
  refine ⟨.ref h'.objs.size, _, z, rfl, ?_⟩
  have hx := (I1.kept (t' := tk) hk).hok.fresh (Nat.le_refl _)
  rcases hd with ⟨z, _⟩ | ⟨_, rfl⟩
  · cases z
  · obtain ⟨G2, e2, n2⟩ := (PR.tup (K := X.K) (G := G1) (c := k1) (o := ntO acc.toList) hx rfl (of_rangeS k' _ i')).new x1.h x1.cup
    exact hq _ _ G2 _ (x1.trans e2) (n2.back x1)
end
end PF

namespace PF
open PySem PySem.Spec L2 PySem.W
theorem CupOk.updH {c : Option Addr} {cup : Cup} {G H : Hp} {p : Addr} {o : HO} (k : CupOk c cup G H) (h : c ≠ some p) : CupOk c cup G (L2.upd H p o) := by
  cases c with
  | none =>
    cases cup with
    | none => trivial
    | some _ => exact k
  | some a =>
    obtain ⟨q, e, g, z⟩ := k.at
    subst e
    exact ⟨g, by rw [upd_ne (fun e : a = p => h (by rw [e]))]; exact z⟩
/-! ### targets -/
def tgS : Tg → List Nat
  | .one i => [i]
  | .two i j => [i, j]
  | .three i j k => [i, j, k]
  | .many is => is
def gNs : List Nat → TGs
  | [] => gNil
  | i :: r => gCons (gName i) (gNs r)
def gT (K : Fg) : Tg → TG
  | .one i => gName i
  | .two i j => gTup K 2 (gCons (gName i) (gCons (gName j) gNil))
  | .three i j k => gTup K 3 (gCons (gName i) (gCons (gName j) (gCons (gName k) gNil)))
  | .many is => gTup K is.length (gNs is)
def isTwo : Tg → Bool
  | .two _ _ => true
  | _ => false
theorem get_set_ne {α : Type} {l : List α} {i j : Nat} {a : α} (h : j ≠ i) : (l.set i a)[j]? = l[j]? := List.getElem?_set_ne (Ne.symm h)
/-- a plain value put into a slot that is not one's own -/
theorem Rel.put {K : Fg} {O : List Nat} {G H : Hp} {c : Option Addr} {cup : Cup} {σ : L2.St} {δ : Env} (R : Rel K O G H c cup σ δ) {i : Nat} {v : HV} {d : D} (hi : i ∉ O) (r : Rep K G c v d) : Rel K O G H c cup (σ.set i (some v)) (δ.set i (some d)) := by
  refine ⟨R.same, R.cup, fun j e h => ?_, by rw [List.length_set, List.length_set, R.len], fun j k p hj hk ne h1 h2 h3 => ?_⟩
  · by_cases hj : j = i
    · subst hj
      have hl : j < δ.length := by
        have := (List.getElem?_eq_some_iff.mp h).1
        rw [List.length_set] at this
        exact this
      rw [List.getElem?_set_self hl] at h
      cases h
      exact ⟨v, List.getElem?_set_self (by rw [R.len]; exact hl), fun z => absurd z hi, fun _ => r⟩
    · rw [get_set_ne hj] at h
      obtain ⟨u, a, b⟩ := R.slot j e h
      exact ⟨u, by rw [get_set_ne hj]; exact a, b⟩
  · have nj : j ≠ i := fun z => hi (z ▸ hj)
    have nk : k ≠ i := fun z => hi (z ▸ hk)
    rw [get_set_ne nj] at h1 h3
    rw [get_set_ne nk] at h2 ⊢
    exact R.apart j k p hj hk ne h1 h2 h3
/-- .. where some slots of σ are forgotten -/
structure RelW (K : Fg) (O : List Nat) (ws : List Nat) (G H : Hp) (c : Option Addr) (cup : Cup) (σ : L2.St) (δ : Env) : Prop where
  ex : ∃ σ0, Rel K O G H c cup σ0 δ ∧ σ.length = σ0.length ∧ ∀ i, i ∉ ws → σ[i]? = σ0[i]?
theorem RelW.put {K : Fg} {O : List Nat} {ws : List Nat} {G H : Hp} {c : Option Addr} {cup : Cup} {σ : L2.St} {δ : Env} {i : Nat} (R : RelW K O (i :: ws) G H c cup σ δ) {v : HV} {d : D} (hi : i ∉ O) (r : Rep K G c v d) : RelW K O ws G H c cup (σ.set i (some v)) (δ.set i (some d)) := by
  obtain ⟨σ0, h1, h2, h3⟩ := R.ex
  refine ⟨σ0.set i (some v), h1.put hi r, by rw [List.length_set, List.length_set, h2], fun j hj => ?_⟩
  by_cases e : j = i
  · subst e
    by_cases hl : j < σ.length
    · rw [List.getElem?_set_self hl, List.getElem?_set_self (by rw [← h2]; exact hl)]
    · rw [List.getElem?_eq_none (by rw [List.length_set]; omega), List.getElem?_eq_none (by rw [List.length_set, ← h2]; omega)]
  · rw [get_set_ne e, get_set_ne e]
    exact h3 j fun z => (List.mem_cons.mp z).elim e hj
theorem RelW.full {K : Fg} {O : List Nat} {G H : Hp} {c : Option Addr} {cup : Cup} {σ : L2.St} {δ : Env} (R : RelW K O [] G H c cup σ δ) : Rel K O G H c cup σ δ := by
  obtain ⟨σ0, h1, h2, h3⟩ := R.ex
  have : σ = σ0 := List.ext_getElem? fun i => h3 i (by simp)
  rw [this]
  exact h1
theorem RelW.ext {K : Fg} {O : List Nat} {ws : List Nat} {c c' : Option Addr} {G H G' H' : Hp} {cup cup' : Cup} {σ : L2.St} {δ : Env} (R : RelW K O ws G H c cup σ δ) (e : Ext c G H c' cup' G' H') : RelW K O ws G' H' c' cup' σ δ :=
  let ⟨σ0, h1, h2, h3⟩ := R.ex
  ⟨σ0, h1.ext e, h2, h3⟩
theorem many_put {K : Fg} {O : List Nat} {c : Option Addr} {cup : Cup} {G H : Hp} : ∀ {is : List Nat} {xs : List HV} {ds : List D} {σ : L2.St} {δ δ' : Env} {Q : L2.St → Hp → Prop}, RelW K O is G H c cup σ δ → RepL K G c xs ds → (∀ i ∈ is, i ∉ O) → setAll is ds δ = some δ' →
    (∀ σ', Rel K O G H c cup σ' δ' → σ'.length = σ.length → (∀ i, i ∉ is → σ'[i]? = σ[i]?) → Q σ' H) → xs.length = is.length ∧ gNs is xs σ H Q
  | [], xs, ds, σ, δ, δ', Q, R, r, hO, hs, hQ => by
    cases ds with
    | nil =>
      cases r
      cases hs
      exact ⟨rfl, rfl, hQ _ R.full rfl fun _ _ => rfl⟩
    | cons _ _ => cases hs
  | i :: is, xs, ds, σ, δ, δ', Q, R, r, hO, hs, hQ => by
    cases ds with
    | nil => cases hs
    | cons d ds =>
      cases r with
      | cons h r =>
        have hs : setAll is ds (δ.set i (some d)) = some δ' := hs
        obtain ⟨h1, h2⟩ := many_put (is := is) (R.put (hO i (by simp)) h) r (fun j hj => hO j (List.mem_cons_of_mem _ hj)) hs fun σ' R' hl hk => hQ σ' R' (by rw [hl, List.length_set]) fun j hj => by
          rw [hk j fun z => hj (List.mem_cons_of_mem _ z)]
          exact get_set_ne fun z => hj (by simp [z])
        exact ⟨congrArg Nat.succ h1, _, _, rfl, h2⟩
theorem setAll_keep {j : Nat} {δ' : Env} : ∀ (is : List Nat) (es : List D) (δ : Env), j ∉ is → setAll is es δ = some δ' → δ'[j]? = δ[j]?
  | [], [], _, _, h => by cases h; rfl
  | [], _ :: _, _, _, h => by cases h
  | _ :: _, [], _, _, h => by cases h
  | i :: is, e :: es, δ, hj, h => by
    rw [setAll_keep is es _ (fun z => hj (List.mem_cons_of_mem _ z)) h]
    exact get_set_ne fun z => hj (by simp [z])
/-- a target takes what comes -/
theorem tgt {K : Fg} {O : List Nat} {pr : Bool} {c : Option Addr} {cup : Cup} {G H H3 : Hp} {σ : L2.St} {δ δ' : Env} {t : Tg} {x : HV} {d : D} {Q : L2.St → Hp → Prop} (R : RelW K O (tgS t) G H c cup σ δ) (y : Yld K pr c G H x H3 d) (hp : pr = true → isTwo t = true) (hO : ∀ i ∈ tgS t, i ∉ O)
    (hs : setT t d δ = some δ') (hQ : ∀ σ', Rel K O G H3 c cup σ' δ' → σ'.length = σ.length → (∀ i, i ∉ tgS t → σ'[i]? = σ[i]?) → Ext c G H c cup G H3 → Q σ' H3) : gT K t x σ H3 Q := by
  have hrel : Same G H ∧ CupOk c cup G H := let ⟨_, h1, _⟩ := R.ex; ⟨h1.same, h1.cup⟩
  cases t with
  | one i =>
    rcases y with ⟨rfl, r⟩ | ⟨e, _⟩
    · cases hs
      exact hQ _ (RelW.put R (hO i (by simp [tgS])) r).full (by rw [List.length_set]) (fun j hj => get_set_ne fun z => hj (by simp [tgS, z])) (Ext.refl hrel.1 hrel.2)
    · cases hp e
  | two i j =>
    have hi := hO i (by simp [tgS])
    have hj := hO j (by simp [tgS])
    have fin : ∀ {a b : HV} {da db : D} {T : Addr}, Ext c G H c cup G H3 → SqT K H3 T [a, b] → x = .ref T → d = .tup [da, db] → Rep K G c a da → Rep K G c b db → gT K (.two i j) x σ H3 Q := fun {a b da db T} e hT ex ed ra rb => by
      subst ex ed
      have hs : some ((δ.set i (some da)).set j (some db)) = some δ' := hs
      cases hs
      refine ⟨T, [a, b], rfl, hT, rfl, a, [b], rfl, b, [], rfl, rfl, ?_⟩
      refine hQ _ (((R.ext e).put hi ra).put hj rb).full (by rw [List.length_set, List.length_set]) (fun k hk => ?_) e
      have hk1 : k ≠ i := fun z => hk (by simp [tgS, z])
      have hk2 : k ≠ j := fun z => hk (by simp [tgS, z])
      rw [get_set_ne hk2, get_set_ne hk1]
    rcases y with ⟨rfl, r⟩ | ⟨e, T, a, b, da, db, rfl, hT, rfl, ed, ra, rb⟩
    · cases d <;> first | cases hs; done | skip
      rename_i ds
      match ds, hs, r with
      | [da, db], hs, r =>
        cases r with
        | tup hT rr =>
          cases rr with
          | cons ra rr =>
            cases rr with
            | cons rb rr =>
              cases rr
              exact fin (Ext.refl hrel.1 hrel.2) (Same.sqT hrel.1 hT.sqT) rfl rfl ra rb
      | [], hs, _ => cases hs
      | [_], hs, _ => cases hs
      | _ :: _ :: _ :: _, hs, _ => cases hs
    · exact fin (Ext.mine hrel.1 hrel.2 hT) (SqT.of upd_same) rfl ed ra rb
  | three i j k =>
    have hi := hO i (by simp [tgS])
    have hj := hO j (by simp [tgS])
    have hk := hO k (by simp [tgS])
    rcases y with ⟨rfl, r⟩ | ⟨e, _⟩
    · cases d <;> first | cases hs; done | skip
      rename_i ds
      match ds, hs, r with
      | [da, db, dc], hs, r =>
        cases r with
        | tup hT rr =>
          cases rr with
          | cons ra rr =>
            cases rr with
            | cons rb rr =>
              cases rr with
              | cons rc rr =>
                cases rr
                cases hs
                refine ⟨_, _, rfl, Same.sqT hrel.1 hT.sqT, rfl, _, _, rfl, _, _, rfl, _, _, rfl, rfl, ?_⟩
                refine hQ _ (((R.put hi ra).put hj rb).put hk rc).full (by rw [List.length_set, List.length_set, List.length_set]) (fun l hl => ?_) (Ext.refl hrel.1 hrel.2)
                have hl1 : l ≠ i := fun z => hl (by simp [tgS, z])
                have hl2 : l ≠ j := fun z => hl (by simp [tgS, z])
                have hl3 : l ≠ k := fun z => hl (by simp [tgS, z])
                rw [get_set_ne hl3, get_set_ne hl2, get_set_ne hl1]
      | [], hs, _ => cases hs
      | [_], hs, _ => cases hs
      | [_, _], hs, _ => cases hs
      | _ :: _ :: _ :: _ :: _, hs, _ => cases hs
    · cases hp e
  | many is =>
    rcases y with ⟨rfl, r⟩ | ⟨e, _⟩
    · cases d <;> first | cases hs; done | skip
      rename_i ds
      cases r with
      | tup hT rr =>
        obtain ⟨h1, h2⟩ := many_put R rr hO (show setAll is ds δ = some δ' from hs) fun σ' R' hl hk => hQ σ' R' hl hk (Ext.refl hrel.1 hrel.2)
        exact ⟨_, _, rfl, Same.sqT hrel.1 hT.sqT, h1, h2⟩
    · cases hp e
section
variable {X : Cx}
theorem pg_one {i : Nat} {x : Str} {pos : Pos} (hN : X.N.Nodup) (hi : X.N[i]? = some x) (hx : Loc X.env.scope x) (hf : X.fn x = true ∨ X.env.scope.names.lookup x = some .local := by first | exact .inl rfl | exact .inr rfl | assumption) : PG X (.Name x pos) (gT X.K (.one i)) := pg_name hN hi hx hf
theorem pg_two {e1 e2 : Expr} {i j k : Nat} {pos : Pos} (hc : X.calm = true) (h1 : PG X e1 (gName i)) (h2 : PG X e2 (gName j)) (hn : (assignEach [e1, e2] X.env).length = 2 := by rfl) (hst : (assignEach [e1, e2] X.env).findIdx? (·.1) = none := by rfl)
    (hs : (assignEach [e1, e2] X.env).map (·.2) = assign e1 X.env :: (assignEach [e2] X.env).map (·.2) := by rfl) (hs2 : (assignEach [e2] X.env).map (·.2) = assign e2 X.env :: (assignEach [] X.env).map (·.2) := by rfl) : PG X (.Tuple [e1, e2] k pos) (gT X.K (.two i j)) :=
  pg_tup hc (pgs_cons h1 (pgs_cons h2 pgs_nil hs2) hs) hn hst
theorem pg_three {e1 e2 e3 : Expr} {i j l k : Nat} {pos : Pos} (hc : X.calm = true) (h1 : PG X e1 (gName i)) (h2 : PG X e2 (gName j)) (h3 : PG X e3 (gName l)) (hn : (assignEach [e1, e2, e3] X.env).length = 3 := by rfl) (hst : (assignEach [e1, e2, e3] X.env).findIdx? (·.1) = none := by rfl)
    (hs : (assignEach [e1, e2, e3] X.env).map (·.2) = assign e1 X.env :: (assignEach [e2, e3] X.env).map (·.2) := by rfl) (hs2 : (assignEach [e2, e3] X.env).map (·.2) = assign e2 X.env :: (assignEach [e3] X.env).map (·.2) := by rfl) (hs3 : (assignEach [e3] X.env).map (·.2) = assign e3 X.env :: (assignEach [] X.env).map (·.2) := by rfl) : PG X (.Tuple [e1, e2, e3] k pos) (gT X.K (.three i j l)) :=
  pg_tup hc (pgs_cons h1 (pgs_cons h2 (pgs_cons h3 pgs_nil hs3) hs2) hs) hn hst
theorem pg_many {es : List Expr} {is : List Nat} {k : Nat} {pos : Pos} (hc : X.calm = true) (h : PGs X es (gNs is)) (hn : (assignEach es X.env).length = is.length := by rfl) (hst : (assignEach es X.env).findIdx? (·.1) = none := by rfl) : PG X (.Tuple es k pos) (gT X.K (.many is)) :=
  pg_tup hc h hn hst
end
/-! ### comprehensions -/
theorem wipe_get {σ : L2.St} {i : Nat} : ∀ {vs : List Nat}, i ∉ vs → (wipe σ vs)[i]? = σ[i]?
  | [], _ => rfl
  | v :: vs, h => by
    unfold wipe
    rw [get_set_ne fun z => h (by simp [z])]
    exact wipe_get fun z => h (List.mem_cons_of_mem _ z)
theorem wipe_in {σ : L2.St} {i : Nat} : ∀ {vs : List Nat}, i ∈ vs → i < σ.length → (wipe σ vs)[i]? = some none
  | v :: vs, h, hl => by
    unfold wipe
    by_cases e : i = v
    · subst e
      rw [List.getElem?_set_self (by rw [wipe_length]; exact hl)]
    · rw [get_set_ne e]
      exact wipe_in ((List.mem_cons.mp h).resolve_left e) hl
theorem wipe_eq {σ τ : L2.St} {vs : List Nat} (hl : τ.length = σ.length) (h : ∀ i, i ∉ vs → τ[i]? = σ[i]?) : wipe τ vs = wipe σ vs := List.ext_getElem? fun i => by
  by_cases hi : i ∈ vs
  · by_cases hn : i < σ.length
    · rw [wipe_in hi (by rw [hl]; exact hn), wipe_in hi hn]
    · rw [List.getElem?_eq_none (by rw [wipe_length, hl]; omega), List.getElem?_eq_none (by rw [wipe_length]; omega)]
  · rw [wipe_get hi, wipe_get hi, h i hi]
theorem wipe_wipe {σ : L2.St} {vs : List Nat} : wipe (wipe σ vs) vs = wipe σ vs := wipe_eq (wipe_length _ _) fun _ h => wipe_get h
section
variable {X : Cx} {O : List Nat} {C : Nat → List D → M D} {ie ic it : Ex} {t : Tg}
theorem ct_nil : PTs X [] (TT X.K O C (.cB true)) := ⟨fun pins s σ H Q I ⟨G, c, cup, δ, R, k, cup', he, hq⟩ => by
  cases he
  exact pts_nil.run pins s σ H Q I (hq c G H (Ext.refl R.same R.cup))⟩
theorem ct_one {cc : Expr} (h : PT X cc (TT X.K O C ic)) : PTs X [cc] (TT X.K O C ic) := pts_one h
theorem drop_get {α : Type} {l : List α} {i : Nat} {a : α} (h : l[i]? = some a) : l.drop i = a :: l.drop (i + 1) := by
  obtain ⟨hl, e⟩ := List.getElem?_eq_some_iff.mp h
  rw [List.drop_eq_getElem_cons hl, e]
theorem comp_t {vs : List Nat} (hvs : vs = tgS t) (hp : isPair it = true → isTwo t = true) (hO : ∀ i ∈ tgS t, i ∉ O) : ∀ σ H Q, TX X.K O C (pNew X.K) (.comp t it ic ie) σ H Q →
    tLc (TIr X.K O C true it) (gT X.K t) (TT X.K O C ic) (TX X.K O C (pVal X.K) ie) vs σ H Q := fun σ H Q ⟨G, c, cup, δ, R, d, cup', he, hq⟩ => by
  subst hvs
  obtain ⟨x, c1, h1, he1⟩ := bnd_ok he
  cases x <;> first | cases he1; done | skip
  rename_i ds
  obtain ⟨l, c2, h2, he2⟩ := bnd_ok he1
  have hz : szOk l.length = true ∧ d = .lst l ∧ c2 = cup' := by
    have e : (if szOk l.length = true then ret (D.lst l) else no) c2 = .ok d cup' := he2
    split at e
    · rename_i z
      cases e
      exact ⟨z, rfl, rfl⟩
    · cases e
  obtain ⟨hz, rfl, rfl⟩ := hz
  refine ⟨G, c, cup, δ, R, ds, c1, h1, fun J k1 G1 H1 e1 jok D hD => ?_⟩
  refine ⟨fun i m H => i ≤ ds.length ∧ m = ds.length - i ∧ ∃ c3 G2 cup2 acc dacc rest, Ext k1 G1 H1 c3 cup2 G2 H ∧ H D = some (.lst acc) ∧ G2 D = none ∧ c3 ≠ some D ∧ RepL X.K G2 c3 acc dacc ∧
    compM (fun d => match setT t d δ with
        | some δ' => bnd (evE C ic δ') fun k => truth k (bnd (evE C ie δ') fun y => ret (some y)) (ret none)
        | none => no) (ds.drop i) cup2 = .ok rest c2 ∧ dacc ++ rest = l, ⟨_, Nat.zero_le _, rfl, k1, G1, c1, [], [], l, Ext.mine e1.h e1.cup hD, upd_same, free_of e1.h hD, e1.cup.ne hD, .nil, h2, rfl⟩, ?_⟩
  rintro i m H' ⟨hi, rfl, c3, G2, cup2, acc, dacc, rest, x1, hD1, hG, hc3, racc, hM, hl⟩
  have fut : Fut true k1 G1 H1 c3 G2 H' := ⟨x1.g, x1.h, x1.cle, fun _ => x1.k⟩
  by_cases hlt : i < ds.length
  · refine .inr ?_
    have hd : ds[i]? = some ds[i] := List.getElem?_eq_getElem hlt
    generalize ds[i] = d at hd
    obtain ⟨go, yl⟩ := jok.go i d c3 G2 H' fut hd
    refine ⟨go, ?_⟩
    rw [drop_get hd] at hM
    obtain ⟨o, c4, hM1, hM2⟩ := bnd_ok hM
    obtain ⟨l', c5, hM3, hM4⟩ := bnd_ok hM2
    obtain ⟨hM5, hM6⟩ := ret_ok hM4
    subst hM6
    have hM1 : (match setT t d δ with
        | some δ' => bnd (evE C ic δ') fun k => truth k (bnd (evE C ie δ') fun y => ret (some y)) (ret none)
        | none => no) cup2 = .ok o c4 := hM1
    cases hset : setT t d δ with
    | none => rw [hset] at hM1; cases hM1
    | some δ' =>
      rw [hset] at hM1
      obtain ⟨kd, c6, hk1, hk2⟩ := bnd_ok hM1
      -- the next state
      refine ⟨fun H5 => ∃ c7 G5 acc' dacc', Ext k1 G1 H1 c7 c4 G5 H5 ∧ H5 D = some (.lst acc') ∧ G5 D = none ∧ c7 ≠ some D ∧ RepL X.K G5 c7 acc' dacc' ∧ dacc' ++ l' = l, ?_, ?_⟩
      · rintro H5 ⟨c7, G5, acc', dacc', x5, a1, a2, a3, a4, a5⟩
        exact ⟨ds.length - (i + 1), by omega, hlt, rfl, c7, G5, c4, acc', dacc', l', x5, a1, a2, a3, a4, hM3, a5⟩
      · intro x H3 hy
        have y := yl x H3 hy
        have RW : RelW X.K O (tgS t) G2 H' c3 cup2 (wipe σ (tgS t)) δ := ⟨σ, (R.ext e1).ext x1, wipe_length _ _, fun j hj => wipe_get hj⟩
        refine tgt RW y hp hO hset fun σ2 R2 hlen hsame x3 => ⟨?_, ?_⟩
        · exact (wipe_eq hlen hsame).trans wipe_wipe
        · have hD3 : H3 D = some (.lst acc) := x3.k _ _ hD1 hc3
          have step : ∀ {c8 : Option Addr} {cu : Cup} {G4 H4 : Hp}, Ext c3 G2 H3 c8 cu G4 H4 → H4 D = some (.lst acc) ∧ G4 D = none ∧ c8 ≠ some D := fun {c8 cu G4 H4} e => by
            refine ⟨e.k _ _ hD3 hc3, (e.f D (by rw [hD3]; exact fun z => by cases z)).trans hG, fun z => ?_⟩
            rcases e.m with m | ⟨m, n⟩
            · exact hc3 (m ▸ z)
            · have := n D z
              rw [hD3] at this; cases this
          rcases truth_ok hk2 with ⟨ek, hk3⟩ | ⟨ek, hk3⟩
          · subst ek
            obtain ⟨yd, c9, hy1, hy2⟩ := bnd_ok hk3
            obtain ⟨hy3, hy4⟩ := ret_ok hy2
            subst hy3 hy4
            refine ⟨G2, c3, cup2, δ', R2, true, c6, hk1, fun c8 G4 H4 x4 => iteT ⟨G4, c8, c6, δ', R2.ext x4, yd, _, hy1, fun w c10 G5 H5 x5 rw' => ?_⟩⟩
            have x45 := x4.trans x5
            obtain ⟨s1, s2, s3⟩ := step x45
            have hlen : dacc.length + 1 ≤ l.length := by
              rw [← hl, hM5, List.length_append]
              simp
            have hacc : acc.length < sizeLine := by
              have := Nat.le_of_ble_eq_true hz
              rw [racc.length, sizeLine_eq]
              omega
            refine ⟨acc, s1, hacc, c10, G5, acc ++ [w], dacc ++ [yd], ?_, upd_same, s2, s3, ?_, ?_⟩
            · have xx : Ext k1 G1 H1 c10 _ G5 H5 := (x1.trans x3).trans x45
              exact ⟨xx.g, fun b o q => by
                  rw [upd_ne (fun z : b = D => by rw [z, s2] at q; cases q)]
                  exact xx.h b o q, fun b o q hb => by
                  rw [upd_ne (fun z : b = D => by rw [z, hD] at q; cases q)]
                  exact xx.k b o q hb, xx.f, xx.m, xx.cup.updH s3⟩
            · exact ((racc.mono (fun b o q => x45.g b o q)).cle x45.cle).append (.cons rw' .nil)
            · rw [← hl, hM5, List.append_assoc]
              rfl
          · subst ek
            obtain ⟨hk4, hk5⟩ := ret_ok hk3
            subst hk4 hk5
            refine ⟨G2, c3, cup2, δ', R2, false, _, hk1, fun c8 G4 H4 x4 => iteF ?_⟩
            obtain ⟨s1, s2, s3⟩ := step x4
            exact ⟨c8, G4, acc, dacc, (x1.trans x3).trans x4, s1, s2, s3, (racc.mono x4.g).cle x4.cle, by rw [← hl, hM5]⟩
  · refine .inl ⟨jok.stop i c3 G2 H' fut (by omega), ?_⟩
    have hi' : i = ds.length := by omega
    subst hi'
    rw [List.drop_length] at hM
    obtain ⟨e2, e3⟩ := ret_ok hM
    subst e2 e3
    rw [List.append_nil] at hl
    subst hl
    have xx : Ext c G H c3 _ G2 H' := e1.trans x1
    refine hq _ c3 G2 H' xx ?_
    have hH : H D = none := by
      cases q : H D with
      | none => rfl
      | some o => exact absurd hD (e1.there (by rw [q]; exact fun z => by cases z))
    exact ⟨D, _, rfl, hH, hG, hD1, .lst racc, hc3⟩
theorem sx_comp {elt tg iter : Expr} {ifs : List Expr} {scope : Scope} (own : List (Str × Nat)) {pos : Pos} (hc : X.calm = true) (hN : X.N.Nodup) (hi : PI X tg iter (TIr X.K O C true it)) (ok : BlkOk X.N X.env.scope scope own)
    (hg : ∀ (s : Shared) (H : Hp) (A : Addr) (cl : List (Str × Addr)) (fp : List Addr), PG (X.blk s H scope (compEnvC scope cl A X.env) fp) tg (gT X.K t)) (ht : ∀ (s : Shared) (H : Hp) (A : Addr) (cl : List (Str × Addr)) (fp : List Addr), PTs (X.blk s H scope (compEnvC scope cl A X.env) fp) ifs (TT X.K O C ic))
    (he : ∀ (s : Shared) (H : Hp) (A : Addr) (cl : List (Str × Addr)) (fp : List Addr), PE (X.blk s H scope (compEnvC scope cl A X.env) fp) elt (TX X.K O C (pVal X.K) ie))
    (hvs : own.map (·.2) = tgS t) (hp : isPair it = true → isTwo t = true) (hO : ∀ i ∈ tgS t, i ∉ O) (hs : ∀ x, foldedSetIterable iter X.env x = pure x := by intro _; rfl) :
    PE X (.ListComp elt [⟨tg, iter, ifs, 0⟩] scope pos) (TX X.K O C (pNew X.K) (.comp t it ic ie)) := PEimp (pe_lc hc hN hi ok hg ht he hs) (comp_t hvs hp hO)
end
end PF

namespace PF
open PySem PySem.Spec L2 PySem.W
/-! ### calls -/
def pF (fr : Bool) (K : Fg) : Pst := match fr with
  | true => pNew K
  | false => pVal K
/-- what a def promises: fr: a list that it returns is new -/
def SpJ (K : Fg) (fr : Bool) (m : List D → M D) (n : Nat) : Sp := fun vs H Q _ => ∃ G c cup ds d cup', Same G H ∧ CupOk c cup G H ∧ RepL K G c vs ds ∧ vs.length = n ∧ m ds cup = .ok d cup' ∧
  ∀ v c' G' H', Ext c G H c' cup' G' H' → pF fr K H c' G' H' v d → Q v H'
/-- every def of the program keeps its promise, n calls deep -/
structure Callee (X : Cx) (n : Nat) (x : Str) (k : Nat) (fr : Bool) (m : List D → M D) : Prop where
  ex : ∃ f fd ps, FnOk X.prog X.w X.K X.mg X.base CX0 n f fd ps (SpJ X.K fr m k) ∧ ps.length = k ∧ X.mg x = some (.ref f) ∧ PySem.W.keepIn X.K (.ref f) = true ∧ Binds X.K fd ps []
theorem pF_back {fr : Bool} {K : Fg} {c c1 c2 : Option Addr} {k1 : Cup} {G H G1 H1 G2 H2 : Hp} (e : Ext c G H c1 k1 G1 H1) {v : HV} {d : D} (h : pF fr K H1 c2 G2 H2 v d) : pF fr K H c2 G2 H2 v d := by
  cases fr with
  | true => exact NewR.back e h
  | false => exact h
section
variable {X : Cx} {O : List Nat} {C : Nat → List D → M D} {e : Expr} {es : List Expr} {il : Ex} {n j k : Nat} {fr : Bool} {x : Str} {p pos : Pos}
theorem passN {X : Cx} {E : XK} : Passes CX0 X E := fun _ _ _ _ _ _ _ h => h.elim
theorem sx_call (F : Callee X n x k fr (C j)) (hr : Room n X.A) (hg : Gl X x) (ha : PA X (e :: es) (TL X.K O C (lVal X.K) il)) (hl : isLs il = true := by rfl) (hk : exLen il = k := by rfl) (hdb : (x == ("__debug__" : Str)) = false := by decide)
    (he : starEach (e :: es) X.env = (false, eval e X.env) :: starEach es X.env := by rfl) (hpl : (backTo pos (starEach es X.env)).any (·.1) = false := by rfl) : PE X (.Call (.Name x p) (e :: es) [] pos) (TX X.K O C (pF fr X.K) (.call j il)) := by
  obtain ⟨f, fd, ps, Fn, hps, hm, hkp, hb⟩ := F.ex
  exact PEimp (pe_call (E := fun _ _ _ => False) Fn hr hg hm hkp hb .nil passN ha hdb he hpl) fun σ H Q ⟨G, c, cup, δ, R, d, cup', he, hq⟩ => by
    obtain ⟨y, c1, h1, h2⟩ := bnd_ok he
    obtain ⟨ds, rfl, h3⟩ := unT_ok h2
    refine ⟨G, c, cup, δ, R, ds, c1, h1, fun vs k1 G1 H1 e1 r1 => ?_⟩
    have r1 : RepL X.K G1 k1 vs ds := r1
    refine ⟨G1, k1, c1, ds, d, cup', e1.h, e1.cup, by rw [List.append_nil]; exact r1, by rw [List.append_nil, r1.length, ev_len hl h1, hk], h3, fun v c' G' H' e2 pf => hq v c' G' H' (e1.trans e2) (pF_back e1 pf)⟩
theorem sx_call0 (F : Callee X n x 0 fr (C j)) (hr : Room n X.A) (hg : Gl X x) (hdb : (x == ("__debug__" : Str)) = false := by decide) : PE X (.Call (.Name x p) [] [] pos) (TX X.K O C (pF fr X.K) (.call j .nil)) := by
  obtain ⟨f, fd, ps, Fn, hps, hm, hkp, hb⟩ := F.ex
  exact PEimp (pe_call0 (E := fun _ _ _ => False) Fn hr hg hm hkp hb .nil passN hdb) fun σ H Q ⟨G, c, cup, δ, R, d, cup', he, hq⟩ => by
    obtain ⟨y, c1, h1, h2⟩ := bnd_ok he
    obtain ⟨ds, rfl, h3⟩ := unT_ok h2
    cases h1
    exact ⟨G, c, _, [], d, cup', R.same, R.cup, .nil, rfl, h3, fun v c' G' H' e2 pf => hq v c' G' H' e2 pf⟩
/-! lists of one's own lent to a callee -/
theorem lend {K : Fg} {G H : Hp} {c : Option Addr} {cup : Cup} (hs : Same G H) (hc : CupOk c cup G H) : ∀ {vs : List HV} {ds : List D}, ShL K G H c vs ds → ∃ ps : List Addr, ∃ G1, Same G G1 ∧ Same G1 H ∧ CupOk c cup G1 H ∧ RepL K G1 c vs ds ∧
    (∀ b, b ∉ ps → G1 b = G b) ∧ (∀ b ∈ ps, G b = none ∧ ∃ o d, H b = some o ∧ OO K G c o d)
  | _, _, .nil => ⟨[], G, fun _ _ q => q, hs, hc, .nil, fun _ _ => rfl, by simp⟩
  | _, _, .cons h r => by
    obtain ⟨ps, G1, g1, g2, g3, g4, g5, g6⟩ := lend hs hc r
    cases h with
    | rep h => exact ⟨ps, G1, g1, g2, g3, .cons (h.mono g1) g4, g5, g6⟩
    | own a b q nc =>
      rename_i p o
      by_cases hp : p ∈ ps
      · have hg : G1 p = some o ∨ G1 p = none := by
          cases z : G1 p with
          | none => exact .inr rfl
          | some o =>
            have := g2 p o z
            rw [b] at this
            cases this
            exact .inl rfl
        rcases hg with hg | hg
        · exact ⟨ps, G1, g1, g2, g3, .cons ((q.mono g1).rep hg) g4, g5, g6⟩
        · have s1 : Same G1 (upd G1 p o) := fun b' x q' => by rw [upd_ne (ne_of_none q' hg)]; exact q'
          refine ⟨ps, upd G1 p o, fun b' x q' => s1 b' x (g1 b' x q'), fun b' x q' => ?_, g3.updG nc, .cons ((q.mono fun b' x q' => s1 b' x (g1 b' x q')).rep upd_same) (g4.mono s1), fun b' hb' => ?_, g6⟩
          · by_cases e : b' = p
            · rw [e, upd_same] at q'
              cases q'
              rw [e]
              exact b
            · rw [upd_ne e] at q'
              exact g2 b' x q'
          · rw [upd_ne (fun e : b' = p => hb' (e ▸ hp))]
            exact g5 b' hb'
      · have hg : G1 p = none := (g5 p hp).trans a
        have s1 : Same G1 (upd G1 p o) := fun b' x q' => by rw [upd_ne (ne_of_none q' hg)]; exact q'
        refine ⟨p :: ps, upd G1 p o, fun b' x q' => s1 b' x (g1 b' x q'), fun b' x q' => ?_, g3.updG nc, .cons ((q.mono fun b' x q' => s1 b' x (g1 b' x q')).rep upd_same) (g4.mono s1), fun b' hb' => ?_, fun b' hb' => ?_⟩
        · by_cases e : b' = p
          · rw [e, upd_same] at q'
            cases q'
            rw [e]
            exact b
          · rw [upd_ne e] at q'
            exact g2 b' x q'
        · rw [upd_ne (fun e : b' = p => hb' (by simp [e]))]
          exact g5 b' fun z => hb' (List.mem_cons_of_mem _ z)
        · rcases List.mem_cons.mp hb' with e | hb'
          · rw [e]
            exact ⟨a, o, _, b, q⟩
          · exact g6 b' hb'
mutual
theorem Rep.thin {K : Fg} {G G' : Hp} {c : Option Addr} (h : ∀ b o u, G b = some (.frz o u) → G' b = some (.frz o u)) : ∀ {v : HV} {d : D}, Rep K G c v d → D.noL d = true → Rep K G' c v d
  | _, _, .non, _ => .non
  | _, _, .bl b, _ => .bl b
  | _, _, .int i, _ => .int i
  | _, _, .str x, _ => .str x
  | _, _, .cup e, _ => .cup e
  | _, _, .scr e, q => by cases q
  | _, _, .lst _ _, q => by cases q
  | _, _, .tup a r, q => .tup (by
      rcases a with ⟨o, a, d⟩ | a
      · exact .inl ⟨o, h _ _ _ a, d⟩
      · exact .inr a) (RepL.thin h r q)
theorem RepL.thin {K : Fg} {G G' : Hp} {c : Option Addr} (h : ∀ b o u, G b = some (.frz o u) → G' b = some (.frz o u)) : ∀ {vs : List HV} {ds : List D}, RepL K G c vs ds → D.noLL ds = true → RepL K G' c vs ds
  | _, _, .nil, _ => .nil
  | _, _, .cons a r, q => by
    have q : (D.noL _ && D.noLL _) = true := q
    rw [Bool.and_eq_true] at q
    exact .cons (Rep.thin h a q.1) (RepL.thin h r q.2)
end
theorem pF_noL {fr : Bool} {K : Fg} {H G' H' : Hp} {c : Option Addr} {v : HV} {d : D} (h : pF fr K H c G' H' v d) (q : D.noL d = true) : Rep K G' c v d := by
  cases fr with
  | false => exact h
  | true =>
    cases d with
    | lst _ => cases q
    | dct _ => cases q
    | _ => exact h
theorem noL_new {K : Fg} {H G' H' : Hp} {c : Option Addr} {v : HV} {d : D} (h : Rep K G' c v d) (q : D.noL d = true) : NewR K H c G' H' v d := by
  cases d with
  | lst _ => cases q
  | dct _ => cases q
  | _ => exact h
/-- .. its answer holds no list -/
theorem sx_callB (F : Callee X n x k fr (C j)) (hr : Room n X.A) (hg : Gl X x) (ha : PA X (e :: es) (TL X.K O C (lArg X.K) il)) (hl : isLs il = true := by rfl) (hk : exLen il = k := by rfl) (hdb : (x == ("__debug__" : Str)) = false := by decide)
    (he : starEach (e :: es) X.env = (false, eval e X.env) :: starEach es X.env := by rfl) (hpl : (backTo pos (starEach es X.env)).any (·.1) = false := by rfl) : PE X (.Call (.Name x p) (e :: es) [] pos) (TX X.K O C (pNew X.K) (.callB j il)) := by
  obtain ⟨f, fd, ps, Fn, hps, hm, hkp, hb⟩ := F.ex
  exact PEimp (pe_call (E := fun _ _ _ => False) Fn hr hg hm hkp hb .nil passN ha hdb he hpl) fun σ H Q ⟨G, c, cup, δ, R, d, cup', he, hq⟩ => by
    obtain ⟨y, c1, h1, h2⟩ := bnd_ok he
    obtain ⟨ds, rfl, h3⟩ := unT_ok h2
    obtain ⟨d', c2, h4, h5⟩ := bnd_ok h3
    have hd : d' = d ∧ c2 = cup' ∧ D.noL d = true := by
      have h5 : (if D.noL d' = true then ret d' else no) c2 = .ok d cup' := h5
      split at h5
      · rename_i z
        cases h5
        exact ⟨rfl, rfl, z⟩
      · cases h5
    obtain ⟨rfl, rfl, hn⟩ := hd
    refine ⟨G, c, cup, δ, R, ds, c1, h1, fun vs k1 G1 H1 e1 r1 => ?_⟩
    have r1 : ShL X.K G1 H1 k1 vs ds := r1
    obtain ⟨ps', G2, g1, g2, g3, g4, g5, g6⟩ := lend e1.h e1.cup r1
    refine ⟨G2, k1, c1, ds, d', c2, g2, g3, by rw [List.append_nil]; exact g4, by rw [List.append_nil, g4.length, ev_len hl h1, hk], h4, fun v c' G' H' e2 pf => ?_⟩
    -- what was lent is given back
    have e3 : Ext k1 G1 H1 c' c2 (fun b => if b ∈ ps' then none else G' b) H' := by
      refine ⟨fun b o q => ?_, fun b o q => ?_, e2.k, fun b hb => ?_, e2.m, ?_⟩
      · have nb : b ∉ ps' := fun z => by rw [(g6 b z).1] at q; cases q
        show (if b ∈ ps' then none else G' b) = some o
        rw [if_neg nb]
        exact e2.g b o (g1 b o q)
      · have q : (if b ∈ ps' then none else G' b) = some o := q
        split at q
        · cases q
        · exact e2.h b o q
      · show (if b ∈ ps' then none else G' b) = G1 b
        split
        · rename_i z
          exact (g6 b z).1.symm
        · rename_i z
          exact (e2.f b hb).trans (g5 b z)
      · have ck := e2.cup
        cases c' with
        | none =>
          cases c2 with
          | none => trivial
          | some _ => exact ck
        | some a =>
          obtain ⟨p, z, y1, y2⟩ := ck.at
          subst z
          refine ⟨?_, y2⟩
          show (if a ∈ ps' then none else G' a) = none
          split
          · rfl
          · exact y1
    refine hq v c' _ H' (e1.trans e3) (noL_new (Rep.thin (fun b o u q => ?_) (pF_noL pf hn) hn) hn)
    have nb : b ∉ ps' := fun z => by
      obtain ⟨_, xs, dd, hx, ho⟩ := g6 b z
      by_cases hc : k1 = some b
      · obtain ⟨p, _, ga, _⟩ := (hc ▸ g3).at
        have hgb : G' b = G2 b := e2.f b (by rw [hx]; exact fun z => by cases z)
        rw [ga] at hgb
        rw [hgb] at q
        cases q
      · have h1 := e2.k b _ hx hc
        have h2 := e2.h b _ q
        rw [h1] at h2
        have h3 := Option.some.inj h2
        subst h3
        cases ho
    show (if b ∈ ps' then none else G' b) = some (.frz o u)
    rw [if_neg nb]
    exact q
end
end PF

namespace PF
open PySem PySem.Spec L2 PySem.W
/-! ### statements -/
/-- the state within a def: c0, G0, H0 its entry; what is one's own was made since -/
structure RelS (K : Fg) (O : List Nat) (c0 : Option Addr) (G0 H0 G H : Hp) (c : Option Addr) (cup : Cup) (σ : L2.St) (δ : Env) : Prop where
  rel : Rel K O G H c cup σ δ
  ext : Ext c0 G0 H0 c cup G H
  mine : ∀ i ∈ O, (∃ d, δ[i]? = some (some d)) → ∀ p, σ[i]? = some (some (.ref p)) → H0 p = none
def SFin (K : Fg) (fr : Bool) (O' Ob : List Nat) (c0 : Option Addr) (G0 H0 : Hp) (c : Option Addr) (G : Hp) (fl : Flow) (cup' : Cup) (D : Ends) : Prop := match fl with
  | .next δ' => ∀ σ' c' G' H', Same G G' → CLe c c' → RelS K O' c0 G0 H0 G' H' c' cup' σ' δ' → D.nx σ' H'
  | .brk δ' => ∀ σ' c' G' H', Same G G' → CLe c c' → RelS K Ob c0 G0 H0 G' H' c' cup' σ' δ' → D.bk σ' H'
  | .ret d => ∀ v c' G' H', Ext c0 G0 H0 c' cup' G' H' → pF fr K H0 c' G' H' v d → D.rt v H'
def TSt (K : Fg) (C : Nat → List D → M D) (fr : Bool) (O O' Ob : List Nat) (s : St) : L2.TS := fun D σ H => ∃ c0 G0 H0 G c cup δ fl cup', RelS K O c0 G0 H0 G H c cup σ δ ∧ evS C s δ cup = .ok fl cup' ∧ SFin K fr O' Ob c0 G0 H0 c G fl cup' D
/-- O without i -/
def rmv (i : Nat) : List Nat → List Nat
  | [] => []
  | j :: r => if Nat.beq j i then rmv i r else j :: rmv i r
theorem mem_rmv {i j : Nat} : ∀ {l : List Nat}, j ∈ rmv i l ↔ j ∈ l ∧ j ≠ i
  | [] => by simp [rmv]
  | k :: r => by
    unfold rmv
    split
    · rename_i h
      have h : k = i := Nat.eq_of_beq_eq_true h
      subst h
      rw [mem_rmv]
      constructor
      · rintro ⟨a, b⟩
        exact ⟨List.mem_cons_of_mem _ a, b⟩
      · rintro ⟨a, b⟩
        exact ⟨(List.mem_cons.mp a).resolve_left b, b⟩
    · rename_i h
      have h : k ≠ i := fun e => h (by rw [e]; exact Nat.beq_refl i)
      rw [List.mem_cons, List.mem_cons, mem_rmv]
      constructor
      · rintro (a | ⟨a, b⟩)
        · exact ⟨.inl a, a ▸ h⟩
        · exact ⟨.inr a, b⟩
      · rintro ⟨a | a, b⟩
        · exact .inl a
        · exact .inr ⟨a, b⟩
section
variable {K : Fg} {O O' Ob : List Nat} {c0 c c' : Option Addr} {G0 H0 G H G' H' : Hp} {cup cup' : Cup} {σ : L2.St} {δ : Env}
theorem RelS.exp (R : RelS K O c0 G0 H0 G H c cup σ δ) (e : Ext c G H c' cup' G' H') : RelS K O c0 G0 H0 G' H' c' cup' σ δ := ⟨R.rel.ext e, R.ext.trans e, R.mine⟩
/-- a slot takes a plain value -/
theorem RelS.put (R : RelS K O c0 G0 H0 G H c cup σ δ) {i : Nat} {v : HV} {d : D} (r : Rep K G c v d) : RelS K (rmv i O) c0 G0 H0 G H c cup (σ.set i (some v)) (δ.set i (some d)) := by
  have R' : Rel K (rmv i O) G H c cup (σ.set i (some v)) (δ.set i (some d)) := by
    refine ⟨R.rel.same, R.rel.cup, fun j e h => ?_, by rw [List.length_set, List.length_set, R.rel.len], fun j k p hj hk ne h1 h2 h3 => ?_⟩
    · by_cases hj : j = i
      · subst hj
        have hl : j < δ.length := by
          have := (List.getElem?_eq_some_iff.mp h).1
          rw [List.length_set] at this
          exact this
        rw [List.getElem?_set_self hl] at h
        cases h
        exact ⟨v, List.getElem?_set_self (by rw [R.rel.len]; exact hl), fun z => absurd rfl (mem_rmv.mp z).2, fun _ => r⟩
      · rw [get_set_ne hj] at h
        obtain ⟨u, a, b, b'⟩ := R.rel.slot j e h
        exact ⟨u, by rw [get_set_ne hj]; exact a, fun z => b (mem_rmv.mp z).1, fun z => b' fun w => z (mem_rmv.mpr ⟨w, hj⟩)⟩
    · obtain ⟨hj, nj⟩ := mem_rmv.mp hj
      obtain ⟨hk, nk⟩ := mem_rmv.mp hk
      rw [get_set_ne nj] at h1 h3
      rw [get_set_ne nk] at h2 ⊢
      exact R.rel.apart j k p hj hk ne h1 h2 h3
  refine ⟨R', R.ext, fun j hj hd p hp => ?_⟩
  obtain ⟨hj, nj⟩ := mem_rmv.mp hj
  rw [get_set_ne nj] at hd hp
  exact R.mine j hj hd p hp
/-- a slot takes a new list, as one's own -/
theorem RelS.putO (R : RelS K O c0 G0 H0 G H c cup σ δ) {i : Nat} {p : Addr} {oo : HO} {dd : D} (h0 : H0 p = none) (hg : G p = none) (hh : H p = some oo) (r : OO K G c oo dd) (hc : c ≠ some p)
    (hap : ∀ j ∈ O, (∃ d, δ[j]? = some (some d)) → σ[j]? ≠ some (some (.ref p))) : RelS K (i :: rmv i O) c0 G0 H0 G H c cup (σ.set i (some (.ref p))) (δ.set i (some dd)) := by
  have hmem : ∀ {j}, j ∈ i :: rmv i O → j = i ∨ (j ∈ O ∧ j ≠ i) := fun {j} h => (List.mem_cons.mp h).imp id mem_rmv.mp
  have R' : Rel K (i :: rmv i O) G H c cup (σ.set i (some (.ref p))) (δ.set i (some dd)) := by
    refine ⟨R.rel.same, R.rel.cup, fun j e h => ?_, by rw [List.length_set, List.length_set, R.rel.len], fun j k q hj hk ne h1 h2 h3 => ?_⟩
    · by_cases hj : j = i
      · subst hj
        have hl : j < δ.length := by
          have := (List.getElem?_eq_some_iff.mp h).1
          rw [List.length_set] at this
          exact this
        rw [List.getElem?_set_self hl] at h
        cases h
        exact ⟨.ref p, List.getElem?_set_self (by rw [R.rel.len]; exact hl), fun _ => ⟨p, oo, rfl, hg, hh, r, hc⟩, fun z => absurd (by simp) z⟩
      · rw [get_set_ne hj] at h
        obtain ⟨u, a, b, b'⟩ := R.rel.slot j e h
        exact ⟨u, by rw [get_set_ne hj]; exact a, fun z => b ((hmem z).resolve_left hj).1, fun z => b' fun w => z (List.mem_cons_of_mem _ (mem_rmv.mpr ⟨w, hj⟩))⟩
    · by_cases ej : j = i
      · subst ej
        have nk : k ≠ j := fun z => ne z.symm
        obtain ⟨hk, _⟩ := (hmem hk).resolve_left nk
        have hl : j < σ.length := by
          have := (List.getElem?_eq_some_iff.mp h3).1
          rw [List.length_set] at this
          exact this
        rw [List.getElem?_set_self hl] at h3
        cases h3
        rw [get_set_ne nk] at h2 ⊢
        exact hap k hk h2
      · obtain ⟨hjO, _⟩ := (hmem hj).resolve_left ej
        rw [get_set_ne ej] at h1 h3
        by_cases ek : k = i
        · subst ek
          intro hk3
          have hl : k < σ.length := by
            have := (List.getElem?_eq_some_iff.mp hk3).1
            rw [List.length_set] at this
            exact this
          rw [List.getElem?_set_self hl] at hk3
          cases hk3
          exact hap j hjO h1 h3
        · obtain ⟨hk, _⟩ := (hmem hk).resolve_left ek
          rw [get_set_ne ek] at h2 ⊢
          exact R.rel.apart j k q hjO hk ne h1 h2 h3
  refine ⟨R', R.ext, fun j hj hd q hq => ?_⟩
  by_cases ej : j = i
  · subst ej
    have hl : j < σ.length := by
      have := (List.getElem?_eq_some_iff.mp hq).1
      rw [List.length_set] at this
      exact this
    rw [List.getElem?_set_self hl] at hq
    cases hq
    exact h0
  · obtain ⟨hj, _⟩ := (hmem hj).resolve_left ej
    rw [get_set_ne ej] at hd hq
    exact R.mine j hj hd q hq
/-- .. just made -/
theorem RelS.putNew (R : RelS K O c0 G0 H0 G H c cup σ δ) (e : Ext c G H c' cup' G' H') {i : Nat} {v : HV} {dd : D} (n : ∃ p o, v = .ref p ∧ H p = none ∧ G' p = none ∧ H' p = some o ∧ OO K G' c' o dd ∧ c' ≠ some p) : RelS K (i :: rmv i O) c0 G0 H0 G' H' c' cup' (σ.set i (some v)) (δ.set i (some dd)) := by
  obtain ⟨p, oo, rfl, h1, h2, h3, r, hc⟩ := n
  refine (R.exp e).putO (R.ext.none_of h1) h2 h3 r hc fun j hj ⟨d, hd⟩ z => ?_
  obtain ⟨v, a, b, _⟩ := R.rel.slot j d hd
  rw [z] at a
  cases a
  obtain ⟨q, ys, e1, _, e2, _⟩ := b hj
  cases e1
  rw [h1] at e2
  cases e2
/-- one's own list is changed -/
theorem RelS.updO (R : RelS K O c0 G0 H0 G H c cup σ δ) {i : Nat} (hi : i ∈ O) {p : Addr} {o1 o2 : HO} {d1 d2 : D} (hd : δ[i]? = some (some d1)) (hs : σ[i]? = some (some (.ref p))) (hg : G p = none) (hh : H p = some o1) (hc : c ≠ some p) (r : OO K G c o2 d2) :
    RelS K O c0 G0 H0 G (L2.upd H p o2) c cup σ (δ.set i (some d2)) := by
  have sm : Same G (L2.upd H p o2) := fun b x q => by
    rw [upd_ne (ne_of_none q hg)]
    exact R.rel.same b x q
  have h0 : H0 p = none := R.mine i hi ⟨_, hd⟩ p hs
  have hl : i < δ.length := (List.getElem?_eq_some_iff.mp hd).1
  refine ⟨⟨sm, R.rel.cup.updH hc, fun j e h => ?_, by rw [List.length_set, R.rel.len], fun j k q hj hk ne h1 h2 h3 => ?_⟩, ⟨R.ext.g, sm, fun b o q hb => ?_, R.ext.f, R.ext.m, R.rel.cup.updH hc⟩, fun j hj hdj q hq => ?_⟩
  · by_cases ej : j = i
    · subst ej
      rw [List.getElem?_set_self hl] at h
      cases h
      exact ⟨.ref p, hs, fun _ => ⟨p, o2, rfl, hg, upd_same, r, hc⟩, fun z => absurd hi z⟩
    · rw [get_set_ne ej] at h
      obtain ⟨u, a, b, b'⟩ := R.rel.slot j e h
      refine ⟨u, a, fun z => ?_, b'⟩
      obtain ⟨q, zs, rfl, y1, y2, y3, y4⟩ := b z
      have nq : q ≠ p := fun z' => R.rel.apart i j p hi z (fun z2 => ej z2.symm) ⟨_, hd⟩ ⟨_, h⟩ hs (by rw [a, z'])
      exact ⟨q, zs, rfl, y1, by rw [upd_ne nq]; exact y2, y3, y4⟩
  · have hx : ∀ k : Nat, (∃ d : D, (δ.set i (some d2))[k]? = some (some d)) → ∃ d : D, δ[k]? = some (some d) := fun k ⟨d, h⟩ => by
      by_cases ek : k = i
      · exact ⟨_, ek ▸ hd⟩
      · rw [get_set_ne ek] at h
        exact ⟨d, h⟩
    exact R.rel.apart j k q hj hk ne (hx j h1) (hx k h2) h3
  · rw [upd_ne (fun z : b = p => by rw [z, h0] at q; cases q)]
    exact R.ext.k b o q hb
  · obtain ⟨d, h⟩ := hdj
    by_cases ej : j = i
    · subst ej
      exact R.mine j hj ⟨_, hd⟩ q hq
    · rw [get_set_ne ej] at h
      exact R.mine j hj ⟨d, h⟩ q hq
theorem RelS.upd (R : RelS K O c0 G0 H0 G H c cup σ δ) {i : Nat} (hi : i ∈ O) {p : Addr} {xs ys : List HV} {ds es : List D} (hd : δ[i]? = some (some (.lst ds))) (hs : σ[i]? = some (some (.ref p))) (hg : G p = none) (hh : H p = some (.lst xs)) (hc : c ≠ some p) (r : RepL K G c ys es) :
    RelS K O c0 G0 H0 G (L2.upd H p (.lst ys)) c cup σ (δ.set i (some (.lst es))) := R.updO hi hd hs hg hh hc (.lst r)
/-- one's own list is given to everybody -/
theorem RelS.frz (R : RelS K O c0 G0 H0 G H c cup σ δ) (i : Nat) : ∃ G', Same G G' ∧ RelS K (rmv i O) c0 G0 H0 G' H c cup σ δ := by
  have triv : (i ∈ O → ¬ ∃ d, δ[i]? = some (some d)) → RelS K (rmv i O) c0 G0 H0 G H c cup σ δ := fun hi => by
    refine ⟨⟨R.rel.same, R.rel.cup, fun j e h => ?_, R.rel.len, fun j k p hj hk => R.rel.apart j k p (mem_rmv.mp hj).1 (mem_rmv.mp hk).1⟩, R.ext, fun j hj => R.mine j (mem_rmv.mp hj).1⟩
    obtain ⟨u, a, b, b'⟩ := R.rel.slot j e h
    exact ⟨u, a, fun z => b (mem_rmv.mp z).1, fun z => b' fun w => (by
      by_cases ej : j = i
      · subst ej
        exact hi w ⟨_, h⟩
      · exact z (mem_rmv.mpr ⟨w, ej⟩))⟩
  by_cases hi : i ∈ O
  · by_cases hd : ∃ d, δ[i]? = some (some d)
    · obtain ⟨d, hd⟩ := hd
      obtain ⟨v, hv, b, _⟩ := R.rel.slot i d hd
      obtain ⟨p, oo, rfl, hg, hh, r, hc⟩ := b hi
      have h0 : H0 p = none := R.mine i hi ⟨_, hd⟩ p hv
      have sg : Same G (L2.upd G p oo) := fun b x q => by rw [upd_ne (ne_of_none q hg)]; exact q
      have sm : Same (L2.upd G p oo) H := fun b x q => by
        by_cases z : b = p
        · rw [z, upd_same] at q
          cases q
          rw [z]
          exact hh
        · rw [upd_ne z] at q
          exact R.rel.same b x q
      refine ⟨L2.upd G p oo, sg, ⟨⟨sm, R.rel.cup.updG hc, fun j e h => ?_, R.rel.len, fun j k q hj hk => R.rel.apart j k q (mem_rmv.mp hj).1 (mem_rmv.mp hk).1⟩, ⟨fun b x q => sg b x (R.ext.g b x q), sm, R.ext.k, fun b q => ?_, R.ext.m, R.rel.cup.updG hc⟩, fun j hj => R.mine j (mem_rmv.mp hj).1⟩⟩
      · obtain ⟨u, a, y, y'⟩ := R.rel.slot j e h
        refine ⟨u, a, fun z => ?_, fun z => ?_⟩
        · obtain ⟨q, zs, rfl, y1, y2, y3, y4⟩ := y (mem_rmv.mp z).1
          have nq : q ≠ p := fun z' => R.rel.apart i j p hi (mem_rmv.mp z).1 (fun z2 => (mem_rmv.mp z).2 z2.symm) ⟨_, hd⟩ ⟨_, h⟩ hv (by rw [a, z'])
          exact ⟨q, zs, rfl, by rw [upd_ne nq]; exact y1, y2, y3.mono sg, y4⟩
        · by_cases ej : j = i
          · subst ej
            rw [hd] at h
            cases h
            rw [hv] at a
            cases a
            exact (r.mono sg).rep upd_same
          · exact (y' fun w => z (mem_rmv.mpr ⟨w, ej⟩)).mono sg
      · rw [upd_ne (fun z : b = p => q (by rw [z]; exact h0))]
        exact R.ext.f b q
    · exact ⟨G, fun _ _ q => q, triv fun _ => hd⟩
  · exact ⟨G, fun _ _ q => q, triv fun z => absurd z hi⟩
end
section
variable {X : Cx} {C : Nat → List D → M D} {fr : Bool} {O O1 O' Ob : List Nat} {st : Stmt} {rest : List Stmt} {s r : St}
theorem SFin.later {K : Fg} {c0 : Option Addr} {G0 H0 : Hp} {c c1 : Option Addr} {G G1 : Hp} {fl : Flow} {cup' : Cup} {D : Ends} (g : Same G G1) (l : CLe c c1) (h : SFin K fr O' Ob c0 G0 H0 c G fl cup' D) : SFin K fr O' Ob c0 G0 H0 c1 G1 fl cup' D := by
  have tr : ∀ {c'}, CLe c1 c' → CLe c c' := fun {c'} z => by
    rcases z with z | z
    · exact z ▸ l
    · rcases l with y | y
      · exact .inr (y ▸ z)
      · exact .inr y
  cases fl with
  | next δ => exact fun σ' c' G' H' g' l' => h σ' c' G' H' (fun b x q => g' b x (g b x q)) (tr l')
  | brk δ => exact fun σ' c' G' H' g' l' => h σ' c' G' H' (fun b x q => g' b x (g b x q)) (tr l')
  | ret d => exact h
theorem ss_nil : PSs X [] (TSt X.K C fr O O Ob .skip) := PSsimp pss_nil fun D σ H ⟨c0, G0, H0, G, c, cup, δ, fl, cup', R, he, hf⟩ => by
  cases he
  exact hf σ c G H (fun _ _ q => q) (.inl rfl) R
theorem seq_t {t u : L2.TS} (ht : ∀ D σ H, TSt X.K C fr O O1 Ob s D σ H → t D σ H) (hu : ∀ D σ H, TSt X.K C fr O1 O' Ob r D σ H → u D σ H) : ∀ D σ H, TSt X.K C fr O O' Ob (.seq s r) D σ H → tSeq t u D σ H := fun D σ H ⟨c0, G0, H0, G, c, cup, δ, fl, cup', R, he, hf⟩ => by
  obtain ⟨f1, c1, h1, h2⟩ := bnd_ok he
  refine ht _ σ H ⟨c0, G0, H0, G, c, cup, δ, f1, c1, R, h1, ?_⟩
  cases f1 with
  | next δ' => exact fun σ' c' G' H' g l R' => hu D σ' H' ⟨c0, G0, H0, G', c', c1, δ', fl, cup', R', h2, hf.later g l⟩
  | brk δ' =>
    cases h2
    exact hf
  | ret d =>
    cases h2
    exact hf
theorem ss_cons (h1 : PS X st (TSt X.K C fr O O1 Ob s)) (h2 : PSs X rest (TSt X.K C fr O1 O' Ob r)) : PSs X (st :: rest) (TSt X.K C fr O O' Ob (.seq s r)) := PSsimp (pss_cons h1 h2) (seq_t (fun _ _ _ h => h) fun _ _ _ h => h)
theorem ss_one (h1 : PS X st (TSt X.K C fr O O' Ob s)) : PSs X [st] (TSt X.K C fr O O' Ob s) := pss_one h1
theorem ss_frz {i : Nat} (h2 : PSs X rest (TSt X.K C fr O1 O' Ob r)) (hO : rmv i O = O1 := by rfl) : PSs X rest (TSt X.K C fr O O' Ob (.seq (.frz i) r)) := PSsimp h2 fun D σ H ⟨c0, G0, H0, G, c, cup, δ, fl, cup', R, he, hf⟩ => by
  obtain ⟨f1, c1, h1, h2⟩ := bnd_ok he
  cases h1
  obtain ⟨G', g, R'⟩ := R.frz i
  rw [hO] at R'
  exact ⟨c0, G0, H0, G', c, cup, δ, fl, cup', R', h2, hf.later g (.inl rfl)⟩
variable {e : Expr} {ie : Ex} {pos : Pos}
theorem s_exp (he : PE X e (TX X.K O C (pArg X.K) ie)) (hs : swapsWith e none pos.line X.env = pure false := by rfl) : PS X (.Expr e pos) (TSt X.K C fr O O Ob (.exp ie)) := PSimp (ps_expr he hs) fun D σ H ⟨c0, G0, H0, G, c, cup, δ, fl, cup', R, hev, hf⟩ => by
  obtain ⟨d, c1, h1, h2⟩ := bnd_ok hev
  cases h2
  exact ⟨G, c, cup, δ, R.rel, d, _, h1, fun v k1 G1 H1 e1 _ => hf σ k1 G1 H1 e1.g e1.cle (R.exp e1)⟩
theorem s_doc {x : Sx} {j : Nat} {pos' : Pos} : PS X (.Expr (.Constant (.str x) j pos) pos') (TSt X.K C fr O O Ob .skip) := PSimp ps_doc fun D σ H ⟨c0, G0, H0, G, c, cup, δ, fl, cup', R, he, hf⟩ => by
  cases he
  exact hf σ c G H (fun _ _ q => q) (.inl rfl) R
theorem asg_t {i : Nat} {t : L2.TE} (hO : rmv i O = O') (ht : ∀ σ H Q, TX X.K O C (pVal X.K) ie σ H Q → t σ H Q) : ∀ D σ H, TSt X.K C fr O O' Ob (.asg i ie) D σ H → tAsg t (gName i) D σ H := fun D σ H ⟨c0, G0, H0, G, c, cup, δ, fl, cup', R, hev, hf⟩ => by
  obtain ⟨d, c1, h1, h2⟩ := bnd_ok hev
  cases h2
  subst hO
  exact ht σ H _ ⟨G, c, cup, δ, R.rel, d, _, h1, fun v k1 G1 H1 e1 r1 => hf _ k1 G1 H1 e1.g e1.cle ((R.exp e1).put r1)⟩
theorem s_asg {i : Nat} {x : Str} {pos' : Pos} (hN : X.N.Nodup) (hi : X.N[i]? = some x) (hx : Loc X.env.scope x) (he : PE X e (TX X.K O C (pVal X.K) ie)) (hO : rmv i O = O' := by rfl) (hs : swapsWith e (some (.Name x pos')) pos.line X.env = pure false := by rfl)
    (hf : X.fn x = true ∨ X.env.scope.names.lookup x = some .local := by first | exact .inl rfl | exact .inr rfl | assumption) : PS X (.Assign [.Name x pos'] e pos) (TSt X.K C fr O O' Ob (.asg i ie)) := PSimp (ps_set hN hi hx he hs hf) (asg_t hO fun _ _ _ h => h)
theorem asgO_t {i : Nat} {t : L2.TE} (hO : i :: rmv i O = O') (ht : ∀ σ H Q, TX X.K O C (pNew X.K) ie σ H Q → t σ H Q) : ∀ D σ H, TSt X.K C fr O O' Ob (.asgO i ie) D σ H → tAsg t (gName i) D σ H := fun D σ H ⟨c0, G0, H0, G, c, cup, δ, fl, cup', R, hev, hf⟩ => by
  obtain ⟨d, c1, h1, h2⟩ := bnd_ok hev
  cases d <;> first | cases h2; done | skip
  all_goals
    cases h2
    subst hO
    exact ht σ H _ ⟨G, c, cup, δ, R.rel, _, _, h1, fun v k1 G1 H1 e1 n1 => hf _ k1 G1 H1 e1.g e1.cle (R.putNew e1 n1)⟩
theorem s_asgO {i : Nat} {x : Str} {pos' : Pos} (hN : X.N.Nodup) (hi : X.N[i]? = some x) (hx : Loc X.env.scope x) (he : PE X e (TX X.K O C (pNew X.K) ie)) (hO : i :: rmv i O = O' := by rfl) (hs : swapsWith e (some (.Name x pos')) pos.line X.env = pure false := by rfl)
    (hf : X.fn x = true ∨ X.env.scope.names.lookup x = some .local := by first | exact .inl rfl | exact .inr rfl | assumption) : PS X (.Assign [.Name x pos'] e pos) (TSt X.K C fr O O' Ob (.asgO i ie)) := PSimp (ps_set hN hi hx he hs hf) (asgO_t hO fun _ _ _ h => h)
/-! x = [.. for .. in ..] on one line -/
section
variable {t : Tg} {it ic : Ex} {elt tg iter : Expr} {ifs : List Expr} {scope : Scope}
theorem new_val {K : Fg} {a : Ex} : ∀ {σ : L2.St} {H : Hp} {Q : VK}, TX K O C (pVal K) a σ H Q → TX K O C (pNew K) a σ H Q := fun {σ H Q} ⟨G, c, cup, δ, R, d, cup', he, hq⟩ =>
  ⟨G, c, cup, δ, R, d, cup', he, fun v c' G' H' e n => let ⟨G2, e2, r⟩ := NewR.give e n; hq v c' G2 H' e2 r⟩
theorem s_asgLc {i : Nat} {x : Str} (own : List (Str × Nat)) {pos pos' spos : Pos} (hc : X.calm = true) (hN : X.N.Nodup) (hi : X.N[i]? = some x) (hx : X.env.scope.names.lookup x = some .local) (hit : PI X tg iter (TIr X.K O C true it)) (ok : BlkOk X.N X.env.scope scope own)
    (hg : ∀ (s : Shared) (H : Hp) (A : Addr) (cl : List (Str × Addr)) (fp : List Addr), PG (X.blk s H scope (compEnvC scope cl A X.env) fp) tg (gT X.K t)) (ht : ∀ (s : Shared) (H : Hp) (A : Addr) (cl : List (Str × Addr)) (fp : List Addr), PTs (X.blk s H scope (compEnvC scope cl A X.env) fp) ifs (TT X.K O C ic))
    (he : ∀ (s : Shared) (H : Hp) (A : Addr) (cl : List (Str × Addr)) (fp : List Addr), PE (X.blk s H scope (compEnvC scope cl A X.env) fp) elt (TX X.K O C (pVal X.K) ie))
    (hvs : own.map (·.2) = tgS t) (hp : isPair it = true → isTwo t = true) (hOt : ∀ i ∈ tgS t, i ∉ O) (hO : rmv i O = O' := by rfl) (hsw : swapsWith (.ListComp elt [⟨tg, iter, ifs, 0⟩] scope pos) (some (.Name x pos')) spos.line X.env = pure true := by rfl) (hs : ∀ x, foldedSetIterable iter X.env x = pure x := by intro _; rfl) :
    PS X (.Assign [.Name x pos'] (.ListComp elt [⟨tg, iter, ifs, 0⟩] scope pos) spos) (TSt X.K C fr O O' Ob (.asg i (.comp t it ic ie))) := PSimp (ps_setLc hc hN hi hx hsw hit ok hg ht he hs) (asg_t hO fun σ H Q h => comp_t hvs hp hOt σ H Q (new_val h))
theorem s_asgOLc {i : Nat} {x : Str} (own : List (Str × Nat)) {pos pos' spos : Pos} (hc : X.calm = true) (hN : X.N.Nodup) (hi : X.N[i]? = some x) (hx : X.env.scope.names.lookup x = some .local) (hit : PI X tg iter (TIr X.K O C true it)) (ok : BlkOk X.N X.env.scope scope own)
    (hg : ∀ (s : Shared) (H : Hp) (A : Addr) (cl : List (Str × Addr)) (fp : List Addr), PG (X.blk s H scope (compEnvC scope cl A X.env) fp) tg (gT X.K t)) (ht : ∀ (s : Shared) (H : Hp) (A : Addr) (cl : List (Str × Addr)) (fp : List Addr), PTs (X.blk s H scope (compEnvC scope cl A X.env) fp) ifs (TT X.K O C ic))
    (he : ∀ (s : Shared) (H : Hp) (A : Addr) (cl : List (Str × Addr)) (fp : List Addr), PE (X.blk s H scope (compEnvC scope cl A X.env) fp) elt (TX X.K O C (pVal X.K) ie))
    (hvs : own.map (·.2) = tgS t) (hp : isPair it = true → isTwo t = true) (hOt : ∀ i ∈ tgS t, i ∉ O) (hO : i :: rmv i O = O' := by rfl) (hsw : swapsWith (.ListComp elt [⟨tg, iter, ifs, 0⟩] scope pos) (some (.Name x pos')) spos.line X.env = pure true := by rfl) (hs : ∀ x, foldedSetIterable iter X.env x = pure x := by intro _; rfl) :
    PS X (.Assign [.Name x pos'] (.ListComp elt [⟨tg, iter, ifs, 0⟩] scope pos) spos) (TSt X.K C fr O O' Ob (.asgO i (.comp t it ic ie))) := PSimp (ps_setLc hc hN hi hx hsw hit ok hg ht he hs) (asgO_t hO fun σ H Q h => comp_t hvs hp hOt σ H Q h)
end
/-! return, break, if -/
theorem s_retV (he : PE X e (TX X.K O C (pVal X.K) ie)) : PS X (.Return (some e) pos) (TSt X.K C false O O' Ob (.ret ie)) := PSimp (ps_ret he) fun D σ H ⟨c0, G0, H0, G, c, cup, δ, fl, cup', R, hev, hf⟩ => by
  obtain ⟨d, c1, h1, h2⟩ := bnd_ok hev
  cases h2
  exact ⟨G, c, cup, δ, R.rel, d, _, h1, fun v k1 G1 H1 e1 r1 => hf v k1 G1 H1 (R.ext.trans e1) r1⟩
theorem s_retF (he : PE X e (TX X.K O C (pNew X.K) ie)) : PS X (.Return (some e) pos) (TSt X.K C true O O' Ob (.ret ie)) := PSimp (ps_ret he) fun D σ H ⟨c0, G0, H0, G, c, cup, δ, fl, cup', R, hev, hf⟩ => by
  obtain ⟨d, c1, h1, h2⟩ := bnd_ok hev
  cases h2
  exact ⟨G, c, cup, δ, R.rel, d, _, h1, fun v k1 G1 H1 e1 r1 => hf v k1 G1 H1 (R.ext.trans e1) (NewR.back R.ext r1)⟩
theorem s_retO {i : Nat} {x : Str} {p : Pos} (hO : i ∈ O) (hN : X.N[i]? = some x) (hv : Vis X.env.scope x) (hd : (x == ("__debug__" : Str)) = false := by decide) (hcd : (x == ("__classdict__" : Str)) = false := by decide) : PS X (.Return (some (.Name x p)) pos) (TSt X.K C fr O O' Ob (.ret (.var i))) :=
  PSimp (ps_ret (pe_var hN hv hd hcd)) fun D σ H ⟨c0, G0, H0, G, c, cup, δ, fl, cup', R, hev, hf⟩ => by
    obtain ⟨d, c1, h10, h2⟩ := bnd_ok hev
    cases h2
    obtain ⟨h1, h11⟩ := lift_ok h10
    subst h11
    obtain ⟨v, h3, h4, _⟩ := R.rel.slot i d (env_get h1)
    obtain ⟨q, oo, rfl, g1, g2, g3, g4⟩ := h4 hO
    have n : NewR X.K H0 c G H (.ref q) d := .of_OO (R.mine i hO ⟨_, env_get h1⟩ q h3) g1 g2 g3 g4
    refine ⟨_, h3, ?_⟩
    cases fr with
    | true => exact hf _ c G H R.ext n
    | false =>
      obtain ⟨G2, e2, r2⟩ := NewR.give R.ext n
      exact hf _ c G2 H e2 r2
theorem s_retN : PS X (.Return none pos) (TSt X.K C fr O O' Ob .retN) := PSimp ps_retN fun D σ H ⟨c0, G0, H0, G, c, cup, δ, fl, cup', R, hev, hf⟩ => by
  cases hev
  refine hf .non c G H R.ext ?_
  cases fr with
  | true => exact Rep.non
  | false => exact Rep.non
theorem s_brk : PS X (.Break pos) (TSt X.K C fr O O' O .brk) := PSimp ps_break fun D σ H ⟨c0, G0, H0, G, c, cup, δ, fl, cup', R, hev, hf⟩ => by
  cases hev
  exact hf σ c G H (fun _ _ q => q) (.inl rfl) R
theorem s_raise {k : Nat} : PS X st (TSt X.K C fr O O' Ob (.raise k)) := PSimp ps_never fun D σ H ⟨c0, G0, H0, G, c, cup, δ, fl, cup', R, hev, hf⟩ => by
  cases hev
theorem s_if {cc : Expr} {ic : Ex} {a b : List Stmt} {ia ib : St} (hc : PT X cc (TT X.K O C ic)) (ha : PSs X a (TSt X.K C fr O O' Ob ia)) (hb : PSs X b (TSt X.K C fr O O' Ob ib)) : PS X (.If cc a b pos) (TSt X.K C fr O O' Ob (.ite ic ia ib)) :=
  PSimp (ps_if hc ha hb) fun D σ H ⟨c0, G0, H0, G, c, cup, δ, fl, cup', R, hev, hf⟩ => by
    obtain ⟨x, c1, h1, h2⟩ := bnd_ok hev
    rcases truth_ok h2 with ⟨e1, h3⟩ | ⟨e1, h3⟩
    · subst e1
      exact ⟨G, c, cup, δ, R.rel, true, c1, h1, fun k1 G1 H1 e1 => iteT ⟨c0, G0, H0, G1, k1, c1, δ, fl, cup', R.exp e1, h3, hf.later e1.g e1.cle⟩⟩
    · subst e1
      exact ⟨G, c, cup, δ, R.rel, false, c1, h1, fun k1 G1 H1 e1 => iteF ⟨c0, G0, H0, G1, k1, c1, δ, fl, cup', R.exp e1, h3, hf.later e1.g e1.cle⟩⟩
end
end PF

namespace PF
open PySem PySem.Spec L2 PySem.W
theorem optM_ok {α β : Type} {o : Option α} {f : α → M β} {c c' : Cup} {b : β} (h : optM o f c = .ok b c') : ∃ a, o = some a ∧ f a c = .ok b c' := by
  cases o with
  | none => cases h
  | some a => exact ⟨a, rfl, h⟩
theorem lstAt_of {δ : Env} {i : Nat} {ds : List D} (h : lstAt δ i = some ds) : δ[i]? = some (some (.lst ds)) := by
  unfold lstAt at h
  cases q : δ[i]?.getD none with
  | none => rw [q] at h; cases h
  | some d =>
    rw [q] at h
    cases d <;> cases h
    exact env_get q
section
variable {X : Cx} {C : Nat → List D → M D} {fr : Bool} {O O1 O' Ob : List Nat} {e : Expr} {ie ik : Ex} {pos apos cpos : Pos} {x : Str} {i : Nat}
/-- a list of one's own, by its slot -/
theorem RelS.at {K : Fg} {c0 c : Option Addr} {G0 H0 G H : Hp} {cup : Cup} {σ : L2.St} {δ : Env} (R : RelS K O c0 G0 H0 G H c cup σ δ) (hi : i ∈ O) {ds : List D} (h : δ[i]? = some (some (.lst ds))) : ∃ p xs, σ[i]? = some (some (.ref p)) ∧ G p = none ∧ H p = some (.lst xs) ∧ RepL K G c xs ds ∧ c ≠ some p := by
  obtain ⟨v, a, b, _⟩ := R.rel.slot i _ h
  obtain ⟨p, oo, rfl, h1, h2, h3, h4⟩ := b hi
  obtain ⟨xs, rfl, r⟩ := h3.isLst
  exact ⟨p, xs, a, h1, h2, r, h4⟩
/-- a dict of one's own, by its slot -/
theorem RelS.atD {K : Fg} {c0 c : Option Addr} {G0 H0 G H : Hp} {cup : Cup} {σ : L2.St} {δ : Env} (R : RelS K O c0 G0 H0 G H c cup σ δ) (hi : i ∈ O) {kvs : List (D × D)} (h : δ[i]? = some (some (.dct kvs))) : ∃ p ks, σ[i]? = some (some (.ref p)) ∧ G p = none ∧ H p = some (.dK ks) ∧ RepL K G c (ks.map Prod.snd) (kvs.map Prod.snd) ∧ kvs.map Prod.fst = ks.map (fun p => kD p.1) ∧ c ≠ some p := by
  obtain ⟨v, a, b, _⟩ := R.rel.slot i _ h
  obtain ⟨p, oo, rfl, h1, h2, h3, h4⟩ := b hi
  obtain ⟨ks, rfl, r, q⟩ := h3.isDct
  exact ⟨p, ks, a, h1, h2, r, q, h4⟩
theorem s_app {p : Pos} (hi : i ∈ O) (hN : X.N[i]? = some x) (hv : Vis X.env.scope x) (he : PE X e (TX X.K O C (pVal X.K) ie)) (hd : (x == ("__debug__" : Str)) = false := by decide) (hcd : (x == ("__classdict__" : Str)) = false := by decide)
    (hbase : attributeBase (.Name x p) "append" X.env (eval (.Name x p) X.env) = eval (.Name x p) X.env := by rfl)
    (hfew : ((backTo cpos (starEach [e] X.env)).all (fun x => !x.1) && (backToKw cpos (keywordEach [] X.env)).all (fun x => x.1.isSome)
      && decide ([e].length + ([] : List Keyword).length + (if ([] : List Keyword).isEmpty then 0 else 1) < 30)) = true := by rfl)
    (hline : (apos.endLine == cpos.line) = true := by rfl) (hs : starEach [e] X.env = (false, eval e X.env) :: starEach [] X.env := by rfl) (hsw : swapsWith (.Call (.Attribute (.Name x p) "append" apos) [e] [] cpos) none pos.line X.env = pure false := by rfl) :
    PS X (.Expr (.Call (.Attribute (.Name x p) "append" apos) [e] [] cpos) pos) (TSt X.K C fr O O Ob (.app i ie)) :=
  PSimp (ps_expr (pe_bm PySem.F.plainAttrs_list PySem.F.slot_list_append PySem.F.type_list_append mt_append (pe_var hN hv hd hcd) (pa_cons he pa_nil hs) hbase hfew hline hs rfl) hsw) fun D σ H ⟨c0, G0, H0, G, c, cup, δ, fl, cup', R, hev, hf⟩ => by
    obtain ⟨d, c1, h1, h2⟩ := bnd_ok hev
    obtain ⟨ds, h3, h4⟩ := optM_ok h2
    have hz : szOk ds.length = true ∧ fl = .next (δ.set i (some (.lst (ds ++ [d])))) ∧ c1 = cup' := by
      have h4 : (if szOk ds.length = true then ret (Flow.next (δ.set i (some (.lst (ds ++ [d]))))) else no) c1 = .ok fl cup' := h4
      split at h4
      · rename_i z
        cases h4
        exact ⟨z, rfl, rfl⟩
      · cases h4
    obtain ⟨hz, rfl, rfl⟩ := hz
    have hδ := lstAt_of h3
    obtain ⟨q, xs, y1, y2, y3, y4, y5⟩ := R.at hi hδ
    refine ⟨_, y1, .inl ⟨rfl, xs, SqL.of y3⟩, G, c, cup, δ, R.rel, d, _, h1, fun v k1 G1 H1 e1 r1 => ?_⟩
    have r1 : Rep X.K G1 k1 v d := r1
    obtain ⟨q', xs', y1', y2', y3', y4', y5'⟩ := (R.exp e1).at hi hδ
    rw [y1] at y1'
    cases y1'
    refine ⟨q, xs', v, rfl, rfl, y3', ?_, ?_⟩
    · rw [y4'.length]
      exact sz_lt hz
    · exact hf σ k1 G1 _ e1.g e1.cle ((R.exp e1).upd hi hδ y1 y2' y3' y5' (y4'.append (.cons r1 .nil)))
theorem popAt_of {ds es : List D} {k d : D} (h : popAt ds k = some (d, es)) : ∃ j : Int, k = .int j ∧ 0 ≤ j ∧ j < 2 ^ 62 ∧ ds[j.toNat]? = some d ∧ es = ds.eraseIdx j.toNat := by
  cases k <;> first | cases h; done | skip
  rename_i j
  have h : (if decide (0 ≤ j) && decide (j < 2 ^ 62) then (match ds[j.toNat]? with
    | some d => some (d, ds.eraseIdx j.toNat)
    | none => none) else none) = some (d, es) := h
  split at h
  · rename_i hj
    rw [Bool.and_eq_true] at hj
    cases q : ds[j.toNat]? with
    | none => rw [q] at h; cases h
    | some d' =>
      rw [q] at h
      cases h
      exact ⟨j, rfl, of_decide_eq_true hj.1, of_decide_eq_true hj.2, q, rfl⟩
  · cases h
/-- ys.append(xs.pop(k)) -/
theorem s_popA {j : Nat} {y : Str} {p py apos2 cpos2 : Pos} {k : Expr} (hij : i ≠ j) (hi : i ∈ O) (hj : j ∈ O) (hN : X.N[i]? = some x) (hNj : X.N[j]? = some y) (hv : Vis X.env.scope x) (hvj : Vis X.env.scope y) (hk : PE X k (TX X.K O C (pArg X.K) ik))
    (hd : (x == ("__debug__" : Str)) = false := by decide) (hcd : (x == ("__classdict__" : Str)) = false := by decide) (hd2 : (y == ("__debug__" : Str)) = false := by decide) (hcd2 : (y == ("__classdict__" : Str)) = false := by decide)
    (hbase : attributeBase (.Name y py) "append" X.env (eval (.Name y py) X.env) = eval (.Name y py) X.env := by rfl) (hbase2 : attributeBase (.Name x p) "pop" X.env (eval (.Name x p) X.env) = eval (.Name x p) X.env := by rfl)
    (hfew : ((backTo cpos (starEach [.Call (.Attribute (.Name x p) "pop" apos2) [k] [] cpos2] X.env)).all (fun x => !x.1) && (backToKw cpos (keywordEach [] X.env)).all (fun x => x.1.isSome)
      && decide ([Expr.Call (.Attribute (.Name x p) "pop" apos2) [k] [] cpos2].length + ([] : List Keyword).length + (if ([] : List Keyword).isEmpty then 0 else 1) < 30)) = true := by rfl)
    (hfew2 : ((backTo cpos2 (starEach [k] X.env)).all (fun x => !x.1) && (backToKw cpos2 (keywordEach [] X.env)).all (fun x => x.1.isSome)
      && decide ([k].length + ([] : List Keyword).length + (if ([] : List Keyword).isEmpty then 0 else 1) < 30)) = true := by rfl)
    (hline : (apos.endLine == cpos.line) = true := by rfl) (hline2 : (apos2.endLine == cpos2.line) = true := by rfl)
    (hs : starEach [.Call (.Attribute (.Name x p) "pop" apos2) [k] [] cpos2] X.env = (false, eval (.Call (.Attribute (.Name x p) "pop" apos2) [k] [] cpos2) X.env) :: starEach [] X.env := by rfl) (hs2 : starEach [k] X.env = (false, eval k X.env) :: starEach [] X.env := by rfl)
    (hsw : swapsWith (.Call (.Attribute (.Name y py) "append" apos) [.Call (.Attribute (.Name x p) "pop" apos2) [k] [] cpos2] [] cpos) none pos.line X.env = pure false := by rfl) :
    PS X (.Expr (.Call (.Attribute (.Name y py) "append" apos) [.Call (.Attribute (.Name x p) "pop" apos2) [k] [] cpos2] [] cpos) pos) (TSt X.K C fr O O Ob (.popA j i ik)) :=
  PSimp (ps_expr (pe_bm PySem.F.plainAttrs_list PySem.F.slot_list_append PySem.F.type_list_append mt_append (pe_var hNj hvj hd2 hcd2) (pa_cons (pe_bm PySem.F.plainAttrs_list PySem.F.slot_list_pop PySem.F.type_list_pop mt_popAt (pe_var hN hv hd hcd) (pa_cons hk pa_nil hs2) hbase2 hfew2 hline2 hs2 rfl) pa_nil hs) hbase hfew hline hs rfl) hsw) fun D σ H ⟨c0, G0, H0, G, c, cup, δ, fl, cup', R, hev, hf⟩ => by
    obtain ⟨kd, c1, h1, h2⟩ := bnd_ok hev
    obtain ⟨ds, h3, h4⟩ := optM_ok h2
    obtain ⟨⟨d, es⟩, h5, h6⟩ := optM_ok h4
    obtain ⟨fs, h7, h8⟩ := optM_ok h6
    have hz : szOk fs.length = true ∧ fl = .next ((δ.set i (some (.lst es))).set j (some (.lst (fs ++ [d])))) ∧ c1 = cup' := by
      have h8 : (if szOk fs.length = true then ret (Flow.next ((δ.set i (some (.lst es))).set j (some (.lst (fs ++ [d]))))) else no) c1 = .ok fl cup' := h8
      split at h8
      · rename_i z
        cases h8
        exact ⟨z, rfl, rfl⟩
      · cases h8
    obtain ⟨hz, rfl, rfl⟩ := hz
    have hδ := lstAt_of h3
    have hδj := lstAt_of h7
    obtain ⟨n, rfl, n0, n1, hn, rfl⟩ := popAt_of h5
    obtain ⟨q, xs, y1, y2, y3, y4, y5⟩ := R.at hi hδ
    obtain ⟨q', xs', z1, z2, z3, z4, z5⟩ := R.at hj hδj
    refine ⟨_, z1, .inl ⟨rfl, xs', SqL.of z3⟩, _, y1, .inl ⟨rfl, xs, SqL.of y3⟩, G, c, cup, δ, R.rel, _, _, h1, fun v k1 G1 H1 e1 r1 => ?_⟩
    have ev : v = V.int n := Sh.int r1
    subst ev
    obtain ⟨qa, xa, a1, a2, a3, a4, a5⟩ := (R.exp e1).at hi hδ
    rw [y1] at a1
    cases a1
    obtain ⟨w, hw, rw'⟩ := a4.get hn
    have hlt : n.toNat < xa.length := (List.getElem?_eq_some_iff.mp hw).1
    have R2 := (R.exp e1).upd hi hδ y1 a2 a3 a5 (a4.eraseIdx n.toNat)
    have hδj' : (δ.set i (some (.lst (ds.eraseIdx n.toNat))))[j]? = some (some (.lst fs)) := by rw [get_set_ne (Ne.symm hij)]; exact hδj
    obtain ⟨qb, xb, b1, b2, b3, b4, b5⟩ := R2.at hj hδj'
    rw [z1] at b1
    cases b1
    refine ⟨q, xa, n, n.toNat, w, rfl, rfl, a3, by omega, by omega, ?_, hw, q', xb, w, rfl, rfl, b3, ?_, ?_⟩
    · exact seqIndex_of n0 (by omega)
    · rw [b4.length]
      exact sz_lt hz
    · exact hf σ k1 G1 _ e1.g e1.cle (R2.upd hj hδj' z1 b2 b3 b5 (b4.append (.cons rw' .nil)))
end
end PF

namespace PF
open PySem PySem.Spec L2 PySem.W
section
variable {X : Cx} {C : Nat → List D → M D} {fr : Bool} {O O1 O' Ob : List Nat} {e : Expr} {ie ik : Ex} {pos apos cpos : Pos} {x : Str} {i : Nat}
/-- x[k] = e, x a list of one's own -/
theorem setD_of {ds es : List D} {k d : D} (h : setD ds k d = some es) : ∃ (n : Int) (j : Nat), k = .int n ∧ ixN ds.length n = some j ∧ es = ds.set j d := by
  cases k <;> first | cases h; done | skip
  rename_i n
  have h : (if 0 ≤ n then (if n.toNat < ds.length then some (ds.set n.toNat d) else none) else if 0 ≤ n + ds.length then some (ds.set (n + ds.length).toNat d) else none) = some es := h
  by_cases h0 : 0 ≤ n
  · rw [if_pos h0] at h
    by_cases h1 : n.toNat < ds.length
    · rw [if_pos h1] at h
      cases h
      exact ⟨n, n.toNat, rfl, by unfold ixN; rw [if_pos h0, if_pos (by omega)], rfl⟩
    · rw [if_neg h1] at h; cases h
  · rw [if_neg h0] at h
    by_cases h1 : 0 ≤ n + ds.length
    · rw [if_pos h1] at h
      cases h
      exact ⟨n, (n + ds.length).toNat, rfl, by unfold ixN; rw [if_neg h0, if_pos (by omega)], rfl⟩
    · rw [if_neg h1] at h; cases h
theorem s_setI {k : Expr} {p spos : Pos} (hi : i ∈ O) (hN : X.N[i]? = some x) (hv : Vis X.env.scope x) (he : PE X e (TX X.K O C (pVal X.K) ie)) (hk : PE X k (TX X.K O C (pArg X.K) ik)) (hd : (x == ("__debug__" : Str)) = false := by decide) (hcd : (x == ("__classdict__" : Str)) = false := by decide)
    (ha : ∀ v, assign (.Subscript (.Name x p) k spos) X.env v = (do
      let ov ← holding [v] (eval (.Name x p) X.env)
      let iv ← holding [v, ov] (eval k X.env)
      standAt spos
      holding [v, ov, iv] (setItem ov iv v)
      release [v, ov, iv] []) := by intro _; rfl)
    (hs : swapsWithSole [.Subscript (.Name x p) k spos] e pos.line X.env = pure false := by rfl) (hw : swappedStores [.Subscript (.Name x p) k spos] e X.env = pure none := by rfl)
    (h1 : (assignEach [.Subscript (.Name x p) k spos] X.env).map (·.2) = [assign (.Subscript (.Name x p) k spos) X.env] := by rfl) :
    PS X (.Assign [.Subscript (.Name x p) k spos] e pos) (TSt X.K C fr O O Ob (.setI i ik ie)) :=
  PSimp (ps_asg he (pg_sub (pe_var hN hv hd hcd) hk set_list ha) hs hw h1) fun D σ H ⟨c0, G0, H0, G, c, cup, δ, fl, cup', R, hev, hf⟩ => by
    obtain ⟨d, c1, h1, h2⟩ := bnd_ok hev
    obtain ⟨kd, c2, h3, h4⟩ := bnd_ok h2
    obtain ⟨ds, h5, h6⟩ := optM_ok h4
    obtain ⟨es, h7, h8⟩ := optM_ok h6
    cases h8
    have hδ := lstAt_of h5
    obtain ⟨n, j, rfl, hj, rfl⟩ := setD_of h7
    obtain ⟨q, xs, y1, y2, y3, y4, y5⟩ := R.at hi hδ
    refine ⟨G, c, cup, δ, R.rel, d, c1, h1, fun v k1 G1 H1 e1 r1 => ⟨_, y1, G1, k1, c1, δ, R.rel.ext e1, _, _, h3, fun u k2 G2 H2 e2 r2 => ?_⟩⟩
    have r1 : Rep X.K G1 k1 v d := r1
    have eu : u = V.int n := Sh.int r2
    subst eu
    have R2 := (R.exp e1).exp e2
    obtain ⟨qa, xa, a1, a2, a3, a4, a5⟩ := R2.at hi hδ
    rw [y1] at a1
    cases a1
    refine ⟨q, xa, n, j, rfl, rfl, a3, by rw [a4.length]; exact hj, ?_⟩
    exact hf σ k2 G2 _ (fun b z w => e2.g b z (e1.g b z w)) (e1.trans e2).cle (R2.upd hi hδ y1 a2 a3 a5 (a4.set ((r1.mono e2.g).cle e2.cle) j))
/-! a dict of one's own takes an item -/
theorem dctAt_of {δ : Env} {kvs : List (D × D)} (h : dctAt δ i = some kvs) : δ[i]? = some (some (.dct kvs)) := by
  unfold dctAt at h
  cases q : δ[i]?.getD none with
  | none => rw [q] at h; cases h
  | some d =>
    rw [q] at h
    cases d <;> cases h
    exact env_get q
theorem lk_map (k : Int) : ∀ {ks : List (Key × HV)} {kvs : List (D × D)}, kvs.map Prod.fst = ks.map (fun p => kD p.1) → (ks.any fun kv => decide (kv.1 = .inl k)) = (lkD kvs k).isSome := fun {ks kvs} h => by
  rw [← lk_val k h, valV_any]
theorem isK_eq (k : Int) (q : Key) : isK k (kD q) = decide (q = .inl k) := by
  cases q with
  | inl j =>
    show decide (j = k) = _
    by_cases e : j = k
    · rw [decide_eq_true e, e]
      simp
    · rw [decide_eq_false e]
      exact (decide_eq_false fun z => e (Sum.inl.inj z)).symm
  | inr x => exact (decide_eq_false fun z => by cases z).symm
theorem put_rel {K : Fg} {G : Hp} {c : Option Addr} {k : Int} {v : HV} {d : D} (hv : Rep K G c v d) : ∀ {ks : List (Key × HV)} {kvs : List (D × D)}, RepL K G c (ks.map Prod.snd) (kvs.map Prod.snd) → kvs.map Prod.fst = ks.map (fun p => kD p.1) →
    OO K G c (.dK (putK ks (.inl k) v)) (.dct (putD kvs k d)) := by
  intro ks kvs r h
  have hk := lk_map k h
  unfold putK putD
  by_cases q : (lkD kvs k).isSome = true
  · rw [if_pos q, if_pos (by rw [hk]; exact q)]
    have key : ∀ {ks : List (Key × HV)} {kvs : List (D × D)}, RepL K G c (ks.map Prod.snd) (kvs.map Prod.snd) → kvs.map Prod.fst = ks.map (fun p => kD p.1) →
        RepL K G c ((ks.map fun kv => if kv.1 = .inl k then (kv.1, v) else kv).map Prod.snd) ((kvs.map fun p => if isK k p.1 then (p.1, d) else p).map Prod.snd) ∧ (kvs.map fun p => if isK k p.1 then (p.1, d) else p).map Prod.fst = (ks.map fun kv => if kv.1 = .inl k then (kv.1, v) else kv).map (fun p => kD p.1) := by
      intro ks
      induction ks with
      | nil =>
        intro kvs r h
        cases kvs with
        | nil => exact ⟨.nil, rfl⟩
        | cons _ _ => cases h
      | cons a ks ih =>
        intro kvs r h
        cases kvs with
        | nil => cases h
        | cons b kvs =>
          have h1 : b.1 = kD a.1 := (List.cons.inj h).1
          cases r with
          | cons r0 r =>
            obtain ⟨i1, i2⟩ := ih r (List.cons.inj h).2
            have e := isK_eq k a.1
            rw [← h1] at e
            rw [List.map_cons, List.map_cons, List.map_cons, List.map_cons, List.map_cons, List.map_cons, e]
            by_cases z : a.1 = .inl k
            · rw [if_pos z, decide_eq_true z, if_pos rfl]
              exact ⟨.cons hv i1, by rw [i2]; exact congrArg (· :: _) h1⟩
            · rw [if_neg z, decide_eq_false z, if_neg (by simp)]
              exact ⟨.cons r0 i1, by rw [i2]; exact congrArg (· :: _) h1⟩
    obtain ⟨k1, k2⟩ := key r h
    exact .dct k1 k2
  · rw [if_neg q, if_neg (by rw [hk]; exact q)]
    refine .dct ?_ ?_
    · rw [List.map_append, List.map_append]
      exact r.append (.cons hv .nil)
    · rw [List.map_append, List.map_append, h]
      rfl
theorem s_putK {k : Expr} {p spos : Pos} (hu : X.A.units + 65 < cLine) (hi : i ∈ O) (hN : X.N[i]? = some x) (hv : Vis X.env.scope x) (he : PE X e (TX X.K O C (pVal X.K) ie)) (hk : PE X k (TX X.K O C (pArg X.K) ik)) (hd : (x == ("__debug__" : Str)) = false := by decide) (hcd : (x == ("__classdict__" : Str)) = false := by decide)
    (hs : swapsWith e (some (.Subscript (.Name x p) k spos)) pos.line X.env = pure false := by rfl) :
    PS X (.Assign [.Subscript (.Name x p) k spos] e pos) (TSt X.K C fr O O Ob (.putK i ik ie)) :=
  PSimp (ps_dput (by omega) (pe_var hN hv hd hcd) hk he hs) fun D σ H ⟨c0, G0, H0, G, c, cup, δ, fl, cup', R, hev, hf⟩ => by
    obtain ⟨d, c1, h1, h2⟩ := bnd_ok hev
    obtain ⟨kd, c2, h3, h4⟩ := bnd_ok h2
    obtain ⟨kvs, h5, h6⟩ := optM_ok h4
    match kd, h3, h6 with
    | .int n, h3, h6 =>
      have hz : szOk kvs.length = true ∧ fl = .next (δ.set i (some (.dct (putD kvs n d)))) ∧ c2 = cup' := by
        have h6 : (if szOk kvs.length = true then ret (Flow.next (δ.set i (some (.dct (putD kvs n d))))) else no) c2 = .ok fl cup' := h6
        split at h6
        · rename_i z
          cases h6
          exact ⟨z, rfl, rfl⟩
        · cases h6
      obtain ⟨hz, rfl, rfl⟩ := hz
      have hδ := dctAt_of h5
      obtain ⟨q, ks, y1, y2, y3, y4, y5, y6⟩ := R.atD hi hδ
      refine ⟨G, c, cup, δ, R.rel, d, c1, h1, fun v k1 G1 H1 e1 r1 => ?_⟩
      have r1 : Rep X.K G1 k1 v d := r1
      have R1 := R.exp e1
      refine ⟨_, y1, G1, k1, c1, δ, R1.rel, _, _, h3, fun u k2 G2 H2 e2 r2 => ?_⟩
      have eu : u = V.int n := Sh.int r2
      subst eu
      have R2 := R1.exp e2
      obtain ⟨qa, ka, a1, a2, a3, a4, a5, a6⟩ := R2.atD hi hδ
      rw [y1] at a1
      cases a1
      have hl : ka.length = kvs.length := by
        have := a4.length
        rw [List.length_map, List.length_map] at this
        exact this
      refine ⟨q, _, rfl, DPut.k (k := .inl n) a3 (by rw [hl]; exact sz_lt hz), ?_⟩
      exact hf σ k2 G2 _ (fun b z w => e2.g b z (e1.g b z w)) (e1.trans e2).cle (R2.updO hi hδ y1 a2 a3 a6 (put_rel ((r1.mono e2.g).cle e2.cle) a4 a5))
theorem CLe.tr {c c1 c2 : Option Addr} (a : CLe c c1) (b : CLe c1 c2) : CLe c c2 := by
  rcases b with z | z
  · exact z ▸ a
  · rcases a with y | y
    · exact .inr (y ▸ z)
    · exact .inr y
theorem s_swp {k k' l : Expr} {ik' il : Ex} {p p' spos spos' : Pos} {tk : Nat} {tpos : Pos} (hc : X.calm = true) (hi : i ∈ O) (hN : X.N[i]? = some x) (hv : Vis X.env.scope x) (he : PE X l (TX X.K O C (pVal X.K) (.tup il))) (hk : PE X k (TX X.K O C (pArg X.K) ik)) (hk' : PE X k' (TX X.K O C (pArg X.K) ik')) (hd : (x == ("__debug__" : Str)) = false := by decide) (hcd : (x == ("__classdict__" : Str)) = false := by decide)
    (hs : swapsWithSole [.Tuple [.Subscript (.Name x p) k spos, .Subscript (.Name x p') k' spos'] tk tpos] l pos.line X.env = pure false := by rfl) (hw : swappedStores [.Tuple [.Subscript (.Name x p) k spos, .Subscript (.Name x p') k' spos'] tk tpos] l X.env = pure none := by rfl)
    (h1 : (assignEach [.Tuple [.Subscript (.Name x p) k spos, .Subscript (.Name x p') k' spos'] tk tpos] X.env).map (·.2) = [assign (.Tuple [.Subscript (.Name x p) k spos, .Subscript (.Name x p') k' spos'] tk tpos) X.env] := by rfl)
    (hn : (assignEach [.Subscript (.Name x p) k spos, .Subscript (.Name x p') k' spos'] X.env).length = 2 := by rfl) (hst : (assignEach [.Subscript (.Name x p) k spos, .Subscript (.Name x p') k' spos'] X.env).findIdx? (·.1) = none := by rfl)
    (hg : PGs X [.Subscript (.Name x p) k spos, .Subscript (.Name x p') k' spos'] (gCons (gSub (tVar i) (TX X.K O C (pArg X.K) ik) rSetL) (gCons (gSub (tVar i) (TX X.K O C (pArg X.K) ik') rSetL) gNil)) := by
      exact pgs_cons (pg_sub (pe_var hN hv hd hcd) hk set_list) (pgs_cons (pg_sub (pe_var hN hv hd hcd) hk' set_list) pgs_nil)) :
    PS X (.Assign [.Tuple [.Subscript (.Name x p) k spos, .Subscript (.Name x p') k' spos'] tk tpos] l pos) (TSt X.K C fr O O Ob (.swp i ik ik' il)) :=
  PSimp (ps_asg he (pg_tup hc hg hn hst) hs hw h1) fun D σ H ⟨c0, G0, H0, G, c, cup, δ, fl, cup', R, hev, hf⟩ => by
    obtain ⟨dd, c1, h1, h2⟩ := bnd_ok hev
    match dd, h1, h2 with
    | .tup [d1, d2], h1, h2 =>
      obtain ⟨kd, c2, h3, h4⟩ := bnd_ok h2
      obtain ⟨ds, h5, h6⟩ := optM_ok h4
      obtain ⟨es, h7, h8⟩ := optM_ok h6
      obtain ⟨kd', c3, h9, h10⟩ := bnd_ok h8
      obtain ⟨fs, h11, h12⟩ := optM_ok h10
      cases h12
      have hδ := lstAt_of h5
      obtain ⟨n, j, rfl, hj, rfl⟩ := setD_of h7
      obtain ⟨n', j', rfl, hj', rfl⟩ := setD_of h11
      obtain ⟨q, xs, y1, y2, y3, y4, y5⟩ := R.at hi hδ
      refine ⟨G, c, cup, δ, R.rel, _, c1, h1, fun v k1 G1 H1 e1 r1 => ?_⟩
      have r1 : Rep X.K G1 k1 v (.tup [d1, d2]) := r1
      have R1 := R.exp e1
      cases r1 with
      | tup hT rr =>
        cases rr with
        | cons ra rr =>
          cases rr with
          | cons rb rr =>
            cases rr
            refine ⟨_, _, rfl, Same.sqT R1.rel.same hT.sqT, rfl, _, _, rfl, ?_⟩
            refine ⟨_, y1, G1, k1, c1, δ, R1.rel, _, _, h3, fun u k2 G2 H2 e2 r2 => ?_⟩
            have eu : u = V.int n := Sh.int r2
            subst eu
            have R2 := R1.exp e2
            obtain ⟨qa, xa, a1, a2, a3, a4, a5⟩ := R2.at hi hδ
            rw [y1] at a1
            cases a1
            refine ⟨q, xa, n, j, rfl, rfl, a3, by rw [a4.length]; exact hj, ?_⟩
            have R3 := R2.upd hi hδ y1 a2 a3 a5 (a4.set ((ra.mono e2.g).cle e2.cle) j)
            have hl : i < δ.length := (List.getElem?_eq_some_iff.mp hδ).1
            have hδ3 : (δ.set i (some (.lst (ds.set j d1))))[i]? = some (some (.lst (ds.set j d1))) := List.getElem?_set_self hl
            refine ⟨_, _, rfl, ?_⟩
            refine ⟨_, y1, G2, k2, c2, _, R3.rel, _, _, h9, fun u k3 G3 H3 e3 r3 => ?_⟩
            have eu : u = V.int n' := Sh.int r3
            subst eu
            have R4 := R3.exp e3
            obtain ⟨qb, xb, b1, b2, b3, b4, b5⟩ := R4.at hi hδ3
            rw [y1] at b1
            cases b1
            refine ⟨q, xb, n', j', rfl, rfl, b3, by rw [b4.length]; exact hj', rfl, ?_⟩
            refine hf σ k3 G3 _ (fun b z w => e3.g b z (e2.g b z (e1.g b z w))) ((e1.trans e2).cle.tr e3.cle) (R4.upd hi hδ3 y1 b2 b3 b5 (b4.set ((((rb.mono e2.g).cle e2.cle).mono e3.g).cle e3.cle) j'))
/-- the cup's ints are changed -/
theorem RelS.cupSet {K : Fg} {c0 : Option Addr} {G0 H0 G H : Hp} {a : Addr} {p p' : Int × Int} {σ : L2.St} {δ : Env} (R : RelS K O c0 G0 H0 G H (some a) (some p) σ δ) : RelS K O c0 G0 H0 G (L2.upd H a (.lst [.int p'.1, .int p'.2])) (some a) (some p') σ δ := by
  obtain ⟨q, e, g, h⟩ := R.rel.cup.at
  cases e
  have sm : Same G (L2.upd H a (.lst [.int p'.1, .int p'.2])) := fun b x q => by
    rw [upd_ne (ne_of_none q g)]
    exact R.rel.same b x q
  have ck : CupOk (some a) (some p') G (L2.upd H a (.lst [.int p'.1, .int p'.2])) := ⟨g, upd_same⟩
  refine ⟨⟨sm, ck, fun j d h => ?_, R.rel.len, R.rel.apart⟩, ⟨R.ext.g, sm, fun b o q hb => ?_, R.ext.f, R.ext.m, ck⟩, R.mine⟩
  · obtain ⟨v, y, z, z'⟩ := R.rel.slot j d h
    refine ⟨v, y, fun w => ?_, z'⟩
    obtain ⟨q, oo, rfl, h1, h2, h3, h4⟩ := z w
    exact ⟨q, oo, rfl, h1, by rw [upd_ne (fun e : q = a => h4 (by rw [e]))]; exact h2, h3, h4⟩
  · rw [upd_ne (fun z : b = a => ?_)]
    · exact R.ext.k b o q hb
    · rcases R.ext.m with m | ⟨m, n⟩
      · exact hb (by rw [z]; exact m.symm)
      · have := n a rfl
        rw [z, this] at q
        cases q
theorem setC_of {δ : Env} {kd d : D} {c2 cup' : Cup} {fl : Flow} (h : (match δ[i]?.getD none, kd, d, c2 with
      | some .cup, .int k, .int v, some p => if k = 0 then Res.ok (Flow.next δ) (some (v, p.2)) else if k = 1 then .ok (.next δ) (some (p.1, v)) else .no
      | _, _, _, _ => .no) = .ok fl cup') : ∃ n m p, δ[i]?.getD none = some D.cup ∧ kd = .int n ∧ d = .int m ∧ c2 = some p ∧ fl = .next δ ∧ ((n = 0 ∧ cup' = some (m, p.2)) ∨ (n = 1 ∧ cup' = some (p.1, m))) := by
  cases q : δ[i]?.getD none with
  | none => rw [q] at h; cases h
  | some z =>
    rw [q] at h
    cases z <;> first | cases h; done | skip
    cases kd with
    | int n =>
      cases d with
      | int m =>
        cases c2 with
        | some p =>
          have h : (if n = 0 then Res.ok (Flow.next δ) (some (m, p.2)) else if n = 1 then .ok (.next δ) (some (p.1, m)) else .no) = .ok fl cup' := h
          by_cases n0 : n = 0
          · rw [if_pos n0] at h
            cases h
            exact ⟨n, m, p, rfl, rfl, rfl, rfl, rfl, .inl ⟨n0, rfl⟩⟩
          · rw [if_neg n0] at h
            by_cases n1 : n = 1
            · rw [if_pos n1] at h
              cases h
              exact ⟨n, m, p, rfl, rfl, rfl, rfl, rfl, .inr ⟨n1, rfl⟩⟩
            · rw [if_neg n1] at h
              cases h
        | none => cases h
      | _ => cases h
    | _ => cases h
theorem s_setC {k : Expr} {p spos : Pos} (hi : i ∉ O) (hN : X.N[i]? = some x) (hv : Vis X.env.scope x) (he : PE X e (TX X.K O C (pArg X.K) ie)) (hk : PE X k (TX X.K O C (pArg X.K) ik)) (hd : (x == ("__debug__" : Str)) = false := by decide) (hcd : (x == ("__classdict__" : Str)) = false := by decide)
    (ha : ∀ v, assign (.Subscript (.Name x p) k spos) X.env v = (do
      let ov ← holding [v] (eval (.Name x p) X.env)
      let iv ← holding [v, ov] (eval k X.env)
      standAt spos
      holding [v, ov, iv] (setItem ov iv v)
      release [v, ov, iv] []) := by intro _; rfl)
    (hs : swapsWithSole [.Subscript (.Name x p) k spos] e pos.line X.env = pure false := by rfl) (hw : swappedStores [.Subscript (.Name x p) k spos] e X.env = pure none := by rfl)
    (h1 : (assignEach [.Subscript (.Name x p) k spos] X.env).map (·.2) = [assign (.Subscript (.Name x p) k spos) X.env] := by rfl) :
    PS X (.Assign [.Subscript (.Name x p) k spos] e pos) (TSt X.K C fr O O Ob (.setC i ik ie)) :=
  PSimp (ps_asg he (pg_sub (pe_var hN hv hd hcd) hk set_list ha) hs hw h1) fun D σ H ⟨c0, G0, H0, G, c, cup, δ, fl, cup', R, hev, hf⟩ => by
    obtain ⟨d, c1, h1, h2⟩ := bnd_ok hev
    obtain ⟨kd, c2, h3, h4⟩ := bnd_ok h2
    have hh := setC_of (δ := δ) (i := i) h4
    obtain ⟨n, m, pp, hδ, rfl, rfl, rfl, rfl, hn⟩ := hh
    obtain ⟨v, y1, _, y2⟩ := R.rel.slot i _ (env_get hδ)
    have y3 := y2 hi
    refine ⟨G, c, cup, δ, R.rel, _, c1, h1, fun w k1 G1 H1 e1 r1 => ⟨v, y1, G1, k1, c1, δ, R.rel.ext e1, _, _, h3, fun u k2 G2 H2 e2 r2 => ?_⟩⟩
    have ew : w = V.int m := Sh.int r1
    have eu : u = V.int n := Sh.int r2
    subst ew eu
    have R2 := (R.exp e1).exp e2
    obtain ⟨a, rfl, hc⟩ : ∃ a, v = .ref a ∧ k2 = some a := by
      obtain ⟨v', y1', _, y2'⟩ := R2.rel.slot i _ (env_get hδ)
      rw [y1] at y1'
      cases y1'
      cases y2' hi with
      | cup q => exact ⟨_, rfl, q⟩
    subst hc
    obtain ⟨q, e, g, h⟩ := R2.rel.cup.at
    cases e
    refine ⟨a, [.int pp.1, .int pp.2], n, n.toNat, rfl, rfl, h, ?_, ?_⟩
    · rcases hn with ⟨rfl, _⟩ | ⟨rfl, _⟩ <;> rfl
    · rcases hn with ⟨rfl, rfl⟩ | ⟨rfl, rfl⟩
      · exact hf σ _ G2 _ (fun b z w => e2.g b z (e1.g b z w)) (e1.trans e2).cle (R2.cupSet (p' := (m, pp.2)))
      · exact hf σ _ G2 _ (fun b z w => e2.g b z (e1.g b z w)) (e1.trans e2).cle (R2.cupSet (p' := (pp.1, m)))
/-! loops -/
theorem s_for {inv : List Nat} {tg iter : Expr} {body : List Stmt} {t : Tg} {it : Ex} {ib : St} (hp : PassesOwn (model X.prog X.w) X.A X.env X.xe) (hc : X.calm = true) (hi : PI X tg iter (TIr X.K inv C false it)) (hg : PG X tg (gT X.K t)) (hb : PSs X body (TSt X.K C fr inv inv inv ib))
    (hp2 : isPair it = true → isTwo t = true) (hO : ∀ i ∈ tgS t, i ∉ inv) (hs : ∀ x, foldedSetIterable iter X.env x = pure x := by intro _; rfl) : PS X (.For tg iter body [] pos) (TSt X.K C fr inv inv Ob (.for_ inv t it ib)) :=
  PSimp (ps_for hp hc hi hg hb hs) fun D σ H ⟨c0, G0, H0, G, c, cup, δ, fl, cup', R, hev, hf⟩ => by
    obtain ⟨x, c1, h1, h2⟩ := bnd_ok hev
    cases x <;> first | cases h2; done | skip
    rename_i ds
    have h2 : forM (fun d δ => optM (setT t d δ) fun δ' => evS C ib δ') ds δ c1 = .ok fl cup' := h2
    refine ⟨G, c, cup, δ, R.rel, ds, c1, h1, fun J k1 G1 H1 e1 jok => ?_⟩
    refine ⟨fun i m σ H => i ≤ ds.length ∧ m = ds.length - i ∧ ∃ G2 c2 cup2 δ2, RelS X.K inv c0 G0 H0 G2 H c2 cup2 σ δ2 ∧ Same G1 G2 ∧ CLe k1 c2 ∧ forM (fun d δ => optM (setT t d δ) fun δ' => evS C ib δ') (ds.drop i) δ2 cup2 = .ok fl cup',
      ⟨_, Nat.zero_le _, rfl, G1, k1, c1, δ, R.exp e1, fun _ _ q => q, .inl rfl, h2⟩, ?_⟩
    rintro i m σ2 H2 ⟨hle, rfl, G2, c2, cup2, δ2, R2, g2, l2, hM⟩
    have fut : Fut false k1 G1 H1 c2 G2 H2 := ⟨g2, R2.rel.same, l2, fun z => by cases z⟩
    by_cases hlt : i < ds.length
    · refine .inr ?_
      have hd : ds[i]? = some ds[i] := List.getElem?_eq_getElem hlt
      generalize ds[i] = d at hd
      obtain ⟨go, yl⟩ := jok.go i d c2 G2 H2 fut hd
      refine ⟨go, ?_⟩
      rw [drop_get hd] at hM
      obtain ⟨f1, c3, hM1, hM2⟩ := bnd_ok hM
      obtain ⟨δ', hset, hM3⟩ := optM_ok hM1
      refine ⟨fun σ' H' => ∃ G3 c4 δ3, f1 = .next δ3 ∧ RelS X.K inv c0 G0 H0 G3 H' c4 c3 σ' δ3 ∧ Same G1 G3 ∧ CLe k1 c4, ?_, ?_⟩
      · rintro σ' H' ⟨G3, c4, δ3, rfl, R3, g3, l3⟩
        exact ⟨ds.length - (i + 1), by omega, hlt, rfl, G3, c4, c3, δ3, R3, g3, l3, hM2⟩
      · intro x H3 hy
        have RW : RelW X.K inv (tgS t) G2 H2 c2 cup2 σ2 δ2 := ⟨σ2, R2.rel, rfl, fun _ _ => rfl⟩
        refine tgt RW (yl x H3 hy) hp2 hO hset fun σ3 R3 hlen hsame x3 => ?_
        have RS : RelS X.K inv c0 G0 H0 G2 H3 c2 cup2 σ3 δ' := ⟨R3, R2.ext.trans x3, fun j hj hdj q hq => by
          have nj : j ∉ tgS t := fun z => hO j z hj
          rw [hsame j nj] at hq
          obtain ⟨d', hd'⟩ := hdj
          have : δ2[j]? = some (some d') := by
            have : δ'[j]? = δ2[j]? := by
              cases t with
              | one a =>
                cases hset
                exact get_set_ne fun z => nj (by simp [tgS, z])
              | two a b =>
                cases d <;> first | cases hset; done | skip
                rename_i es
                match es, hset with
                | [u, v], hset =>
                  cases hset
                  rw [get_set_ne fun z => nj (by simp [tgS, z]), get_set_ne fun z => nj (by simp [tgS, z])]
                | [], hset => cases hset
                | [_], hset => cases hset
                | _ :: _ :: _ :: _, hset => cases hset
              | three a b c' =>
                cases d <;> first | cases hset; done | skip
                rename_i es
                match es, hset with
                | [u, v, w], hset =>
                  cases hset
                  rw [get_set_ne fun z => nj (by simp [tgS, z]), get_set_ne fun z => nj (by simp [tgS, z]), get_set_ne fun z => nj (by simp [tgS, z])]
                | [], hset => cases hset
                | [_], hset => cases hset
                | [_, _], hset => cases hset
                | _ :: _ :: _ :: _ :: _, hset => cases hset
              | many is =>
                cases d <;> first | cases hset; done | skip
                rename_i es
                exact setAll_keep is es _ nj hset
            rw [← this]
            exact hd'
          exact R2.mine j hj ⟨d', this⟩ q hq⟩
        refine ⟨c0, G0, H0, G2, c2, cup2, δ', f1, c3, RS, hM3, ?_⟩
        cases f1 with
        | next δ3 => exact fun σ' c' G' H' g l R' => ⟨G', c', δ3, rfl, R', fun b z w => g b z (g2 b z w), l2.tr l⟩
        | brk δ3 =>
          cases hM2
          exact fun σ' c' G' H' g l R' => hf σ' c' G' H' (fun b z w => g b z (g2 b z (e1.g b z w))) ((e1.cle.tr l2).tr l) R'
        | ret d =>
          cases hM2
          exact hf
    · refine .inl ⟨jok.stop i c2 G2 H2 fut (by omega), ?_⟩
      have hi' : i = ds.length := by omega
      subst hi'
      rw [List.drop_length] at hM
      cases hM
      exact hf σ2 c2 G2 H2 (fun b z w => g2 b z (e1.g b z w)) (e1.cle.tr l2) R2
theorem s_while {inv : List Nat} {cc : Expr} {ic : Ex} {body : List Stmt} {ib : St} (hp : PassesOwn (model X.prog X.w) X.A X.env X.xe) (hc : PT X cc (TT X.K inv C ic)) (hb : PSs X body (TSt X.K C fr inv inv inv ib)) : PS X (.While cc body [] pos) (TSt X.K C fr inv inv Ob (.while_ inv ic ib)) :=
  PSimp (ps_while hp hc hb) fun D σ H ⟨c0, G0, H0, G, c, cup, δ, fl, cup', R, hev, hf⟩ => by
    have hev : whileM (fun δ => evE C ic δ) (fun δ => evS C ib δ) wfuel δ cup = .ok fl cup' := hev
    refine ⟨fun m σ H => ∃ G2 c2 cup2 δ2, RelS X.K inv c0 G0 H0 G2 H c2 cup2 σ δ2 ∧ Same G G2 ∧ CLe c c2 ∧ whileM (fun δ => evE C ic δ) (fun δ => evS C ib δ) m δ2 cup2 = .ok fl cup', ⟨wfuel, G, c, cup, δ, R, fun _ _ q => q, .inl rfl, hev⟩, ?_⟩
    rintro m σ2 H2 ⟨G2, c2, cup2, δ2, R2, g2, l2, hM⟩
    cases m with
    | zero => cases hM
    | succ m =>
      obtain ⟨b, c3, h1, h2⟩ := bnd_ok hM
      rcases truth_ok h2 with ⟨e1, h3⟩ | ⟨e1, h3⟩
      · subst e1
        refine ⟨G2, c2, cup2, δ2, R2.rel, true, c3, h1, fun k1 G3 H3 x1 => iteT ?_⟩
        obtain ⟨f1, c4, h4, h5⟩ := bnd_ok h3
        refine ⟨fun σ' H' => ∃ G4 c5 δ3, f1 = .next δ3 ∧ RelS X.K inv c0 G0 H0 G4 H' c5 c4 σ' δ3 ∧ Same G G4 ∧ CLe c c5, ?_, ?_⟩
        · rintro σ' H' ⟨G4, c5, δ3, rfl, R3, g3, l3⟩
          exact ⟨m, Nat.lt_succ_self m, G4, c5, c4, δ3, R3, g3, l3, h5⟩
        · refine ⟨c0, G0, H0, G3, k1, c3, δ2, f1, c4, R2.exp x1, h4, ?_⟩
          cases f1 with
          | next δ3 => exact fun σ' c' G' H' g l R' => ⟨G', c', δ3, rfl, R', fun b z w => g b z (x1.g b z (g2 b z w)), (l2.tr x1.cle).tr l⟩
          | brk δ3 =>
            cases h5
            exact fun σ' c' G' H' g l R' => hf σ' c' G' H' (fun b z w => g b z (x1.g b z (g2 b z w))) ((l2.tr x1.cle).tr l) R'
          | ret d =>
            cases h5
            exact hf
      · subst e1
        obtain ⟨h4, h5⟩ := ret_ok h3
        subst h4 h5
        exact ⟨G2, c2, cup2, δ2, R2.rel, false, _, h1, fun k1 G3 H3 x1 => iteF (hf σ2 k1 G3 H3 (fun b z w => x1.g b z (g2 b z w)) (l2.tr x1.cle) (R2.exp x1))⟩
end
end PF

namespace PF
open PySem PySem.Spec L2 PySem.W
/-- an item that goes into a slot: as one's own (b), or plain -/
def pPar (b : Bool) (K : Fg) : Pst := match b with
  | true => pNew K
  | false => pVal K
def outO (b : Bool) (i : Nat) (O : List Nat) : List Nat := match b with
  | true => i :: rmv i O
  | false => rmv i O
/-- may be one's own -/
def isOwn (d : D) : Prop := (∃ es, d = .lst es) ∨ ∃ es, d = .dct es
structure Itm (K : Fg) (b : Bool) (H0 G H : Hp) (c : Option Addr) (v : HV) (d : D) : Prop where
  f : b = false → Rep K G c v d
  t : b = true → ∃ p oo, v = .ref p ∧ H0 p = none ∧ G p = none ∧ H p = some oo ∧ OO K G c oo d ∧ c ≠ some p
section
variable {K : Fg} {b b' : Bool} {O : List Nat} {c0 c c' : Option Addr} {G0 H0 G H G' H' : Hp} {cup cup' : Cup} {σ : L2.St} {δ : Env} {v w : HV} {d d' : D} {i j : Nat}
theorem Itm.ext (h : Itm K b H0 G H c v d) (e : Ext c G H c' cup' G' H') : Itm K b H0 G' H' c' v d := ⟨fun z => ((h.f z).mono e.g).cle e.cle, fun z => by
  obtain ⟨p, oo, rfl, h0, hg, hh, r, hc⟩ := h.t z
  have hb : H p ≠ none := fun z => by rw [hh] at z; cases z
  refine ⟨p, oo, rfl, h0, (e.f _ hb).trans hg, e.k _ _ hh hc, (r.mono e.g).cle e.cle, fun q => ?_⟩
  rcases e.m with m | ⟨_, m⟩
  · exact hc (m ▸ q)
  · exact hb (m _ q)⟩
theorem Itm.of (h : pPar b K H c' G' H' v d) (hl : b = true → isOwn d) (h0 : ∀ p, H p = none → H0 p = none) : Itm K b H0 G' H' c' v d := by
  cases b with
  | false => exact ⟨fun _ => h, fun z => by cases z⟩
  | true =>
    refine ⟨fun z => (by cases z), fun _ => ?_⟩
    rcases hl rfl with ⟨es, rfl⟩ | ⟨es, rfl⟩
    · obtain ⟨p, xs, e1, h1, h2, h3, h4, h5⟩ := (show NewR K H c' G' H' v (.lst es) from h)
      exact ⟨p, xs, e1, h0 p h1, h2, h3, h4, h5⟩
    · obtain ⟨p, xs, e1, h1, h2, h3, h4, h5⟩ := (show NewR K H c' G' H' v (.dct es) from h)
      exact ⟨p, xs, e1, h0 p h1, h2, h3, h4, h5⟩
theorem RelS.putI (R : RelS K O c0 G0 H0 G H c cup σ δ) (h : Itm K b H0 G H c v d) (hap : b = true → ∀ p, v = .ref p → ∀ j ∈ O, (∃ d, δ[j]? = some (some d)) → σ[j]? ≠ some (some (.ref p))) : RelS K (outO b i O) c0 G0 H0 G H c cup (σ.set i (some v)) (δ.set i (some d)) := by
  cases b with
  | false => exact R.put (h.f rfl)
  | true =>
    obtain ⟨p, oo, rfl, h0, hg, hh, r, hc⟩ := h.t rfl
    exact R.putO h0 hg hh r hc (hap rfl p rfl)
/-- what is one's own lies in the heap -/
theorem RelS.own_in (R : RelS K O c0 G0 H0 G H c cup σ δ) {p : Addr} (hj : j ∈ O) (hd : ∃ d, δ[j]? = some (some d)) (hs : σ[j]? = some (some (.ref p))) : H p ≠ none := by
  obtain ⟨d, hd⟩ := hd
  obtain ⟨v, a, b, _⟩ := R.rel.slot j d hd
  rw [hs] at a
  cases a
  obtain ⟨q, ys, e1, _, e2, _⟩ := b hj
  cases e1
  rw [e2]
  exact fun z => by cases z
theorem pPar.fresh (h : pPar b K H c' G' H' v d) (hl : b = true → isOwn d) : b = true → ∀ p, v = .ref p → H p = none := by
  intro z p e
  subst z
  rcases hl rfl with ⟨es, rfl⟩ | ⟨es, rfl⟩
  · obtain ⟨q, xs, e1, h1, _⟩ := (show NewR K H c' G' H' v (.lst es) from h)
    rw [e] at e1
    cases e1
    exact h1
  · obtain ⟨q, xs, e1, h1, _⟩ := (show NewR K H c' G' H' v (.dct es) from h)
    rw [e] at e1
    cases e1
    exact h1
theorem outO_mem {i j : Nat} {O : List Nat} (h : j ∈ outO b i O) : (j = i ∧ b = true) ∨ (j ∈ O ∧ j ≠ i) := by
  unfold outO at h
  cases b with
  | true => exact (List.mem_cons.mp h).imp (fun z => ⟨z, rfl⟩) mem_rmv.mp
  | false => exact .inr (mem_rmv.mp h)
end
section
variable {X : Cx} {C : Nat → List D → M D} {fr : Bool} {O O1 O' Ob : List Nat} {a b cc e : Expr} {ia ib ic ie ik : Ex} {pos apos cpos : Pos} {x y z : Str} {i j l : Nat} {b1 b2 b3 : Bool}
theorem ok2 {d d' : D} (h : okL [b1, b2] [d, d'] = true) : (b1 = true → isOwn d) ∧ (b2 = true → isOwn d') := by
  constructor
  · rintro rfl
    cases d <;> first | exact .inl ⟨_, rfl⟩ | exact .inr ⟨_, rfl⟩ | cases h
  · rintro rfl
    cases d' <;> first | exact .inl ⟨_, rfl⟩ | exact .inr ⟨_, rfl⟩ | (cases b1 <;> cases d <;> cases h)
theorem fin2 {K : Fg} {c0 c k1 k2 : Option Addr} {G0 H0 G H G1 H1 G2 H2 : Hp} {cup c2 cup' : Cup} {σ : L2.St} {δ : Env} {v w : HV} {d d' : D} (R : RelS K O c0 G0 H0 G H c cup σ δ) (e1 : Ext c G H k1 c2 G1 H1) (e2 : Ext k1 G1 H1 k2 cup' G2 H2) (r1 : pPar b1 K H k1 G1 H1 v d) (r2 : pPar b2 K H1 k2 G2 H2 w d')
    (o1 : b1 = true → isOwn d) (o2 : b2 = true → isOwn d') : RelS K (outO b2 j (outO b1 i O)) c0 G0 H0 G2 H2 k2 cup' ((σ.set i (some v)).set j (some w)) ((δ.set i (some d)).set j (some d')) := by
  have RS := (R.exp e1).exp e2
  have I1 : Itm K b1 H0 G2 H2 k2 v d := (Itm.of r1 o1 fun p hp => R.ext.none_of hp).ext e2
  have I2 : Itm K b2 H0 G2 H2 k2 w d' := Itm.of r2 o2 fun p hp => (R.exp e1).ext.none_of hp
  have F1 := pPar.fresh r1 o1
  have F2 := pPar.fresh r2 o2
  have S1 := RS.putI (i := i) I1 fun z p e j hj hd hs => absurd (F1 z p e) (R.own_in hj hd hs)
  refine S1.putI (i := j) I2 fun z p e k hk hd hs => ?_
  have hp := F2 z p e
  rcases outO_mem hk with ⟨rfl, hb⟩ | ⟨hk, nk⟩
  · obtain ⟨q, xs, rfl, _, _, hq, _, hcq⟩ := (Itm.of (H0 := H0) r1 o1 fun p hp => R.ext.none_of hp).t hb
    have hl : k < σ.length := by
      have := (List.getElem?_eq_some_iff.mp hs).1
      rw [List.length_set] at this
      exact this
    rw [List.getElem?_set_self hl] at hs
    cases hs
    rw [hq] at hp
    cases hp
  · rw [get_set_ne nk] at hs hd
    exact absurd hp ((R.exp e1).own_in hk hd hs)
theorem s_par2 {px py pt : Pos} {kt k2 : Nat} {pt2 : Pos} (b1 b2 : Bool) (hc : X.calm = true) (hN : X.N.Nodup) (hi : X.N[i]? = some x) (hj : X.N[j]? = some y) (hij : i ≠ j) (hx : X.env.scope.names.lookup x = some .local) (hy : X.env.scope.names.lookup y = some .local)
    (ha : PE X a (TX X.K O C (pPar b1 X.K) ia)) (hb : PE X b (TX X.K O C (pPar b2 X.K) ib)) (hO : outO b2 j (outO b1 i O) = O' := by rfl)
    (hw : swappedStores [.Tuple [.Name x px, .Name y py] kt pt] (.Tuple [a, b] k2 pt2) X.env = pure (some [x, y]) := by rfl)
    (hs : swapsWithSole [.Tuple [.Name x px, .Name y py] kt pt] (.Tuple [a, b] k2 pt2) pos.line X.env = pure false := by rfl)
    (hs1 : starEach [a, b] X.env = (false, eval a X.env) :: starEach [b] X.env := by rfl) (hs2 : starEach [b] X.env = (false, eval b X.env) :: starEach [] X.env := by rfl) :
    PS X (.Assign [.Tuple [.Name x px, .Name y py] kt pt] (.Tuple [a, b] k2 pt2) pos) (TSt X.K C fr O O' Ob (.par [i, j] [b1, b2] (.cons ia (.cons ib .nil)))) :=
  PSimp (ps_par hc hN hi hj hij hx hy (pa_cons ha (pa_cons hb pa_nil hs2) hs1) hw hs) fun D σ H ⟨c0, G0, H0, G, c, cup, δ, fl, cup', R, hev, hf⟩ => by
    obtain ⟨dd, c1, h1, h2⟩ := bnd_ok hev
    cases dd <;> first | cases h2; done | skip
    obtain ⟨d, c2, r, h3, h4, rfl⟩ := cons_ok h1
    obtain ⟨d', c3, r', h5, h6, rfl⟩ := cons_ok h4
    cases h6
    have h2 : (if okL [b1, b2] [d, d'] = true then ret (Flow.next ((δ.set i (some d)).set j (some d'))) else no) c1 = .ok fl cup' := h2
    split at h2
    · rename_i hok
      cases h2
      obtain ⟨o1, o2⟩ := ok2 hok
      subst hO
      refine ⟨G, c, cup, δ, R.rel, d, c2, h3, fun v k1 G1 H1 e1 r1 => ⟨G1, k1, c2, δ, R.rel.ext e1, d', _, h5, fun w k2 G2 H2 e2 r2 => ⟨v, w, rfl, ?_⟩⟩⟩
      exact hf _ k2 G2 H2 (fun b z w => e2.g b z (e1.g b z w)) (e1.trans e2).cle (fin2 R e1 e2 r1 r2 o1 o2)
    · cases h2
theorem ok3 {d d' d'' : D} (h : okL [b1, b2, b3] [d, d', d''] = true) : (b1 = true → isOwn d) ∧ (b2 = true → isOwn d') ∧ (b3 = true → isOwn d'') := by
  refine ⟨?_, ?_, ?_⟩
  · rintro rfl
    cases d <;> first | exact .inl ⟨_, rfl⟩ | exact .inr ⟨_, rfl⟩ | cases h
  · rintro rfl
    cases d' <;> first | exact .inl ⟨_, rfl⟩ | exact .inr ⟨_, rfl⟩ | (cases b1 <;> cases d <;> cases h)
  · rintro rfl
    cases d'' <;> first | exact .inl ⟨_, rfl⟩ | exact .inr ⟨_, rfl⟩ | (cases b1 <;> cases d <;> cases b2 <;> cases d' <;> cases h)
theorem fin3 {K : Fg} {c0 c k1 k2 k3 : Option Addr} {G0 H0 G H G1 H1 G2 H2 G3 H3 : Hp} {cup c2 c3 cup' : Cup} {σ : L2.St} {δ : Env} {v w u : HV} {d d' d'' : D} (R : RelS K O c0 G0 H0 G H c cup σ δ) (e1 : Ext c G H k1 c2 G1 H1) (e2 : Ext k1 G1 H1 k2 c3 G2 H2) (e3 : Ext k2 G2 H2 k3 cup' G3 H3)
    (r1 : pPar b1 K H k1 G1 H1 v d) (r2 : pPar b2 K H1 k2 G2 H2 w d') (r3 : pPar b3 K H2 k3 G3 H3 u d'')
    (o1 : b1 = true → isOwn d) (o2 : b2 = true → isOwn d') (o3 : b3 = true → isOwn d'') :
    RelS K (outO b3 l (outO b2 j (outO b1 i O))) c0 G0 H0 G3 H3 k3 cup' (((σ.set i (some v)).set j (some w)).set l (some u)) (((δ.set i (some d)).set j (some d')).set l (some d'')) := by
  have S2 := (fin2 (i := i) (j := j) R e1 e2 r1 r2 o1 o2).exp e3
  have I1 : Itm K b1 H0 G2 H2 k2 v d := (Itm.of r1 o1 fun p hp => R.ext.none_of hp).ext e2
  have I2 : Itm K b2 H0 G2 H2 k2 w d' := Itm.of r2 o2 fun p hp => (R.exp e1).ext.none_of hp
  have I3 : Itm K b3 H0 G3 H3 k3 u d'' := Itm.of r3 o3 fun p hp => ((R.exp e1).exp e2).ext.none_of hp
  have F3 := pPar.fresh r3 o3
  refine S2.putI (i := l) I3 fun z p e k hk hd hs => ?_
  have hp := F3 z p e
  rcases outO_mem hk with ⟨rfl, hb⟩ | ⟨hk, nk⟩
  · obtain ⟨q, xs, rfl, _, _, hq, _, hcq⟩ := I2.t hb
    have hl : k < σ.length := by
      have := (List.getElem?_eq_some_iff.mp hs).1
      rw [List.length_set, List.length_set] at this
      exact this
    rw [List.getElem?_set_self (by rw [List.length_set]; exact hl)] at hs
    cases hs
    rw [hq] at hp
    cases hp
  · rw [get_set_ne nk] at hs hd
    rcases outO_mem hk with ⟨rfl, hb⟩ | ⟨hk, nk⟩
    · obtain ⟨q, xs, rfl, _, _, hq, _, hcq⟩ := I1.t hb
      have hl : k < σ.length := by
        have := (List.getElem?_eq_some_iff.mp hs).1
        rw [List.length_set] at this
        exact this
      rw [List.getElem?_set_self hl] at hs
      cases hs
      rw [hq] at hp
      cases hp
    · rw [get_set_ne nk] at hs hd
      exact absurd hp (((R.exp e1).exp e2).own_in hk hd hs)
theorem s_par3 {px py pz pt : Pos} {kt k2 : Nat} {pt2 : Pos} (b1 b2 b3 : Bool) (hc : X.calm = true) (hN : X.N.Nodup) (hi : X.N[i]? = some x) (hj : X.N[j]? = some y) (hl : X.N[l]? = some z) (hij : i ≠ j) (hil : i ≠ l) (hjl : j ≠ l) (hx : X.env.scope.names.lookup x = some .local) (hy : X.env.scope.names.lookup y = some .local) (hz : X.env.scope.names.lookup z = some .local)
    (ha : PE X a (TX X.K O C (pPar b1 X.K) ia)) (hb : PE X b (TX X.K O C (pPar b2 X.K) ib)) (hcc : PE X cc (TX X.K O C (pPar b3 X.K) ic)) (hO : outO b3 l (outO b2 j (outO b1 i O)) = O' := by rfl)
    (hw : swappedStores [.Tuple [.Name x px, .Name y py, .Name z pz] kt pt] (.Tuple [a, b, cc] k2 pt2) X.env = pure (some [x, y, z]) := by rfl)
    (hs : swapsWithSole [.Tuple [.Name x px, .Name y py, .Name z pz] kt pt] (.Tuple [a, b, cc] k2 pt2) pos.line X.env = pure false := by rfl)
    (hs1 : starEach [a, b, cc] X.env = (false, eval a X.env) :: starEach [b, cc] X.env := by rfl) (hs2 : starEach [b, cc] X.env = (false, eval b X.env) :: starEach [cc] X.env := by rfl) (hs3 : starEach [cc] X.env = (false, eval cc X.env) :: starEach [] X.env := by rfl) :
    PS X (.Assign [.Tuple [.Name x px, .Name y py, .Name z pz] kt pt] (.Tuple [a, b, cc] k2 pt2) pos) (TSt X.K C fr O O' Ob (.par [i, j, l] [b1, b2, b3] (.cons ia (.cons ib (.cons ic .nil))))) :=
  PSimp (ps_par3 hc hN hi hj hl hij hil hjl hx hy hz (pa_cons ha (pa_cons hb (pa_cons hcc pa_nil hs3) hs2) hs1) hw hs) fun D σ H ⟨c0, G0, H0, G, c, cup, δ, fl, cup', R, hev, hf⟩ => by
    obtain ⟨dd, c1, h1, h2⟩ := bnd_ok hev
    cases dd <;> first | cases h2; done | skip
    obtain ⟨d, c2, r, h3, h4, rfl⟩ := cons_ok h1
    obtain ⟨d', c3, r', h5, h6, rfl⟩ := cons_ok h4
    obtain ⟨d'', c4, r'', h7, h8, rfl⟩ := cons_ok h6
    cases h8
    have h2 : (if okL [b1, b2, b3] [d, d', d''] = true then ret (Flow.next (((δ.set i (some d)).set j (some d')).set l (some d''))) else no) c1 = .ok fl cup' := h2
    split at h2
    · rename_i hok
      cases h2
      obtain ⟨o1, o2, o3⟩ := ok3 hok
      subst hO
      refine ⟨G, c, cup, δ, R.rel, d, c2, h3, fun v k1 G1 H1 e1 r1 => ⟨G1, k1, c2, δ, R.rel.ext e1, d', _, h5, fun w k2 G2 H2 e2 r2 => ⟨G2, k2, c3, δ, (R.rel.ext e1).ext e2, d'', _, h7, fun u k3 G3 H3 e3 r3 => ⟨v, w, u, rfl, ?_⟩⟩⟩⟩
      exact hf _ k3 G3 H3 (fun b z w => e3.g b z (e2.g b z (e1.g b z w))) ((e1.trans e2).trans e3).cle (fin3 R e1 e2 e3 r1 r2 r3 o1 o2 o3)
    · cases h2
/-! the same by a tuple that is made and taken apart (a name of it is no plain local) -/
theorem s_parT2 {e1 e2 : Expr} {pt : Pos} {kt k2 : Nat} {pt2 : Pos} (b1 b2 : Bool) (hc : X.calm = true) (hg1 : PG X e1 (gName i)) (hg2 : PG X e2 (gName j)) (ha : PE X a (TX X.K O C (pPar b1 X.K) ia)) (hb : PE X b (TX X.K O C (pPar b2 X.K) ib)) (hO : outO b2 j (outO b1 i O) = O' := by rfl)
    (hw : swappedStores [.Tuple [e1, e2] kt pt] (.Tuple [a, b] k2 pt2) X.env = pure none := by rfl) (hs : swapsWithSole [.Tuple [e1, e2] kt pt] (.Tuple [a, b] k2 pt2) pos.line X.env = pure false := by rfl)
    (h1 : (assignEach [.Tuple [e1, e2] kt pt] X.env).map (·.2) = [assign (.Tuple [e1, e2] kt pt) X.env] := by rfl) (hn : (assignEach [e1, e2] X.env).length = 2 := by rfl) (hst : (assignEach [e1, e2] X.env).findIdx? (·.1) = none := by rfl)
    (hx1 : (assignEach [e1, e2] X.env).map (·.2) = assign e1 X.env :: (assignEach [e2] X.env).map (·.2) := by rfl) (hx2 : (assignEach [e2] X.env).map (·.2) = assign e2 X.env :: (assignEach [] X.env).map (·.2) := by rfl)
    (hs1 : starEach [a, b] X.env = (false, eval a X.env) :: starEach [b] X.env := by rfl) (hs2 : starEach [b] X.env = (false, eval b X.env) :: starEach [] X.env := by rfl) :
    PS X (.Assign [.Tuple [e1, e2] kt pt] (.Tuple [a, b] k2 pt2) pos) (TSt X.K C fr O O' Ob (.par [i, j] [b1, b2] (.cons ia (.cons ib .nil)))) :=
  PSimp (ps_asg (pe_tup (pa_cons ha (pa_cons hb pa_nil hs2) hs1)) (pg_tup hc (pgs_cons hg1 (pgs_cons hg2 pgs_nil hx2) hx1) hn hst) hs hw h1) fun D σ H ⟨c0, G0, H0, G, c, cup, δ, fl, cup', R, hev, hf⟩ => by
    obtain ⟨dd, c1, h1, h2⟩ := bnd_ok hev
    cases dd <;> first | cases h2; done | skip
    obtain ⟨d, c2, r, h3, h4, rfl⟩ := cons_ok h1
    obtain ⟨d', c3, r', h5, h6, rfl⟩ := cons_ok h4
    cases h6
    have h2 : (if okL [b1, b2] [d, d'] = true then ret (Flow.next ((δ.set i (some d)).set j (some d'))) else no) c1 = .ok fl cup' := h2
    split at h2
    · rename_i hok
      cases h2
      obtain ⟨o1, o2⟩ := ok2 hok
      subst hO
      refine ⟨G, c, cup, δ, R.rel, d, c2, h3, fun v k1 G1 H1 e1 r1 => ⟨G1, k1, c2, δ, R.rel.ext e1, d', _, h5, fun w k2 G2 H2 e2 r2 => ⟨le_size (by simp), fun T hT => ⟨T, [v, w], rfl, SqT.of upd_same, rfl, v, [w], rfl, w, [], rfl, rfl, ?_⟩⟩⟩⟩
      have RS := fin2 (i := i) (j := j) R e1 e2 r1 r2 o1 o2
      exact hf _ k2 G2 _ (fun b z w => e2.g b z (e1.g b z w)) (e1.trans e2).cle (RS.exp (Ext.mine RS.rel.same RS.rel.cup hT))
    · cases h2
theorem s_parT3 {e1 e2 e3 : Expr} {pt : Pos} {kt k2 : Nat} {pt2 : Pos} (b1 b2 b3 : Bool) (hc : X.calm = true) (hg1 : PG X e1 (gName i)) (hg2 : PG X e2 (gName j)) (hg3 : PG X e3 (gName l)) (ha : PE X a (TX X.K O C (pPar b1 X.K) ia)) (hb : PE X b (TX X.K O C (pPar b2 X.K) ib)) (hcc : PE X cc (TX X.K O C (pPar b3 X.K) ic)) (hO : outO b3 l (outO b2 j (outO b1 i O)) = O' := by rfl)
    (hw : swappedStores [.Tuple [e1, e2, e3] kt pt] (.Tuple [a, b, cc] k2 pt2) X.env = pure none := by rfl) (hs : swapsWithSole [.Tuple [e1, e2, e3] kt pt] (.Tuple [a, b, cc] k2 pt2) pos.line X.env = pure false := by rfl)
    (h1 : (assignEach [.Tuple [e1, e2, e3] kt pt] X.env).map (·.2) = [assign (.Tuple [e1, e2, e3] kt pt) X.env] := by rfl) (hn : (assignEach [e1, e2, e3] X.env).length = 3 := by rfl) (hst : (assignEach [e1, e2, e3] X.env).findIdx? (·.1) = none := by rfl)
    (hx1 : (assignEach [e1, e2, e3] X.env).map (·.2) = assign e1 X.env :: (assignEach [e2, e3] X.env).map (·.2) := by rfl) (hx2 : (assignEach [e2, e3] X.env).map (·.2) = assign e2 X.env :: (assignEach [e3] X.env).map (·.2) := by rfl) (hx3 : (assignEach [e3] X.env).map (·.2) = assign e3 X.env :: (assignEach [] X.env).map (·.2) := by rfl)
    (hs1 : starEach [a, b, cc] X.env = (false, eval a X.env) :: starEach [b, cc] X.env := by rfl) (hs2 : starEach [b, cc] X.env = (false, eval b X.env) :: starEach [cc] X.env := by rfl) (hs3 : starEach [cc] X.env = (false, eval cc X.env) :: starEach [] X.env := by rfl) :
    PS X (.Assign [.Tuple [e1, e2, e3] kt pt] (.Tuple [a, b, cc] k2 pt2) pos) (TSt X.K C fr O O' Ob (.par [i, j, l] [b1, b2, b3] (.cons ia (.cons ib (.cons ic .nil))))) :=
  PSimp (ps_asg (pe_tup (pa_cons ha (pa_cons hb (pa_cons hcc pa_nil hs3) hs2) hs1)) (pg_tup hc (pgs_cons hg1 (pgs_cons hg2 (pgs_cons hg3 pgs_nil hx3) hx2) hx1) hn hst) hs hw h1) fun D σ H ⟨c0, G0, H0, G, c, cup, δ, fl, cup', R, hev, hf⟩ => by
    obtain ⟨dd, c1, h1, h2⟩ := bnd_ok hev
    cases dd <;> first | cases h2; done | skip
    obtain ⟨d, c2, r, h3, h4, rfl⟩ := cons_ok h1
    obtain ⟨d', c3, r', h5, h6, rfl⟩ := cons_ok h4
    obtain ⟨d'', c4, r'', h7, h8, rfl⟩ := cons_ok h6
    cases h8
    have h2 : (if okL [b1, b2, b3] [d, d', d''] = true then ret (Flow.next (((δ.set i (some d)).set j (some d')).set l (some d''))) else no) c1 = .ok fl cup' := h2
    split at h2
    · rename_i hok
      cases h2
      obtain ⟨o1, o2, o3⟩ := ok3 hok
      subst hO
      refine ⟨G, c, cup, δ, R.rel, d, c2, h3, fun v k1 G1 H1 e1 r1 => ⟨G1, k1, c2, δ, R.rel.ext e1, d', _, h5, fun w k2 G2 H2 e2 r2 => ⟨G2, k2, c3, δ, (R.rel.ext e1).ext e2, d'', _, h7, fun u k3 G3 H3 e3 r3 => ⟨le_size (by simp), fun T hT => ⟨T, [v, w, u], rfl, SqT.of upd_same, rfl, v, [w, u], rfl, w, [u], rfl, u, [], rfl, rfl, ?_⟩⟩⟩⟩⟩
      have RS := fin3 (i := i) (j := j) (l := l) R e1 e2 e3 r1 r2 r3 o1 o2 o3
      exact hf _ k3 G3 _ (fun b z w => e3.g b z (e2.g b z (e1.g b z w))) ((e1.trans e2).trans e3).cle (RS.exp (Ext.mine RS.rel.same RS.rel.cup hT))
    · cases h2
end
end PF

namespace PF
open PySem PySem.Spec L2 PySem.W
section
variable {X : Cx} {C : Nat → List D → M D} {fr : Bool} {O O1 O' Ob : List Nat} {e : Expr} {ie ik : Ex} {pos apos cpos : Pos} {x y : Str} {i j : Nat}
/-- a target takes a plain value, in a def's state -/
theorem tgtS {K : Fg} {c0 c : Option Addr} {G0 H0 G H : Hp} {cup : Cup} {σ : L2.St} {δ δ' : Env} {t : Tg} {v : HV} {d : D} {Q : L2.St → Hp → Prop} (R : RelS K O c0 G0 H0 G H c cup σ δ) (r : Rep K G c v d) (hO : ∀ i ∈ tgS t, i ∉ O) (hs : setT t d δ = some δ')
    (hQ : ∀ σ', RelS K O c0 G0 H0 G H c cup σ' δ' → Q σ' H) : gT K t v σ H Q := by
  have RW : RelW K O (tgS t) G H c cup σ δ := ⟨σ, R.rel, rfl, fun _ _ => rfl⟩
  refine tgt (pr := false) RW (.inl ⟨rfl, r⟩) (fun z => by cases z) hO hs fun σ3 R3 hlen hsame x3 => hQ σ3 ⟨R3, R.ext, fun j hj hdj q hq => ?_⟩
  have nj : j ∉ tgS t := fun z => hO j z hj
  rw [hsame j nj] at hq
  obtain ⟨v', a, _⟩ := (show ∃ v', σ[j]? = some (some v') ∧ True from ⟨_, hq, trivial⟩)
  refine R.mine j hj ?_ q hq
  obtain ⟨d', hd'⟩ := hdj
  have : δ'[j]? = δ[j]? := by
    cases t with
    | one a =>
      cases hs
      exact get_set_ne fun z => nj (by simp [tgS, z])
    | two a b =>
      cases d <;> first | cases hs; done | skip
      rename_i es
      match es, hs with
      | [u, v], hs =>
        cases hs
        rw [get_set_ne fun z => nj (by simp [tgS, z]), get_set_ne fun z => nj (by simp [tgS, z])]
      | [], hs => cases hs
      | [_], hs => cases hs
      | _ :: _ :: _ :: _, hs => cases hs
    | three a b c' =>
      cases d <;> first | cases hs; done | skip
      rename_i es
      match es, hs with
      | [u, v, w], hs =>
        cases hs
        rw [get_set_ne fun z => nj (by simp [tgS, z]), get_set_ne fun z => nj (by simp [tgS, z]), get_set_ne fun z => nj (by simp [tgS, z])]
      | [], hs => cases hs
      | [_], hs => cases hs
      | [_, _], hs => cases hs
      | _ :: _ :: _ :: _ :: _, hs => cases hs
    | many is =>
      cases d <;> first | cases hs; done | skip
      rename_i es
      exact setAll_keep is es _ nj hs
  exact ⟨d', this ▸ hd'⟩
theorem s_asgT {tg : Expr} {t : Tg} (he : PE X e (TX X.K O C (pVal X.K) ie)) (hg : PG X tg (gT X.K t)) (hO : ∀ i ∈ tgS t, i ∉ O) (hs : swapsWithSole [tg] e pos.line X.env = pure false := by rfl) (hw : swappedStores [tg] e X.env = pure none := by rfl)
    (h1 : (assignEach [tg] X.env).map (·.2) = [assign tg X.env] := by rfl) : PS X (.Assign [tg] e pos) (TSt X.K C fr O O Ob (.asgT t ie)) :=
  PSimp (ps_asg he hg hs hw h1) fun D σ H ⟨c0, G0, H0, G, c, cup, δ, fl, cup', R, hev, hf⟩ => by
    obtain ⟨d, c1, h1, h2⟩ := bnd_ok hev
    obtain ⟨δ', h3, h4⟩ := optM_ok h2
    cases h4
    exact ⟨G, c, cup, δ, R.rel, d, _, h1, fun v k1 G1 H1 e1 r1 => tgtS (R.exp e1) r1 hO h3 fun σ' R' => hf σ' k1 G1 H1 e1.g e1.cle R'⟩
/-- target = xs.pop() -/
theorem s_pop {tg : Expr} {t : Tg} {p : Pos} (hi : i ∈ O) (hN : X.N[i]? = some x) (hv : Vis X.env.scope x) (hg : PG X tg (gT X.K t)) (hO : ∀ i ∈ tgS t, i ∉ O) (hd : (x == ("__debug__" : Str)) = false := by decide) (hcd : (x == ("__classdict__" : Str)) = false := by decide)
    (hbase : attributeBase (.Name x p) "pop" X.env (eval (.Name x p) X.env) = eval (.Name x p) X.env := by rfl) (hline : (apos.endLine == cpos.line) = true := by rfl)
    (hs : swapsWithSole [tg] (.Call (.Attribute (.Name x p) "pop" apos) [] [] cpos) pos.line X.env = pure false := by rfl) (hw : swappedStores [tg] (.Call (.Attribute (.Name x p) "pop" apos) [] [] cpos) X.env = pure none := by rfl)
    (h1 : (assignEach [tg] X.env).map (·.2) = [assign tg X.env] := by rfl) : PS X (.Assign [tg] (.Call (.Attribute (.Name x p) "pop" apos) [] [] cpos) pos) (TSt X.K C fr O O Ob (.pop t i)) :=
  PSimp (ps_asg (pe_bm0 PySem.F.plainAttrs_list PySem.F.slot_list_pop PySem.F.type_list_pop mt_pop (pe_var hN hv hd hcd) hbase hline) hg hs hw h1) fun D σ H ⟨c0, G0, H0, G, c, cup, δ, fl, cup', R, hev, hf⟩ => by
    obtain ⟨ds, h3, h4⟩ := optM_ok hev
    obtain ⟨d, h5, h6⟩ := optM_ok h4
    obtain ⟨δ', h7, h8⟩ := optM_ok h6
    cases h8
    have hδ := lstAt_of h3
    obtain ⟨q, xs, y1, y2, y3, y4, y5⟩ := R.at hi hδ
    have hlast : ds[ds.length - 1]? = some d := by rw [← List.getLast?_eq_getElem?]; exact h5
    obtain ⟨w, hw, rw'⟩ := y4.get hlast
    have R2 := R.upd hi hδ y1 y2 y3 y5 y4.dropLast
    exact ⟨_, y1, .inl ⟨rfl, xs, SqL.of y3⟩, q, xs, w, rfl, rfl, y3, by rw [y4.length]; exact hw, tgtS R2 rw' hO h7 fun σ' R' => hf σ' c G _ (fun _ _ z => z) (.inl rfl) R'⟩
/-- target = xs.pop(k) -/
theorem s_popK {tg : Expr} {t : Tg} {k : Expr} {p : Pos} (hi : i ∈ O) (hN : X.N[i]? = some x) (hv : Vis X.env.scope x) (hk : PE X k (TX X.K O C (pArg X.K) ik)) (hg : PG X tg (gT X.K t)) (hO : ∀ i ∈ tgS t, i ∉ O) (hd : (x == ("__debug__" : Str)) = false := by decide) (hcd : (x == ("__classdict__" : Str)) = false := by decide)
    (hbase : attributeBase (.Name x p) "pop" X.env (eval (.Name x p) X.env) = eval (.Name x p) X.env := by rfl) (hline : (apos.endLine == cpos.line) = true := by rfl)
    (hfew : ((backTo cpos (starEach [k] X.env)).all (fun x => !x.1) && (backToKw cpos (keywordEach [] X.env)).all (fun x => x.1.isSome)
      && decide ([k].length + ([] : List Keyword).length + (if ([] : List Keyword).isEmpty then 0 else 1) < 30)) = true := by rfl) (hs2 : starEach [k] X.env = (false, eval k X.env) :: starEach [] X.env := by rfl)
    (hs : swapsWithSole [tg] (.Call (.Attribute (.Name x p) "pop" apos) [k] [] cpos) pos.line X.env = pure false := by rfl) (hw : swappedStores [tg] (.Call (.Attribute (.Name x p) "pop" apos) [k] [] cpos) X.env = pure none := by rfl)
    (h1 : (assignEach [tg] X.env).map (·.2) = [assign tg X.env] := by rfl) : PS X (.Assign [tg] (.Call (.Attribute (.Name x p) "pop" apos) [k] [] cpos) pos) (TSt X.K C fr O O Ob (.popK t i ik)) :=
  PSimp (ps_asg (pe_bm PySem.F.plainAttrs_list PySem.F.slot_list_pop PySem.F.type_list_pop mt_popAt (pe_var hN hv hd hcd) (pa_cons hk pa_nil hs2) hbase hfew hline hs2 rfl) hg hs hw h1) fun D σ H ⟨c0, G0, H0, G, c, cup, δ, fl, cup', R, hev, hf⟩ => by
    obtain ⟨kd, c1, h1, h2⟩ := bnd_ok hev
    obtain ⟨ds, h3, h4⟩ := optM_ok h2
    obtain ⟨⟨d, es⟩, h5, h6⟩ := optM_ok h4
    obtain ⟨δ', h7, h8⟩ := optM_ok h6
    cases h8
    have hδ := lstAt_of h3
    obtain ⟨n, rfl, n0, n1, hn, rfl⟩ := popAt_of h5
    obtain ⟨q, xs, y1, y2, y3, y4, y5⟩ := R.at hi hδ
    refine ⟨_, y1, .inl ⟨rfl, xs, SqL.of y3⟩, G, c, cup, δ, R.rel, _, _, h1, fun v k1 G1 H1 e1 r1 => ?_⟩
    have ev : v = V.int n := Sh.int r1
    subst ev
    obtain ⟨qa, xa, a1, a2, a3, a4, a5⟩ := (R.exp e1).at hi hδ
    rw [y1] at a1
    cases a1
    obtain ⟨w, hw, rw'⟩ := a4.get hn
    have hlt : n.toNat < xa.length := (List.getElem?_eq_some_iff.mp hw).1
    have R2 := (R.exp e1).upd hi hδ y1 a2 a3 a5 (a4.eraseIdx n.toNat)
    exact ⟨q, xa, n, n.toNat, w, rfl, rfl, a3, by omega, by omega, seqIndex_of n0 (by omega), hw, tgtS R2 rw' hO h7 fun σ' R' => hf σ' k1 G1 _ e1.g e1.cle R'⟩
end
/-! ### defs -/
theorem startR {K : Fg} {G H : Hp} {c : Option Addr} {cup : Cup} {N : List Str} {vs : List HV} {ds : List D} (hs : Same G H) (hc : CupOk c cup G H) (r : RepL K G c vs ds) : RelS K [] c G H G H c cup (L2.start N vs) (ds.map some ++ List.replicate (N.length - ds.length) none) := by
  refine ⟨⟨hs, hc, fun i d h => ?_, ?_, fun i j p hi => by cases hi⟩, Ext.refl hs hc, fun i hi => by cases hi⟩
  · have hl := r.length
    have hi : i < ds.length := by
      by_cases hi : i < ds.length
      · exact hi
      · rw [List.getElem?_append_right (by simpa using hi), List.getElem?_replicate] at h
        split at h <;> cases h
    rw [List.getElem?_append_left (by simpa using hi), List.getElem?_map] at h
    cases q : ds[i]? with
    | none => rw [q] at h; cases h
    | some d' =>
      rw [q] at h
      cases h
      obtain ⟨v, h1, h2⟩ := r.get q
      refine ⟨v, ?_, fun z => absurd z (by simp), fun _ => h2⟩
      unfold L2.start
      rw [List.getElem?_append_left (by simpa [hl] using hi), List.getElem?_map, h1]
      rfl
  · unfold L2.start
    rw [List.length_append, List.length_append, List.length_map, List.length_map, List.length_replicate, List.length_replicate, r.length]
/-- a def by its body -/
theorem fn_pf {P : Program} {w : World} {K : Fg} {mg : Str → Option Value} {base : Heap} {x qual : Str} {params : Arguments} {body : List Stmt} {scope : Scope} {kws : List (Str × V)} {f : Addr} {fd : FuncData} {N ps : List Str} {n : Nat} {m : List D → M D} {C : Nat → List D → M D} {fr : Bool} {O' : List Nat} {F : Fn}
    (Fd : FunD K x qual params body scope [] kws f fd) (S : FnScope N ps scope) (hm : ∀ ds, m ds = runF C F ds) (hps : F.ps.length = ps.length) (hN : F.N.length = N.length)
    (hb : ∀ (cdv : Value) (A : Around) (outer : List PySem.Env) (s : Shared) (H : Hp) (E : XK), Room n (A.deeper (PyProof.Rows.envOfC qual scope s.heap.objs.size f cdv)) →
      PSs (cxOf CX0 P w K mg base N qual scope f cdv A outer s H E).nox body (TSt K C fr [] O' [] F.body)) : FnOk P w K mg base CX0 (n + 1) f fd ps (SpJ K fr m ps.length) := by
  refine Fd.ok S (fun vs H Q E h => ?_) (fun cdv A outer s H vs Q E hr h => ⟨_, PSs.nox (hb cdv A outer s H E hr), ?_⟩)
  · obtain ⟨_, _, _, _, _, _, _, _, _, h, _⟩ := h
    exact h
  · obtain ⟨G, c, cup, ds, d, cup', hs, hc, r, hl, he, hq⟩ := h
    rw [hm] at he
    have he : (if ds.length = F.ps.length then bnd (evS C F.body (ds.map some ++ List.replicate (F.N.length - ds.length) none)) fun fl => match fl with
      | .ret d => ret d
      | .next _ => ret .non
      | .brk _ => no
      else no) cup = .ok d cup' := he
    have hlen : ds.length = F.ps.length := by rw [hps, ← hl, r.length]
    rw [if_pos hlen, hN] at he
    obtain ⟨fl, c1, h1, h2⟩ := bnd_ok he
    refine ⟨c, G, H, G, c, cup, _, fl, c1, startR hs hc r, h1, ?_⟩
    cases fl with
    | ret d' =>
      cases h2
      exact fun v c' G' H' e p => hq v c' G' H' e p
    | next δ' =>
      cases h2
      intro σ' c' G' H' _ _ R'
      refine hq .non c' G' H' R'.ext ?_
      cases fr <;> exact Rep.non
    | brk δ' => cases h2
theorem FnOk.none {P : Program} {w : World} {K : Fg} {mg : Str → Option Value} {base : Heap} {f : Addr} {fd : FuncData} {ps : List Str} {fr : Bool} {n : Nat} {m : List D → M D} {k : Nat} (hm : ∀ ds c d c', m ds c ≠ .ok d c') : FnOk P w K mg base CX0 n f fd ps (SpJ K fr m k) :=
  ⟨fun vs H Q E h => by obtain ⟨_, _, _, _, _, _, _, _, _, _, h, _⟩ := h; exact absurd h (hm _ _ _ _), fun A outer s H args us vs Q E _ _ _ _ h => by obtain ⟨_, _, _, _, _, _, _, _, _, _, h, _⟩ := h; exact absurd h (hm _ _ _ _)⟩
theorem bnd_of {α β : Type} {m : M α} {f : α → M β} {c c' : Cup} {a : α} (h : m c = .ok a c') : bnd m f c = f a c' := by unfold bnd; rw [h]
theorem ev_cons {C : Nat → List D → M D} {a r : Ex} {δ : Env} {c c1 c2 : Cup} {x : D} {l : List D} (h1 : evE C a δ c = .ok x c1) (h2 : evE C r δ c1 = .ok (.tup l) c2) : evE C (.cons a r) δ c = .ok (.tup (x :: l)) c2 := by
  rw [evE, bnd_of h1, bnd_of h2]
  rfl
theorem evS_asg {C : Nat → List D → M D} {i : Nat} {e : Ex} {δ : Env} {c c' : Cup} {d : D} (h : evE C e δ c = .ok d c') : evS C (.asg i e) δ c = .ok (.next (δ.set i (some d))) c' := by
  rw [evS, bnd_of h]
  rfl
theorem evS_seq {C : Nat → List D → M D} {a b : St} {δ δ' : Env} {c c' : Cup} (h : evS C a δ c = .ok (.next δ') c') : evS C (.seq a b) δ c = evS C b δ' c' := by rw [evS, bnd_of h]
theorem evS_ret {C : Nat → List D → M D} {e : Ex} {δ : Env} {c c' : Cup} {d : D} (h : evE C e δ c = .ok d c') : evS C (.ret e) δ c = .ok (.ret d) c' := by
  rw [evS, bnd_of h]
  rfl
/-! ### the cup -/
def cupFn : Fn := ⟨"_law_cup", ["script"], ["script", "cell"], true,
  .seq (.asg 1 (.b1 .abs (.idx (.op2 .add (.b1 .list (.var 0)) (.lst (.cons (.cI 0) .nil))) (.cI 0))))
    (.ret (.lst (.cons (.ite (.op2 .ge (.var 1) (.op2 .pow (.cI 10) (.cI 18))) (.op2 .fdiv (.var 1) (.cI 73)) (.cI 0))
      (.cons (.op2 .add (.op2 .mod (.b1 .int (.op2 .add (.op2 .mul (.var 1) (.cI 283)) (.cI 3907))) (.cI 2077503167)) (.cI 167)) .nil))))⟩
theorem at0 (ns : List Int) : atD (ns.map D.int ++ [.int 0]) 0 = some (.int (ns.headD 0)) := by
  cases ns <;> rfl
theorem mul_ok (a : Int) : mulOk a 283 = true := by
  unfold mulOk
  rw [show (decide (-(2 ^ 64) < (283 : Int)) && decide ((283 : Int) < 2 ^ 64)) = true by decide]
  simp
theorem ev_cup {C : Nat → List D → M D} {ns : List Int} (hz : szOk (ns.length + 1) = true) : runF C cupFn [.scr ns] none = .ok (.lst [.int (cupOf ns).1, .int (cupOf ns).2]) none := by
  have hz' : szOk ((ns.map D.int).length + [D.int 0].length) = true := by rw [List.length_map]; exact hz
  have e1 : evE C (.b1 .abs (.idx (.op2 .add (.b1 .list (.var 0)) (.lst (.cons (.cI 0) .nil))) (.cI 0))) [some (.scr ns), none] none = .ok (.int (if ns.headD 0 < 0 then -(ns.headD 0) else ns.headD 0)) none := by
    simp only [evE, bnd, lift, ret, unT, List.getElem?_cons_zero, Option.getD_some, b1D, op2D, hz', if_true, idxM, idxD, at0]
  show bnd (evS C cupFn.body [some (.scr ns), none]) _ none = _
  generalize hc : (if ns.headD 0 < 0 then -(ns.headD 0) else ns.headD 0) = cell
  have ec : cupOf ns = (if 10 ^ 18 ≤ cell then cell / 73 else 0, (cell * 283 + 3907) % 2077503167 + 167) := by rw [← hc]; rfl
  rw [ec]
  have e2 : evE C (.op2 .ge (.var 1) (.op2 .pow (.cI 10) (.cI 18))) [some (.scr ns), some (.int cell)] none = .ok (.bl (decide ((10 : Int) ^ 18 ≤ cell))) none := rfl
  have e3 : evE C (.op2 .add (.op2 .mod (.b1 .int (.op2 .add (.op2 .mul (.var 1) (.cI 283)) (.cI 3907))) (.cI 2077503167)) (.cI 167)) [some (.scr ns), some (.int cell)] none = .ok (.int ((cell * 283 + 3907) % 2077503167 + 167)) none := by
    simp only [evE, bnd, lift, ret, List.getElem?_cons_succ, List.getElem?_cons_zero, Option.getD_some, op2D, mul_ok, if_true, b1D]
    rw [if_pos (by decide)]
  have e4 : evE C (.op2 .fdiv (.var 1) (.cI 73)) [some (.scr ns), some (.int cell)] none = .ok (.int (cell / 73)) none := rfl
  have e5 : evE C (.lst (.cons (.ite (.op2 .ge (.var 1) (.op2 .pow (.cI 10) (.cI 18))) (.op2 .fdiv (.var 1) (.cI 73)) (.cI 0))
      (.cons (.op2 .add (.op2 .mod (.b1 .int (.op2 .add (.op2 .mul (.var 1) (.cI 283)) (.cI 3907))) (.cI 2077503167)) (.cI 167)) .nil))) [some (.scr ns), some (.int cell)] none
      = .ok (.lst [.int (if 10 ^ 18 ≤ cell then cell / 73 else 0), .int ((cell * 283 + 3907) % 2077503167 + 167)]) none := by
    have e6 : evE C (.ite (.op2 .ge (.var 1) (.op2 .pow (.cI 10) (.cI 18))) (.op2 .fdiv (.var 1) (.cI 73)) (.cI 0)) [some (.scr ns), some (.int cell)] none = .ok (.int (if 10 ^ 18 ≤ cell then cell / 73 else 0)) none := by
      rw [evE, bnd_of e2]
      by_cases h : (10 : Int) ^ 18 ≤ cell
      · rw [decide_eq_true h, if_pos h]
        exact e4
      · rw [decide_eq_false h, if_neg h]
        rfl
    have e7 := ev_cons (C := C) e6 (ev_cons (C := C) e3 (show evE C .nil [some (.scr ns), some (.int cell)] none = .ok (.tup []) none from rfl))
    rw [evE, bnd_of e7]
    rfl
  rw [hc] at e1
  have e8 : evS C cupFn.body [some (.scr ns), none] none = .ok (.ret (.lst [.int (if 10 ^ 18 ≤ cell then cell / 73 else 0), .int ((cell * 283 + 3907) % 2077503167 + 167)])) none := (evS_seq (evS_asg e1)).trans (evS_ret e5)
  rw [bnd_of e8]
  rfl
theorem fn_cup {P : Program} {w : World} {K : Fg} {mg : Str → Option Value} {base : Heap} {f : Addr} {fd : FuncData} {ps : List Str} {n k : Nat} {C : Nat → List D → M D} {Φ : Nat → Option Fn} (h0 : Φ 0 = none) (F : FnOk P w K mg base CX0 k f fd ps (SpJ K true (runF C cupFn) 1)) : FnOk P w K mg base CX0 k f fd ps (SpJ K false (callN Φ (n + 1) 0) 1) := by
  refine F.imp fun vs H Q E ⟨G, c, cup, ds, d, cup', hs, hc, r, hl, he, hq⟩ => ?_
  have hd : ∃ ns, ds = [.scr ns] ∧ cup = none ∧ szOk (ns.length + 1) = true ∧ d = .cup ∧ cup' = some (cupOf ns) := by
    have other : callN Φ (n + 1) 0 ds = (match Φ 0 with | some fn => runF (callN Φ n) fn ds | none => no) → False := fun z => by
      rw [z, h0] at he
      cases he
    match ds, other with
    | [.scr ns], _ =>
      have he : (match cup with | none => if szOk (ns.length + 1) = true then Res.ok D.cup (some (cupOf ns)) else .no | some _ => .no) = .ok d cup' := he
      cases cup with
      | some _ => cases he
      | none =>
        have he : (if szOk (ns.length + 1) = true then Res.ok D.cup (some (cupOf ns)) else .no) = .ok d cup' := he
        split at he
        · rename_i z
          cases he
          exact ⟨ns, rfl, rfl, z, rfl, rfl⟩
        · cases he
    | [], o => exact (o rfl).elim
    | [.non], o => exact (o rfl).elim
    | [.bl _], o => exact (o rfl).elim
    | [.int _], o => exact (o rfl).elim
    | [.str _], o => exact (o rfl).elim
    | [.tup _], o => exact (o rfl).elim
    | [.lst _], o => exact (o rfl).elim
    | [.dct _], o => exact (o rfl).elim
    | [.cup], o => exact (o rfl).elim
    | a :: b :: l, o => exact (o (by cases a <;> rfl)).elim
  obtain ⟨ns, rfl, rfl, hz, rfl, rfl⟩ := hd
  have hcn : c = none := by
    cases c with
    | none => rfl
    | some a => exact hc.elim
  subst hcn
  refine ⟨G, none, none, [.scr ns], _, none, hs, hc, r, hl, ev_cup hz, fun v c' G' H' e p => ?_⟩
  obtain ⟨q, oo, rfl, h1, h2, h3, h4, h5⟩ := (show NewR K H c' G' H' v (.lst [.int (cupOf ns).1, .int (cupOf ns).2]) from p)
  obtain ⟨xs, rfl, h6⟩ := h4.isLst
  have hxs : xs = [.int (cupOf ns).1, .int (cupOf ns).2] := by
    cases h6 with
    | cons a b =>
      cases a
      cases b with
      | cons a b =>
        cases a
        cases b
        rfl
  subst hxs
  refine hq _ (some q) G' H' ⟨e.g, e.h, fun b o z _ => e.k b o z (fun y => by cases y), e.f, .inr ⟨rfl, fun b z => by cases z; exact h1⟩, ⟨h2, h3⟩⟩ (Rep.cup rfl)
/-! ### words for a program that prints proofs -/
section
variable {X : Cx} {O : List Nat} {C : Nat → List D → M D} {a b c0 : Expr} {ia ib ic : Ex} {pos : Pos} {x : Str}
theorem sx_int {i : Int} {j : Nat} : PE X (.Constant (.int i) j pos) (TX X.K O C (pNew X.K) (.cI i)) := sx_const (d := .int i) pe_int (fun _ _ _ => Rep.int i) fun _ _ => rfl
theorem sx_bl {b : Bool} {j : Nat} : PE X (.Constant (.bool b) j pos) (TX X.K O C (pNew X.K) (.cB b)) := sx_const (d := .bl b) pe_bl (fun _ _ _ => Rep.bl b) fun _ _ => rfl
theorem sx_non {j : Nat} : PE X (.Constant .none j pos) (TX X.K O C (pNew X.K) .cN) := sx_const (d := .non) pe_non (fun _ _ _ => Rep.non) fun _ _ => rfl
theorem sx_str {s : Sx} {j : Nat} : PE X (.Constant (.str s) j pos) (TX X.K O C (pNew X.K) (.cS s)) := sx_const (d := .str s) pe_str (fun _ _ _ => Rep.str s) fun _ _ => rfl
theorem sx_gint {i : Int} (hg : Gl X x) (hm : ∃ t, X.mg x = some (.int i t)) (hd : (x == ("__debug__" : Str)) = false := by decide) : PE X (.Name x pos) (TX X.K O C (pNew X.K) (.cI i)) := by
  obtain ⟨t, hm⟩ := hm
  exact sx_const (d := .int i) (pe_glob (v := .int i) hg hm ⟨t, rfl⟩ hd) (fun _ _ _ => Rep.int i) fun _ _ => rfl
theorem sx_iteN (hc : PT X c0 (TT X.K O C ic)) (ha : PE X a (TX X.K O C (pNew X.K) ia)) (hb : PE X b (TX X.K O C (pNew X.K) ib)) : PE X (.IfExp c0 a b pos) (TX X.K O C (pNew X.K) (.ite ic ia ib)) := sx_ite (P := pNew X.K) (fun e _ _ _ _ _ h => NewR.back e h) hc ha hb
theorem sx_iteV (hc : PT X c0 (TT X.K O C ic)) (ha : PE X a (TX X.K O C (pVal X.K) ia)) (hb : PE X b (TX X.K O C (pVal X.K) ib)) : PE X (.IfExp c0 a b pos) (TX X.K O C (pVal X.K) (.ite ic ia ib)) := sx_ite (fun _ _ _ _ _ _ h => h) hc ha hb
theorem sx_iteA (hc : PT X c0 (TT X.K O C ic)) (ha : PE X a (TX X.K O C (pArg X.K) ia)) (hb : PE X b (TX X.K O C (pArg X.K) ib)) : PE X (.IfExp c0 a b pos) (TX X.K O C (pArg X.K) (.ite ic ia ib)) := sx_ite (fun _ _ _ _ _ _ h => h) hc ha hb
theorem st_new (h : PE X a (TX X.K O C (pNew X.K) ia)) (he : ∀ whole, isTrue a X.env whole = (do let v ← whole; standAt a.pos; holding [v] (truthy v)) := by intro _; rfl) : PT X a (TT X.K O C ia) := st_val h he
theorem st_ar (h : PE X a (TX X.K O C (pArg X.K) ia)) (he : ∀ whole, isTrue a X.env whole = (do let v ← whole; standAt a.pos; holding [v] (truthy v)) := by intro _; rfl) : PT X a (TT X.K O C ia) := st_arg h he
end
/-- every def is there and keeps its promise -/
def CalP (P : Program) (w : World) (K : Fg) (mg : Str → Option Value) (base : Heap) (n : Nat) (x : Str) (k : Nat) (fr : Bool) (m : List D → M D) : Prop :=
  ∃ f fd ps, FnOk P w K mg base CX0 n f fd ps (SpJ K fr m k) ∧ ps.length = k ∧ mg x = some (.ref f) ∧ PySem.W.keepIn K (.ref f) = true ∧ Binds K fd ps []
theorem callN_at {Φ : Nat → Option Fn} {j n : Nat} {F : Fn} (h : Φ j = some F) (hj : Nat.beq j 0 = false) (ds : List D) : callN Φ (n + 1) j ds = runF (callN Φ n) F ds := by
  cases j with
  | zero => cases hj
  | succ j =>
    have e : callN Φ (n + 1) (j + 1) ds = (match Φ (j + 1) with | some fn => runF (callN Φ n) fn ds | none => no) := by cases ds <;> rfl
    rw [e, h]
theorem sx_dNew {X : Cx} {O : List Nat} {C : Nat → List D → M D} {pos : Pos} : PE X (.Dict [] [] pos) (TX X.K O C (pNew X.K) .dNew) := PEimp pe_dnewK fun σ H Q ⟨G, c, cup, δ, R, d, cup', he, hq⟩ p hp => by
  cases he
  exact hq _ c G _ (Ext.mine R.same R.cup hp) (show NewR X.K H c G _ (.ref p) (.dct []) from .of_OO hp (free_of R.same hp) upd_same (.dct .nil rfl) (R.cup.ne hp))
theorem room65 {n : Nat} {A : Around} (r : Room n A) : A.units + 65 < cLine := by
  have := r.un
  omega
theorem calP0 {P : Program} {w : World} {K : Fg} {mg : Str → Option Value} {base : Heap} {x qual : Str} {params : Arguments} {body : List Stmt} {scope : Scope} {kws : List (Str × V)} {f : Addr} {Φ : Nat → Option Fn} {j k : Nat} {fr : Bool} {ps : List Str}
    (F : ∃ fd, FunD K x qual params body scope [] kws f fd) (hg : mg x = some (.ref f)) (hk : ps.length = k)
    (hb : ∀ (kV doc pm : Value) (an : Option Addr) (cdv ct : Value) (us : List Value), us.length = ps.length → bindArgs (PySem.W.fnOf x qual params body scope .none kV doc pm an cdv ct) ⟨us, []⟩ = pure (ps.zip us)) : CalP P w K mg base 0 x k fr (callN Φ 0 j) := by
  obtain ⟨fd, F⟩ := F
  exact ⟨f, fd, ps, FnOk.none (fun _ _ _ _ h => (by cases h)), hk, hg, F.kp, F.bindsN hb⟩
theorem calP_of {P : Program} {w : World} {K : Fg} {mg : Str → Option Value} {base : Heap} {x qual : Str} {params : Arguments} {body : List Stmt} {scope : Scope} {kws : List (Str × V)} {f : Addr} {Φ : Nat → Option Fn} {n j k : Nat} {fr : Bool} {N ps : List Str} {G : Fn} {O' : List Nat}
    (F : ∃ fd, FunD K x qual params body scope [] kws f fd) (hg : mg x = some (.ref f)) (hk : ps.length = k) (S : FnScope N ps scope) (hΦ : Φ j = some G) (hj : Nat.beq j 0 = false) (hps : G.ps.length = ps.length) (hN : G.N.length = N.length)
    (hb : ∀ (kV doc pm : Value) (an : Option Addr) (cdv ct : Value) (us : List Value), us.length = ps.length → bindArgs (PySem.W.fnOf x qual params body scope .none kV doc pm an cdv ct) ⟨us, []⟩ = pure (ps.zip us))
    (body_ok : ∀ (cdv : Value) (A : Around) (outer : List PySem.Env) (s : Shared) (H : Hp) (E : XK), Room n (A.deeper (PyProof.Rows.envOfC qual scope s.heap.objs.size f cdv)) →
      PSs (cxOf CX0 P w K mg base N qual scope f cdv A outer s H E).nox body (TSt K (callN Φ n) fr [] O' [] G.body)) : CalP P w K mg base (n + 1) x k fr (callN Φ (n + 1) j) := by
  obtain ⟨fd, F⟩ := F
  subst hk
  exact ⟨f, fd, ps, fn_pf F S (callN_at hΦ hj) hps hN body_ok, rfl, hg, F.kp, F.bindsN hb⟩
theorem calP_cup {P : Program} {w : World} {K : Fg} {mg : Str → Option Value} {base : Heap} {x qual : Str} {params : Arguments} {body : List Stmt} {scope : Scope} {kws : List (Str × V)} {f : Addr} {Φ : Nat → Option Fn} {n : Nat} {O' : List Nat}
    (F : ∃ fd, FunD K x qual params body scope [] kws f fd) (hg : mg x = some (.ref f)) (S : FnScope ["script", "cell"] ["script"] scope) (hΦ : Φ 0 = none)
    (hb : ∀ (kV doc pm : Value) (an : Option Addr) (cdv ct : Value) (us : List Value), us.length = ["script"].length → bindArgs (PySem.W.fnOf x qual params body scope .none kV doc pm an cdv ct) ⟨us, []⟩ = pure ((["script"] : List Str).zip us))
    (body_ok : ∀ (cdv : Value) (A : Around) (outer : List PySem.Env) (s : Shared) (H : Hp) (E : XK), Room n (A.deeper (PyProof.Rows.envOfC qual scope s.heap.objs.size f cdv)) →
      PSs (cxOf CX0 P w K mg base ["script", "cell"] qual scope f cdv A outer s H E).nox body (TSt K (callN Φ n) true [] O' [] cupFn.body)) : CalP P w K mg base (n + 1) x 1 false (callN Φ (n + 1) 0) := by
  obtain ⟨fd, F⟩ := F
  exact ⟨f, fd, ["script"], fn_cup hΦ (fn_pf F S (fun _ => rfl) rfl rfl body_ok), rfl, hg, F.kp, F.bindsN hb⟩
/-- the law's end -/
theorem law_end {P : Program} {w : World} {K : Fg} {mg : Str → Option Value} {h : Heap} {x qual : Str} {params : Arguments} {body : List Stmt} {scope : Scope} {kws : List (Str × V)} {fa f : Addr} {levels most : Nat} {fr : Bool} {m : List D → M D}
    (Fd : ∃ fd, FunD K x qual params body scope [] kws f fd) (hg : mg x = some (.ref f)) (hmg : mg x = some (.ref fa)) (KX : K.In h)
    (hb : ∀ (kV doc pm : Value) (an : Option Addr) (cdv ct : Value) (us : List Value), us.length = ["script"].length → bindArgs (PySem.W.fnOf x qual params body scope .none kV doc pm an cdv ct) ⟨us, []⟩ = pure ((["script"] : List Str).zip us))
    (ok : ∀ (base : Heap) (fd : FuncData), FunD K x qual params body scope [] kws f fd → FnOk P w K mg base CX0 levels f fd ["script"] (SpJ K fr m 1)) (true_ : ∀ ns : List Int, ns.length ≤ most → ∃ c, m [.scr ns] none = .ok (.bl true) c) :
    ∃ (K : PySem.W.Frag) (fd : FuncData) (sp : Sp), K.In h ∧ (∀ (s : Shared) (u : Value), BindsTo s fd ⟨[u], []⟩ [(("script" : Str), u)]) ∧
        (∀ (H : Hp) (a : Addr) (ns : List Int), ns.length ≤ most → Only H → SqL K H a (ns.map V.int) → sp [.ref a] H (fun v _ => v = .bl true) fun _ _ _ => False) ∧
        ∀ base : Heap, K.In base → base.Ns mainGlobals mg → FnOk P w K mg base CX0 levels fa fd ["script"] sp := by
  obtain ⟨fd, F⟩ := Fd
  rw [hg] at hmg
  cases hmg
  have bA := FunD.bindsA (ps := ["script"]) F hb
  refine ⟨K, fd, SpJ K fr m 1, KX, fun s u => bA s [u] rfl, fun H a ns hl hO hS => ?_, fun base _ _ => ?_⟩
  · obtain ⟨c, hc⟩ := true_ ns hl
    refine ⟨H, none, none, [.scr ns], .bl true, c, fun _ _ q => q, trivial, .cons (.scr hS) .nil, rfl, hc, fun v c' G' H' e p => ?_⟩
    have r : Rep K G' c' v (.bl true) := by
      cases fr with
      | true => exact p
      | false => exact p
    cases r
    rfl
  · exact ok base fd F
end PF

/-! PF21: len(set(..)), sorted(set(..)) of ints; dict([(k, v) ..]) by ints, d[k] -/
namespace PF
open PySem PySem.Spec L2 PyProof.Rows
theorem ddI_first (ns : List Int) : PyProof.Rows.firstMet (fun i => ns.getD i 0) ns.length = ddI [] ns := by
  unfold PyProof.Rows.firstMet ddI
  have e : (List.range ns.length).map (fun i => ns.getD i 0) = ns := List.ext_getElem (by simp) fun i h1 h2 => by
    rw [List.getElem_map, List.getElem_range, List.getD_eq_getElem?_getD, List.getElem?_eq_getElem h2]
    rfl
  rw [e]
  rfl
theorem dd_mem : ∀ (l acc : List Int) (x : Int), x ∈ ddI acc l ↔ x ∈ acc ∨ x ∈ l
  | [], acc, x => by simp [ddI]
  | a :: r, acc, x => by
    show x ∈ ddI (if acc.any (· == a) then acc else acc ++ [a]) r ↔ _
    rw [dd_mem r]
    split
    · rename_i h
      have ha : a ∈ acc := by
        obtain ⟨y, hy, e⟩ := List.any_eq_true.mp h
        rw [← beq_iff_eq.mp e]
        exact hy
      constructor
      · rintro (z | z)
        · exact .inl z
        · exact .inr (List.mem_cons_of_mem _ z)
      · rintro (z | z)
        · exact .inl z
        · rcases List.mem_cons.mp z with e | e
          · exact .inl (e ▸ ha)
          · exact .inr e
    · rw [List.mem_append, List.mem_singleton, List.mem_cons]
      constructor
      · rintro ((z | z) | z)
        · exact .inl z
        · exact .inr (.inl z)
        · exact .inr (.inr z)
      · rintro (z | z | z)
        · exact .inl (.inl z)
        · exact .inl (.inr z)
        · exact .inr z
theorem dd_nodup : ∀ (l acc : List Int), acc.Nodup → (ddI acc l).Nodup
  | [], _, h => h
  | a :: r, acc, h => by
    show (ddI (if acc.any (· == a) then acc else acc ++ [a]) r).Nodup
    refine dd_nodup r _ ?_
    split
    · exact h
    · rename_i q
      refine List.nodup_append.mpr ⟨h, by simp, fun x hx y hy => ?_⟩
      rw [List.mem_singleton.mp hy]
      rintro rfl
      exact q (List.any_eq_true.mpr ⟨x, hx, beq_self_eq_true x⟩)
theorem dd_len : ∀ (l acc : List Int), (ddI acc l).length ≤ acc.length + l.length
  | [], _ => Nat.le_refl _
  | a :: r, acc => by
    show (ddI (if acc.any (· == a) then acc else acc ++ [a]) r).length ≤ _
    have := dd_len r (if acc.any (· == a) then acc else acc ++ [a])
    split at this <;> rename_i q
    · rw [if_pos q]
      rw [List.length_cons]
      omega
    · rw [if_neg q]
      rw [List.length_append] at this
      simp at this
      rw [List.length_cons]
      omega
section
variable {X : Cx} {O : List Nat} {C : Nat → List D → M D} {a : Expr} {ia ii : Ex} {p p2 q pos : Pos}
/-- what the set's argument is -/
theorem seq_ints {K : Fg} {G H : Hp} {c : Option Addr} {v : HV} {x : D} {ds : List D} {l : List Int} (e : Same G H) (h : Sh K G H c v x) (h1 : seqD x = some ds) (h2 : ints? ds = some l) : ∃ b, v = .ref b ∧ (SqL K H b (l.map V.int) ∨ SqT K H b (l.map V.int)) := by
  obtain ⟨b, xs, rfl, h3, r⟩ := h.seq e h1
  have := r.toInts h2
  subst this
  exact ⟨b, rfl, h3⟩
theorem sx_lenSet (hc : X.calm = true) (hg : Gl X "len") (hm : X.mg "len" = none) (hg2 : Gl X "set") (hm2 : X.mg "set" = none) (ha : PE X a (TX X.K O C (pArg X.K) ia))
    (na : starEach [a] X.env = (false, eval a X.env) :: starEach [] X.env := by rfl) : PE X (.Call (.Name "len" p) [.Call (.Name "set" p2) [a] [] q] [] pos) (TX X.K O C (pNew X.K) (.b1 .lenSet ia)) := by
  refine ⟨fun pins s σ H Q I ⟨G, c, cup, δ, R, d, cup', he, hq⟩ => ?_⟩
  obtain ⟨x, c1, h1, he⟩ := bnd_ok he
  obtain ⟨h2, rfl⟩ := lift_ok he
  obtain ⟨ds, l, k1, k2, k3, rfl⟩ : ∃ ds l, seqD x = some ds ∧ ints? ds = some l ∧ l.length ≤ 4000 ∧ d = .int (ddI [] l).length := by
    have h2 : (match seqD x with
      | some ds => (match ints? ds with
        | some l => if Nat.ble l.length 4000 then some (D.int (ddI [] l).length) else none
        | none => none)
      | none => none) = some d := h2
    cases e1 : seqD x with
    | none => rw [e1] at h2; cases h2
    | some ds =>
      rw [e1] at h2
      dsimp only at h2
      cases e2 : ints? ds with
      | none => rw [e2] at h2; cases h2
      | some l =>
        rw [e2] at h2
        dsimp only at h2
        split at h2
        · rename_i z
          cases h2
          exact ⟨ds, l, rfl, e2, Nat.le_of_ble_eq_true z, rfl⟩
        · cases h2
  have hl := dd_len l []
  refine Call_ (ld_blt I hg hm PySem.boot_len (PyProof.Rows.callWith_builtin1 (PyProof.Rows.args_cons ?_ rfl) rfl rfl))
  refine Call_ (ld_blt I hg2 hm2 PyProof.Rows.boot_set (PyProof.Rows.callWith_type1 (PyProof.Rows.args_cons (thn (ha.run pins s σ H (fun v H1 => ∃ c2 G2, Ext c G H c2 cup' G2 H1 ∧ Sh X.K G2 H1 c2 v x) I ⟨G, c, cup, δ, R, x, cup', h1, fun v c2 G2 H2 e r => ⟨c2, G2, e, r⟩⟩) fun v s1 ⟨y, H1, I1, r1, c2, G2, e, r⟩ => PyProof.Rows.args_nil ?_) na) na rfl))
  obtain ⟨b, rfl, hs⟩ := seq_ints e.h r k1 k2
  cases r1
  rcases hs with hs | hs
  · obtain ⟨its, rv, pl, _⟩ := I1.list hs
    have hn : its.toArray.size = l.length := by rw [List.size_toArray, ← rv.length, List.length_map]
    refine call_set_list (I1.ok.hd hc) pl.isList (ns := l) (ints_vals (us := its.toArray.toList) (by simpa using rv)) (by rw [hn]; unfold scanBound; omega) fun h' tk hS hk => PyProof.Rows.args_nil ?_
    rw [hn, ddI_first] at hS
    obtain ⟨o, es, ep, t, ho, hex, hd, _, _, _, hf, hz⟩ := hS
    have I2 : Inv X pins σ H1 { s1 with heap := h', toks := tk } := I1.kept fun b o e => hk b o (Heap.lt_size e) e
    refine call_len_set ho hex hd hf (by rw [hz]; simp at hl; omega) ?_
    exact ⟨.int ((ddI [] l).length : Nat), H1, I2.tok _, ⟨_, by rw [hz]⟩, hq _ c2 G2 H1 e (.int _)⟩
  · obtain ⟨its, rv, pl, _⟩ := I1.tuple hs
    refine call_set_tupI l (I1.ok.hd hc) pl (ints_vals (us := its.toArray.toList) (by simpa using rv)) (by unfold scanBound; omega) fun h' tk n hS hn hk => PyProof.Rows.args_nil ?_
    obtain ⟨o, es, ep, t, ho, hex, hd, _, nd, mem, _, hf, hz, _, _⟩ := hS
    have hnd : n = (ddI [] l).length := by
      have pm : (es.toList.map keyOf).Perm (ddI [] l) := (List.perm_ext_iff_of_nodup nd (dd_nodup l [] List.nodup_nil)).mpr fun k => by
        rw [← mem k, decide_eq_true_iff, dd_mem]
        simp
      have := pm.length_eq
      rw [List.length_map, Array.length_toList, hz] at this
      exact this
    have I2 : Inv X pins σ H1 { s1 with heap := h', toks := tk } := I1.kept hk
    refine call_len_set ho hex hd hf (by rw [hz]; omega) ?_
    exact ⟨.int ((ddI [] l).length : Nat), H1, I2.tok _, ⟨_, by rw [hz, hnd]⟩, hq _ c2 G2 H1 e (.int _)⟩
theorem sort_uniq {l m : List Int} (h : m.Pairwise (· < ·)) (e : ∀ k : Int, k ∈ m ↔ k ∈ l) : sortI (ddI [] l) = m := by
  have nm : m.Nodup := h.imp fun {a b} z => by omega
  have pm : (ddI [] l).Perm m := (List.perm_ext_iff_of_nodup (dd_nodup l [] List.nodup_nil) nm).mpr fun k => by
    rw [dd_mem, e k]
    simp
  have hs : m.Pairwise (· ≤ ·) := h.imp fun {a b} z => by omega
  exact (((sortI_perm _).trans pm)).eq_of_pairwise (fun a b _ _ h1 h2 => Int.le_antisymm h1 h2) (sortI_sorted _) hs
theorem sx_sortSet (hc : X.calm = true) (hg : Gl X "sorted") (hm : X.mg "sorted" = none) (hg2 : Gl X "set") (hm2 : X.mg "set" = none) (ha : PE X a (TX X.K O C (pArg X.K) ia))
    (na : starEach [a] X.env = (false, eval a X.env) :: starEach [] X.env := by rfl) : PE X (.Call (.Name "sorted" p) [.Call (.Name "set" p2) [a] [] q] [] pos) (TX X.K O C (pNew X.K) (.b1 .sortSet ia)) := by
  refine ⟨fun pins s σ H Q I ⟨G, c, cup, δ, R, d, cup', he, hq⟩ => ?_⟩
  obtain ⟨x, c1, h1, he⟩ := bnd_ok he
  obtain ⟨h2, rfl⟩ := lift_ok he
  obtain ⟨ds, l, rfl, k2, k3, rfl⟩ : ∃ ds l, x = .tup ds ∧ ints? ds = some l ∧ l.length ≤ 60 ∧ d = .lst ((sortI (ddI [] l)).map .int) := by
    cases x with
    | tup ds =>
      have h2 : (match ints? ds with
        | some l => if Nat.ble l.length 60 then some (D.lst ((sortI (ddI [] l)).map .int)) else none
        | none => none) = some d := h2
      cases e2 : ints? ds with
      | none => rw [e2] at h2; cases h2
      | some l =>
        rw [e2] at h2
        dsimp only at h2
        split at h2
        · rename_i z
          cases h2
          exact ⟨ds, l, rfl, e2, Nat.le_of_ble_eq_true z, rfl⟩
        · cases h2
    | _ => cases h2
  refine Call_ (ld_blt I hg hm boot_sorted (callWith_builtin1 (args_cons ?_ rfl) rfl rfl))
  refine Call_ (ld_blt I hg2 hm2 boot_set (callWith_type1 (args_cons (thn (ha.run pins s σ H (fun v H1 => ∃ c2 G2, Ext c G H c2 cup' G2 H1 ∧ Sh X.K G2 H1 c2 v (.tup ds)) I ⟨G, c, cup, δ, R, _, cup', h1, fun v c2 G2 H2 e r => ⟨c2, G2, e, r⟩⟩) fun v s1 ⟨y, H1, I1, r1, c2, G2, e, r⟩ => args_nil ?_) na) na rfl))
  obtain ⟨b, xs, rfl, hs, rp⟩ := r.seqT e.h
  have ex := rp.toInts k2
  subst ex
  cases r1
  obtain ⟨its, rv, pl, _⟩ := I1.tuple hs
  refine call_set_tupI l (I1.ok.hd hc) pl (PF.ints_vals (us := its.toArray.toList) (by simpa using rv)) (by unfold scanBound; omega) fun h' tk n hS hn hk => args_nil ?_
  have I2 : Inv X pins σ H1 { s1 with heap := h', toks := tk } := I1.kept hk
  generalize hs2 : ({ s1 with heap := h', toks := tk } : Shared) = s2 at I2 ⊢
  have hS : SetR X.w s2.heap s1.heap.objs.size (fun j => decide (j ∈ l)) n := by rw [← hs2]; exact hS
  refine sorted_set hS (I2.ok.hd hc) (by omega) fun s' p out cc ns kp gg oo hp hg hi hst hmem hln => ?_
  have hm' : ∀ k : Int, k ∈ ns ↔ k ∈ l := fun k => by rw [hmem k, decide_eq_true_iff]
  have hlen : (ns.map V.int).length ≤ sizeLine := by rw [List.length_map, hln, sizeLine_eq]; omega
  have hnone : H1 p = none := I2.hok.fresh hp
  have J : Inv X pins σ (upd H1 p (.lst (ns.map V.int))) { s2 with heap := s'.heap, gens := s'.gens, drawn := s'.drawn, toks := s'.toks } :=
    I2.call (ch := []) (Un.laid kp hp hnone) (I2.hok.laid kp hp ⟨hlen, out.toList, cc, vals_of_ints hi, hg⟩) (by rw [gg]; exact I2.bare) (fun _ z => nomatch z)
  have es : s' = { s2 with heap := s'.heap, gens := s'.gens, drawn := s'.drawn, toks := s'.toks } := by
    obtain ⟨ha', hb', hc', hd', he'⟩ := s'
    cases oo
    rfl
  rw [es]
  refine ⟨.ref p, _, J, rfl, hq _ c2 G2 _ (e.trans (Ext.mine e.h e.cup hnone)) ?_⟩
  rw [sort_uniq hst hm']
  exact ⟨p, _, rfl, e.none_of hnone, free_of e.h hnone, upd_same, .lst (RepL.of_ints ns), e.cup.ne hnone⟩
/-! dict([(k, v) ..]) -/
theorem pairs_of {K : Fg} {G H : Hp} {c : Option Addr} (e : Same G H) : ∀ {ds : List D} {xs : List HV} {l : List (Int × D)}, RepL K G c xs ds → prsK ds = some l → ∃ (ps : List Addr) (kvs : List (Key × HV)), xs = ps.map V.ref ∧ Paired (fun p kv => SqT K H p [kV kv.1, kv.2]) ps kvs ∧ kvs.map Prod.fst = l.map (fun p => Sum.inl p.1) ∧ RepL K G c (kvs.map Prod.snd) (l.map Prod.snd)
  | [], _, _, .nil, h => by cases h; exact ⟨[], [], rfl, .nil, rfl, .nil⟩
  | d :: r, _, l, .cons (v := v) h1 hr, h => by
    unfold prsK at h
    split at h
    · rename_i q; cases q
    · rename_i k w r' q
      cases q
      cases e1 : prsK r with
      | none => rw [e1] at h; cases h
      | some m =>
        rw [e1] at h
        cases h
        obtain ⟨ps, kvs, rfl, hp, hk, hv⟩ := pairs_of e hr e1
        cases h1 with
        | tup a b =>
          rename_i t ys
          cases b with
          | cons i1 b =>
            cases i1
            cases b with
            | cons i2 b =>
              cases b
              exact ⟨t :: ps, (.inl k, _) :: kvs, rfl, .cons (Same.sqT e a.sqT) hp, by rw [List.map_cons, List.map_cons, hk], .cons i2 hv⟩
    · cases h
theorem OO.merge {K : Fg} {G : Hp} {c : Option Addr} : ∀ {kvs : List (Key × HV)} {l : List (Int × D)} {ks : List (Key × HV)} {acc : List (D × D)}, OO K G c (.dK ks) (.dct acc) → kvs.map Prod.fst = l.map (fun p => Sum.inl p.1) → RepL K G c (kvs.map Prod.snd) (l.map Prod.snd) → OO K G c (.dK (mergeK ks kvs)) (.dct (mrgD acc l))
  | [], [], _, _, h, _, _ => h
  | [], _ :: _, _, _, _, e, _ => by cases e
  | _ :: _, [], _, _, _, e, _ => by cases e
  | (k, v) :: kvs, (i, d) :: l, ks, acc, h, e, r => by
    have e1 := (List.cons.inj e).1
    have e2 := (List.cons.inj e).2
    have e1 : k = Sum.inl i := e1
    subst e1
    cases r with
    | cons r1 r2 =>
      cases h with
      | dct h1 h2 =>
        show OO K G c (.dK (mergeK (putK ks (.inl i) v) kvs)) (.dct (mrgD (putD acc i d) l))
        exact OO.merge (put_rel r1 h1 h2) e2 r2
theorem sx_dict (hc : X.calm = true) (hg : Gl X "dict") (hm : X.mg "dict" = none) (ha : PE X a (TX X.K O C (pArg X.K) ia))
    (na : starEach [a] X.env = (false, eval a X.env) :: starEach [] X.env := by rfl) : PE X (.Call (.Name "dict" p) [a] [] pos) (TX X.K O C (pNew X.K) (.b1 .dict ia)) :=
  PEimp (pe_callTy (call_dictP hc) hg hm PyProof.Rows.boot_dict (pa_cons ha pa_nil na) (by decide) (by decide) na rfl) fun σ H Q ⟨G, c, cup, δ, R, d, cup', he, hq⟩ => by
    obtain ⟨x, c1, h1, he⟩ := bnd_ok he
    obtain ⟨h2, rfl⟩ := lift_ok he
    obtain ⟨ds, l, rfl, k1, rfl⟩ : ∃ ds l, x = .lst ds ∧ prsK ds = some l ∧ d = .dct (mrgD [] l) := by
      cases x with
      | lst ds =>
        have h2 : (match prsK ds with
          | some l => if szOk ds.length then some (D.dct (mrgD [] l)) else none
          | none => none) = some d := h2
        cases e2 : prsK ds with
        | none => rw [e2] at h2; cases h2
        | some l =>
          rw [e2] at h2
          dsimp only at h2
          split at h2
          · cases h2
            exact ⟨ds, l, rfl, e2, rfl⟩
          · cases h2
      | _ => cases h2
    refine ⟨G, c, cup, δ, R, _, cup', h1, fun v c2 G2 H1 e r => ?_⟩
    obtain ⟨b, xs, rfl, hs, rp⟩ := r.seqL e.h
    obtain ⟨ps, kvs, rfl, hp, hk, hv⟩ := pairs_of e.h rp k1
    refine ⟨b, ps, kvs, rfl, SqL.of hs, hp, fun q hn => ?_⟩
    have oo : OO X.K G2 c2 (.dK (mergeK [] kvs)) (.dct (mrgD [] l)) := OO.merge (.dct .nil rfl) hk hv
    exact hq _ c2 G2 _ (e.trans (Ext.mine e.h e.cup hn)) (.of_OO (e.none_of hn) (free_of e.h hn) upd_same oo (e.cup.ne hn))
theorem lk_rep {K : Fg} {G : Hp} {c : Option Addr} {n : Int} {w : D} : ∀ {ks : List (Key × HV)} {kvs : List (D × D)}, kvs.map Prod.fst = ks.map (fun p => kD p.1) → RepL K G c (ks.map Prod.snd) (kvs.map Prod.snd) → lkD kvs n = some w → ∃ v, valV ks (.inl n) = some v ∧ Rep K G c v w
  | [], [], _, _, h => by cases h
  | [], _ :: _, e, _, _ => by cases e
  | _ :: _, [], e, _, _ => by cases e
  | (k, v) :: ks, (d, u) :: kvs, e, r, h => by
    have e1 : d = kD k := (List.cons.inj e).1
    have e2 := (List.cons.inj e).2
    subst e1
    cases r with
    | cons r1 r2 =>
      cases k with
      | inl j =>
        have h : (if j = n then some u else lkD kvs n) = some w := h
        by_cases q : j = n
        · subst q
          rw [if_pos rfl] at h
          cases h
          exact ⟨v, valV_pos (p := (Sum.inl j, v)) rfl, r1⟩
        · rw [if_neg q] at h
          rw [valV_neg (p := (Sum.inl j, v)) fun z => q (Sum.inl.inj z)]
          exact lk_rep e2 r2 h
      | inr x =>
        rw [valV_neg (p := (Sum.inr x, v)) fun z => by cases z]
        exact lk_rep e2 r2 h
theorem sx_dIdx {i : Expr} (hu : X.A.units + 65 < cLine) (ha : PE X a (TX X.K O C (pArg X.K) ia)) (hi : PE X i (TX X.K O C (pArg X.K) ii)) (hs : NoSl i := by (intro _ _; rfl)) : PE X (.Subscript a i pos) (TX X.K O C (pVal X.K) (.dIdx ia ii)) :=
  PEimp (pe_dget (by omega) ha hi hs) fun σ H Q ⟨G, c, cup, δ, R, d, cup', he, hq⟩ => by
    obtain ⟨x, c1, h1, he⟩ := bnd_ok he
    obtain ⟨y, c2, h2, he⟩ := bnd_ok he
    obtain ⟨kvs, n, rfl, rfl, he⟩ : ∃ kvs n, x = .dct kvs ∧ y = .int n ∧ lift (lkD kvs n) c2 = .ok d cup' := by
      cases x <;> first | (cases he; done) | skip
      cases y <;> first | (cases he; done) | skip
      exact ⟨_, _, rfl, rfl, he⟩
    obtain ⟨h3, rfl⟩ := lift_ok he
    refine ⟨G, c, cup, δ, R, _, c1, h1, fun v k1 G1 H1 e1 r1 => ⟨G1, k1, c1, δ, R.ext e1, _, _, h2, fun u k2 G2 H2 e2 r2 => ?_⟩⟩
    have r1 := r1.ext e2
    obtain ⟨b, ks, rfl, g1, g2, g3⟩ := r1.isDct e2.h
    have eu := r2.int
    subst eu
    obtain ⟨w, k3, k4⟩ := lk_rep g3 g2 h3
    refine ⟨b, w, rfl, ?_, hq w k2 G2 H2 (e1.trans e2) k4⟩
    rw [← k3]
    exact DGet.k (k := .inl n) g1
end
end PF

/-! PF22: xs.remove(k), ints -/
namespace PF
open PySem PySem.Spec L2 PySem.W
theorem ints_val : ∀ {ds : List D} {l : List Int}, ints? ds = some l → ds = l.map D.int
  | [], l, h => by cases h; rfl
  | d :: r, l, h => by
    cases d with
    | int i =>
      have h : (match ints? r with | some l => some (i :: l) | none => none) = some l := h
      cases q : ints? r with
      | none => rw [q] at h; cases h
      | some m =>
        rw [q] at h
        cases h
        rw [ints_val q]
        rfl
    | _ => cases h
theorem remD_of {ds es : List D} {d : D} (h : remD ds d = some es) : ∃ (k : Int) (l : List Int), d = .int k ∧ ds = l.map D.int ∧ l.idxOf k < l.length ∧ es = (l.eraseIdx (l.idxOf k)).map D.int := by
  cases d with
  | int k =>
    have h : (match ints? ds with
      | some l => if l.idxOf k < l.length then some ((l.eraseIdx (l.idxOf k)).map D.int) else none
      | none => none) = some es := h
    cases q : ints? ds with
    | none => rw [q] at h; cases h
    | some l =>
      rw [q] at h
      have h : (if l.idxOf k < l.length then some ((l.eraseIdx (l.idxOf k)).map D.int) else none) = some es := h
      split at h
      · rename_i z
        cases h
        exact ⟨k, l, rfl, ints_val q, z, rfl⟩
      · cases h
  | _ => cases h
theorem repL_ints {K : Fg} {G : Hp} {c : Option Addr} : ∀ l : List Int, RepL K G c (l.map V.int) (l.map D.int)
  | [] => .nil
  | i :: r => .cons (.int i) (repL_ints r)
section
variable {X : Cx} {C : Nat → List D → M D} {fr : Bool} {O O1 O' Ob : List Nat} {e : Expr} {ie ik : Ex} {pos apos cpos : Pos} {x : Str} {i : Nat}
theorem s_rem {p : Pos} (hi : i ∈ O) (hN : X.N[i]? = some x) (hv : Vis X.env.scope x) (he : PE X e (TX X.K O C (pArg X.K) ie)) (hd : (x == ("__debug__" : Str)) = false := by decide) (hcd : (x == ("__classdict__" : Str)) = false := by decide)
    (hbase : attributeBase (.Name x p) "remove" X.env (eval (.Name x p) X.env) = eval (.Name x p) X.env := by rfl)
    (hfew : ((backTo cpos (starEach [e] X.env)).all (fun x => !x.1) && (backToKw cpos (keywordEach [] X.env)).all (fun x => x.1.isSome)
      && decide ([e].length + ([] : List Keyword).length + (if ([] : List Keyword).isEmpty then 0 else 1) < 30)) = true := by rfl)
    (hline : (apos.endLine == cpos.line) = true := by rfl) (hs : starEach [e] X.env = (false, eval e X.env) :: starEach [] X.env := by rfl) (hsw : swapsWith (.Call (.Attribute (.Name x p) "remove" apos) [e] [] cpos) none pos.line X.env = pure false := by rfl) :
    PS X (.Expr (.Call (.Attribute (.Name x p) "remove" apos) [e] [] cpos) pos) (TSt X.K C fr O O Ob (.rem i ie)) :=
  PSimp (ps_expr (pe_bm PySem.F.plainAttrs_list PySem.F.slot_list_remove PySem.F.type_list_remove mt_remove (pe_var hN hv hd hcd) (pa_cons he pa_nil hs) hbase hfew hline hs rfl) hsw) fun D σ H ⟨c0, G0, H0, G, c, cup, δ, fl, cup', R, hev, hf⟩ => by
    obtain ⟨d, c1, h1, h2⟩ := bnd_ok hev
    obtain ⟨ds, h3, h4⟩ := optM_ok h2
    obtain ⟨es, h5, h6⟩ := optM_ok h4
    cases h6
    have hδ := lstAt_of h3
    obtain ⟨k, l, rfl, rfl, hk, rfl⟩ := remD_of h5
    obtain ⟨q, xs, y1, y2, y3, y4, y5⟩ := R.at hi hδ
    refine ⟨_, y1, .inl ⟨rfl, xs, SqL.of y3⟩, G, c, cup, δ, R.rel, _, _, h1, fun v k1 G1 H1 e1 r1 => ?_⟩
    have ev : v = V.int k := Sh.int r1
    subst ev
    obtain ⟨q', xs', y1', y2', y3', y4', y5'⟩ := (R.exp e1).at hi hδ
    rw [y1] at y1'
    cases y1'
    have ex : xs' = l.map V.int := y4'.toInts (ints_map' l)
    subst ex
    refine ⟨q, l, k, l.idxOf k, rfl, rfl, y3', by rw [List.getElem?_eq_getElem hk, List.getElem_idxOf hk], fun m hm e2 => ?_, ?_⟩
    · obtain ⟨h8, h9⟩ := List.getElem?_eq_some_iff.mp e2
      have z := List.not_of_lt_findIdx (p := (· == k)) (xs := l) hm
      rw [h9] at z
      simp at z
    · exact hf σ k1 G1 _ e1.g e1.cle ((R.exp e1).upd hi hδ y1 y2' y3' y5' (repL_ints _))
end
section
variable {X : Cx} {O : List Nat} {C : Nat → List D → M D} {n k j : Nat} {x : Str} {p pos : Pos} {e : Expr} {es : List Expr} {il : Ex}
/-- a callee that answers with a new list of what holds no list -/
theorem sx_callF (F : Callee X n x k true (C j)) (hr : Room n X.A) (hg : Gl X x) (ha : PA X (e :: es) (TL X.K O C (lArg X.K) il)) (hl : isLs il = true := by rfl) (hk : exLen il = k := by rfl) (hdb : (x == ("__debug__" : Str)) = false := by decide)
    (he : starEach (e :: es) X.env = (false, eval e X.env) :: starEach es X.env := by rfl) (hpl : (backTo pos (starEach es X.env)).any (·.1) = false := by rfl) : PE X (.Call (.Name x p) (e :: es) [] pos) (TX X.K O C (pNew X.K) (.callF j il)) := by
  obtain ⟨f, fd, ps, Fn, hps, hm, hkp, hb⟩ := F.ex
  exact PEimp (pe_call (E := fun _ _ _ => False) Fn hr hg hm hkp hb .nil passN ha hdb he hpl) fun σ H Q ⟨G, c, cup, δ, R, d, cup', he, hq⟩ => by
    obtain ⟨y, c1, h1, h2⟩ := bnd_ok he
    obtain ⟨ds, rfl, h3⟩ := unT_ok h2
    obtain ⟨d', c2, h4, h5⟩ := bnd_ok h3
    have hd : d' = d ∧ c2 = cup' ∧ D.noL1 d = true := by
      have h5 : (if D.noL1 d' = true then ret d' else no) c2 = .ok d cup' := h5
      split at h5
      · rename_i z
        cases h5
        exact ⟨rfl, rfl, z⟩
      · cases h5
    obtain ⟨rfl, rfl, hn⟩ := hd
    refine ⟨G, c, cup, δ, R, ds, c1, h1, fun vs k1 G1 H1 e1 r1 => ?_⟩
    have r1 : ShL X.K G1 H1 k1 vs ds := r1
    obtain ⟨ps', G2, g1, g2, g3, g4, g5, g6⟩ := lend e1.h e1.cup r1
    refine ⟨G2, k1, c1, ds, d', c2, g2, g3, by rw [List.append_nil]; exact g4, by rw [List.append_nil, g4.length, ev_len hl h1, hk], h4, fun v c' G' H' e2 pf => ?_⟩
    have e3 : Ext k1 G1 H1 c' c2 (fun b => if b ∈ ps' then none else G' b) H' := by
      refine ⟨fun b o q => ?_, fun b o q => ?_, e2.k, fun b hb => ?_, e2.m, ?_⟩
      · have nb : b ∉ ps' := fun z => by rw [(g6 b z).1] at q; cases q
        show (if b ∈ ps' then none else G' b) = some o
        rw [if_neg nb]
        exact e2.g b o (g1 b o q)
      · have q : (if b ∈ ps' then none else G' b) = some o := q
        split at q
        · cases q
        · exact e2.h b o q
      · show (if b ∈ ps' then none else G' b) = G1 b
        split
        · rename_i z
          exact (g6 b z).1.symm
        · rename_i z
          exact (e2.f b hb).trans (g5 b z)
      · have ck := e2.cup
        cases c' with
        | none =>
          cases c2 with
          | none => trivial
          | some _ => exact ck
        | some a =>
          obtain ⟨p, z, y1, y2⟩ := ck.at
          subst z
          refine ⟨?_, y2⟩
          show (if a ∈ ps' then none else G' a) = none
          split
          · rfl
          · exact y1
    have thin : ∀ b o u, G' b = some (.frz o u) → (if b ∈ ps' then none else G' b) = some (.frz o u) := fun b o u q => by
      have nb : b ∉ ps' := fun z => by
        obtain ⟨_, xs, dd, hx, ho⟩ := g6 b z
        by_cases hc : k1 = some b
        · obtain ⟨p, _, ga, _⟩ := (hc ▸ g3).at
          have hgb : G' b = G2 b := e2.f b (by rw [hx]; exact fun z => by cases z)
          rw [ga] at hgb
          rw [hgb] at q
          cases q
        · have h1 := e2.k b _ hx hc
          have h2 := e2.h b _ q
          rw [h1] at h2
          have h3 := Option.some.inj h2
          subst h3
          cases ho
      rw [if_neg nb]
      exact q
    have fin : ∀ (w : D), D.noL w = true → NewR X.K H1 c' G' H' v w → NewR X.K H c' (fun b => if b ∈ ps' then none else G' b) H' v w := fun w hw pf => noL_new (Rep.thin thin (pF_noL (fr := true) pf hw) hw) hw
    refine hq v c' _ H' (e1.trans e3) ?_
    have pf : NewR X.K H1 c' G' H' v d' := pf
    cases d' with
    | lst es' =>
      have hn : D.noLL es' = true := hn
      obtain ⟨q, o, rfl, h5, h6, h7, h8, h9⟩ := (show ∃ p o, v = .ref p ∧ H1 p = none ∧ G' p = none ∧ H' p = some o ∧ OO X.K G' c' o (.lst es') ∧ c' ≠ some p from pf)
      obtain ⟨xs, rfl, r⟩ := h8.isLst
      refine (show ∃ p o, V.ref q = .ref p ∧ H p = none ∧ (if p ∈ ps' then none else G' p) = none ∧ H' p = some o ∧ OO X.K (fun b => if b ∈ ps' then none else G' b) c' o (.lst es') ∧ c' ≠ some p from ⟨q, .lst xs, rfl, e1.none_of h5, ?_, h7, .lst (RepL.thin thin r hn), h9⟩)
      split
      · rfl
      · exact h6
    | non => exact fin _ hn pf
    | bl _ => exact fin _ hn pf
    | int _ => exact fin _ hn pf
    | str _ => exact fin _ hn pf
    | tup _ => exact fin _ hn pf
    | dct _ => exact fin _ hn pf
    | cup => exact fin _ hn pf
    | scr _ => exact fin _ hn pf
end
end PF

namespace PF
open PySem PySem.Spec L2 PySem.W
namespace K
def top (i : Nat) : Stmt := PySem.Challenge.pw_orderschanged_k15_whole_zigzags.main.body.getD i (.Pass ⟨0, 0, 0, 0⟩)
def F_is_integer : Fn := ⟨"is_integer", ["value"], ["value"], true,
  (.ret (.and (.b1 .isInt (.var 0)) (.not (.b1 .isBool (.var 0)))))⟩
def F_is_whole : Fn := ⟨"is_whole", ["value", "low", "high"], ["value", "low", "high"], true,
  (.ret (.and (.call 1 (.cons (.var 0) .nil)) (.chain .le .le (.var 1) (.var 0) (.var 2))))⟩
def F_need_whole : Fn := ⟨"need_whole", ["value", "low", "high"], ["value", "low", "high"], true,
  (.seq (.ite (.not (.call 2 (.cons (.var 0) (.cons (.var 1) (.cons (.var 2) .nil))))) (.raise 0) .skip) .skip)⟩
def F_ends_by : Fn := ⟨"ends_by", ["size", "places"], ["size", "places", "found", "place", "later", "left", "lesser"], true,
  (.seq (.asgO 2 (.lst (.cons (.lst (.cons (.cI 1) .nil)) .nil))) (.seq (.for_ [2] (.one 3) (.itR (.cons (.op2 .sub (.var 0) (.cI 1)) (.cons (.cI 0) (.cons (.neg (.cI 1)) .nil)))) (.seq (.par [4, 5] [false, false] (.cons (.idx (.var 2) (.neg (.cI 1))) (.cons (.op2 .sub (.var 0) (.var 3)) .nil))) (.seq (.ite (.op2 .isIn (.var 3) (.var 1)) (.seq (.app 2 (.comp (.one 6) (.itR (.cons (.op2 .add (.var 5) (.cI 1)) .nil)) (.cB true) (.b1 .sum (.slc (.var 4) .cN (.var 6))))) .skip) (.seq (.app 2 (.comp (.one 6) (.itR (.cons (.op2 .add (.var 5) (.cI 1)) .nil)) (.cB true) (.b1 .sum (.slc (.var 4) (.var 6) .cN)))) .skip)) .skip))) (.ret (.rev (.var 2)))))⟩
def F_able_from : Fn := ⟨"able_from", ["row", "left", "place"], ["row", "left", "place", "at", "value"], true,
  (.seq (.ite (.op2 .eq (.var 2) (.cI 0)) (.ret (.b1 .listR (.tup (.cons (.b1 .len (.var 1)) .nil)))) .skip) (.ret (.comp (.two 3 4) (.itE (.var 1)) (.op2 .eq (.op2 .gt (.idx (.var 0) (.neg (.cI 1))) (.var 4)) (.op2 .eq (.op2 .mod (.var 2) (.cI 2)) (.cI 0))) (.var 3))))⟩
def F_turns_of : Fn := ⟨"turns_of", ["size"], ["size"], true,
  (.ret (.b1 .listR (.tup (.cons (.cI 2) (.cons (.var 0) (.cons (.cI 2) .nil))))))⟩
def F_zigzag_at : Fn := ⟨"zigzag_at", ["size", "number"], ["size", "number", "ends", "row", "left", "place", "at"], true,
  (.seq (.par [2, 3, 4] [false, true, true] (.cons (.call 4 (.cons (.var 0) (.cons (.call 6 (.cons (.var 0) .nil)) .nil))) (.cons (.lst .nil) (.cons (.b1 .listR (.tup (.cons (.var 0) .nil))) .nil)))) (.seq (.for_ [4, 3] (.one 5) (.itR (.cons (.var 0) .nil)) (.seq (.for_ [4, 3] (.one 6) (.itV (.callF 5 (.cons (.var 3) (.cons (.var 4) (.cons (.var 5) .nil))))) (.seq (.ite (.op2 .lt (.var 1) (.idx (.idx (.var 2) (.var 5)) (.var 6))) (.seq (.popA 3 4 (.var 6)) .brk) .skip) (.seq (.asg 1 (.op2 .sub (.var 1) (.idx (.idx (.var 2) (.var 5)) (.var 6)))) .skip))) .skip)) (.ret (.b1 .tuple (.var 3)))))⟩
def F_firsts_in : Fn := ⟨"firsts_in", ["size"], ["size"], false,
  (.ret (.ite (.op2 .gt (.var 0) (.cI 0)) (.idx (.call 4 (.cons (.var 0) (.cons (.call 6 (.cons (.var 0) .nil)) .nil))) (.cI 0)) (.lst .nil)))⟩
def F_count_in : Fn := ⟨"count_in", ["size"], ["size"], true,
  (.ret (.ite (.op2 .gt (.var 0) (.cI 0)) (.b1 .sum (.call 8 (.cons (.var 0) .nil))) (.cI 1)))⟩
def F_zigzag_with : Fn := ⟨"zigzag_with", ["size", "number"], ["size", "number"], true,
  (.seq (.exp (.call 3 (.cons (.var 0) (.cons (.cI 0) (.cons (.cI 30) .nil))))) (.seq (.exp (.call 3 (.cons (.var 1) (.cons (.cI 0) (.cons (.op2 .sub (.call 9 (.cons (.var 0) .nil)) (.cI 1)) .nil))))) (.ret (.call 7 (.cons (.var 0) (.cons (.var 1) .nil))))))⟩
def F__law_sort : Fn := ⟨"_law_sort", ["value"], ["value"], true,
  (.seq (.ite (.or (.b1 .isNone (.var 0)) (.b1 .isBool (.var 0))) (.ret (.ite (.b1 .isNone (.var 0)) (.cI 0) (.cI 1))) .skip) (.seq (.ite (.or (.b1 .isInt (.var 0)) (.b1 .isStr (.var 0))) (.ret (.ite (.b1 .isInt (.var 0)) (.cI 2) (.cI 3))) .skip) (.ret (.ite (.b1 .isTuple (.var 0)) (.cI 4) (.ite (.b1 .isList (.var 0)) (.cI 5) (.cI 6))))))⟩
def F__law_like : Fn := ⟨"_law_like", ["one", "other"], ["one", "other", "sort", "first", "second"], true,
  (.seq (.asg 2 (.call 11 (.cons (.var 1) .nil))) (.seq (.ite (.or (.op2 .ne (.call 11 (.cons (.var 0) .nil)) (.var 2)) (.op2 .eq (.var 2) (.cI 6))) (.ret (.cB false)) .skip) (.seq (.ite (.op2 .isIn (.var 2) (.tup (.cons (.cI 4) (.cons (.cI 5) .nil)))) (.ret (.and (.op2 .eq (.b1 .len (.var 0)) (.b1 .len (.var 1))) (.op2 .eq (.comp (.two 3 4) (.itZ (.var 0) (.var 1)) (.not (.call 12 (.cons (.var 3) (.cons (.var 4) .nil)))) (.cI 1)) (.lst .nil)))) .skip) (.ret (.op2 .eq (.var 0) (.var 1))))))⟩
def F__law_orders : Fn := ⟨"_law_orders", ["many"], ["many", "found", "turn", "longer", "some", "value"], false,
  (.seq (.asg 1 (.lst (.cons (.tup .nil) .nil))) (.seq (.for_ [] (.one 2) (.itR (.cons (.var 0) .nil)) (.seq (.asg 3 (.lst .nil)) (.seq (.for_ [] (.one 4) (.itV (.var 1)) (.seq (.asg 3 (.op2 .add (.var 3) (.comp (.one 5) (.itR (.cons (.var 0) .nil)) (.op2 .notIn (.var 5) (.var 4)) (.op2 .add (.var 4) (.tup (.cons (.var 5) .nil)))))) .skip)) (.seq (.asg 1 (.var 3)) .skip)))) (.ret (.var 1))))⟩
def F__law_falls : Fn := ⟨"_law_falls", ["row"], ["row", "place"], true,
  (.ret (.b1 .tuple (.comp (.one 1) (.itR (.cons (.cI 1) (.cons (.b1 .len (.var 0)) .nil))) (.op2 .lt (.idx (.var 0) (.var 1)) (.idx (.var 0) (.op2 .sub (.var 1) (.cI 1)))) (.var 1))))⟩
def F__law_is_zigzag : Fn := ⟨"_law_is_zigzag", ["order"], ["order"], true,
  (.ret (.op2 .eq (.call 14 (.cons (.var 0) .nil)) (.b1 .tupleR (.tup (.cons (.cI 2) (.cons (.b1 .len (.var 0)) (.cons (.cI 2) .nil)))))))⟩
def F_count_zigzags : Fn := ⟨"count_zigzags", ["size"], ["size"], true,
  (.seq (.exp (.call 3 (.cons (.var 0) (.cons (.cI 0) (.cons (.cI 30) .nil))))) (.ret (.call 9 (.cons (.var 0) .nil))))⟩
def F_is_tuple_of : Fn := ⟨"is_tuple_of", ["value", "low", "high"], ["value", "low", "high"], true,
  (.ret (.and (.b1 .isTuple (.var 0)) (.chain .le .le (.var 1) (.b1 .len (.var 0)) (.var 2))))⟩
def F_fits_order : Fn := ⟨"fits_order", ["value"], ["value", "one"], true,
  (.seq (.ite (.or (.not (.call 17 (.cons (.var 0) (.cons (.cI 0) (.cons (.cI 30) .nil))))) (.not (.b1 .all (.comp (.one 1) (.itV (.var 0)) (.cB true) (.call 2 (.cons (.var 1) (.cons (.cI 0) (.cons (.op2 .sub (.b1 .len (.var 0)) (.cI 1)) .nil)))))))) (.ret (.cB false)) .skip) (.ret (.op2 .eq (.b1 .sorted (.var 0)) (.b1 .listR (.tup (.cons (.b1 .len (.var 0)) .nil))))))⟩
def F_need_order : Fn := ⟨"need_order", ["value"], ["value"], true,
  (.seq (.ite (.not (.call 18 (.cons (.var 0) .nil))) (.raise 0) .skip) .skip)⟩
def F_falls_in : Fn := ⟨"falls_in", ["order"], ["order", "place"], true,
  (.ret (.comp (.one 1) (.itR (.cons (.cI 1) (.cons (.b1 .len (.var 0)) .nil))) (.op2 .gt (.idx (.var 0) (.op2 .sub (.var 1) (.cI 1))) (.idx (.var 0) (.var 1))) (.var 1)))⟩
def F_is_zigzag_in : Fn := ⟨"is_zigzag_in", ["order"], ["order"], true,
  (.ret (.op2 .eq (.call 20 (.cons (.var 0) .nil)) (.call 6 (.cons (.b1 .len (.var 0)) .nil))))⟩
def F_number_in : Fn := ⟨"number_in", ["order"], ["order", "ends", "found", "left", "place", "value", "at"], false,
  (.seq (.par [1, 2, 3] [false, false, true] (.cons (.call 4 (.cons (.b1 .len (.var 0)) (.cons (.call 6 (.cons (.b1 .len (.var 0)) .nil)) .nil))) (.cons (.cI 0) (.cons (.b1 .listR (.tup (.cons (.b1 .len (.var 0)) .nil))) .nil)))) (.seq (.for_ [3] (.two 4 5) (.itE (.var 0)) (.seq (.for_ [3] (.one 6) (.itV (.callF 5 (.cons (.slc (.var 0) .cN (.var 4)) (.cons (.var 3) (.cons (.var 4) .nil))))) (.seq (.ite (.op2 .lt (.idx (.var 3) (.var 6)) (.var 5)) (.seq (.asg 2 (.op2 .add (.var 2) (.idx (.idx (.var 1) (.var 4)) (.var 6)))) .skip) .skip) .skip)) (.seq (.rem 3 (.var 5)) .skip))) (.ret (.var 2))))⟩
def F_number_of_zigzag : Fn := ⟨"number_of_zigzag", ["order"], ["order"], false,
  (.seq (.exp (.call 19 (.cons (.var 0) .nil))) (.seq (.ite (.not (.call 21 (.cons (.var 0) .nil))) (.raise 0) .skip) (.ret (.ite (.op2 .ne (.var 0) (.tup .nil)) (.call 22 (.cons (.var 0) .nil)) (.cI 0)))))⟩
def F__law_small_right : Fn := ⟨"_law_small_right", ["size"], ["size", "every", "told", "order", "number"], true,
  (.seq (.asg 1 (.comp (.one 3) (.itV (.call 13 (.cons (.var 0) .nil))) (.call 15 (.cons (.var 3) .nil)) (.var 3))) (.seq (.asg 2 (.comp (.one 4) (.itR (.cons (.call 16 (.cons (.var 0) .nil)) .nil)) (.cB true) (.call 10 (.cons (.var 0) (.cons (.var 4) .nil))))) (.ret (.and (.call 12 (.cons (.var 2) (.cons (.var 1) .nil))) (.call 12 (.cons (.comp (.one 3) (.itV (.var 1)) (.cB true) (.call 23 (.cons (.var 3) .nil))) (.cons (.b1 .listR (.tup (.cons (.b1 .len (.var 1)) .nil))) .nil)))))))⟩
def F_is_zigzag : Fn := ⟨"is_zigzag", ["order"], ["order"], true,
  (.seq (.exp (.call 19 (.cons (.var 0) .nil))) (.ret (.call 21 (.cons (.var 0) .nil))))⟩
def F_zigzags_from : Fn := ⟨"zigzags_from", ["size", "first"], ["size", "first"], false,
  (.seq (.exp (.call 3 (.cons (.var 0) (.cons (.cI 1) (.cons (.cI 30) .nil))))) (.seq (.exp (.call 3 (.cons (.var 1) (.cons (.cI 0) (.cons (.op2 .sub (.var 0) (.cI 1)) .nil))))) (.ret (.idx (.call 8 (.cons (.var 0) .nil)) (.var 1)))))⟩
def F__law_written_right : Fn := ⟨"_law_written_right", [], ["told", "size", "first"], true,
  (.seq (.asg 0 (.lst (.cons (.call 25 (.cons (.tup (.cons (.cI 0) (.cons (.cI 2) (.cons (.cI 1) .nil)))) .nil)) (.cons (.call 25 (.cons (.tup (.cons (.cI 1) (.cons (.cI 0) (.cons (.cI 2) .nil)))) .nil)) (.cons (.call 25 (.cons (.tup .nil) .nil)) (.cons (.comp (.one 1) (.itR (.cons (.cI 8) .nil)) (.cB true) (.call 16 (.cons (.var 1) .nil))) (.cons (.comp (.one 2) (.itR (.cons (.cI 4) .nil)) (.cB true) (.call 26 (.cons (.cI 4) (.cons (.var 2) .nil)))) .nil))))))) (.seq (.ite (.not (.call 12 (.cons (.var 0) (.cons (.lst (.cons (.cB true) (.cons (.cB false) (.cons (.cB true) (.cons (.lst (.cons (.cI 1) (.cons (.cI 1) (.cons (.cI 1) (.cons (.cI 2) (.cons (.cI 5) (.cons (.cI 16) (.cons (.cI 61) (.cons (.cI 272) .nil))))))))) (.cons (.lst (.cons (.cI 2) (.cons (.cI 2) (.cons (.cI 1) (.cons (.cI 0) .nil))))) .nil)))))) .nil)))) (.ret (.cB false)) .skip) (.seq (.asg 0 (.lst (.cons (.call 10 (.cons (.cI 9) (.cons (.cI 0) .nil))) (.cons (.call 10 (.cons (.cI 10) (.cons (.cI 0) .nil))) (.cons (.call 23 (.cons (.tup (.cons (.cI 0) (.cons (.cI 2) (.cons (.cI 1) (.cons (.cI 4) (.cons (.cI 3) (.cons (.cI 6) (.cons (.cI 5) (.cons (.cI 8) (.cons (.cI 7) .nil)))))))))) .nil)) (.cons (.call 25 (.cons (.call 10 (.cons (.cI 9) (.cons (.cI 7935) .nil))) .nil)) .nil)))))) (.seq (.ite (.not (.call 12 (.cons (.var 0) (.cons (.lst (.cons (.tup (.cons (.cI 0) (.cons (.cI 2) (.cons (.cI 1) (.cons (.cI 4) (.cons (.cI 3) (.cons (.cI 6) (.cons (.cI 5) (.cons (.cI 8) (.cons (.cI 7) .nil)))))))))) (.cons (.tup (.cons (.cI 0) (.cons (.cI 2) (.cons (.cI 1) (.cons (.cI 4) (.cons (.cI 3) (.cons (.cI 6) (.cons (.cI 5) (.cons (.cI 8) (.cons (.cI 7) (.cons (.cI 9) .nil))))))))))) (.cons (.cI 0) (.cons (.cB true) .nil))))) .nil)))) (.ret (.cB false)) .skip) (.seq (.asg 0 (.lst (.cons (.call 10 (.cons (.cI 4) (.cons (.cI 0) .nil))) (.cons (.call 10 (.cons (.cI 4) (.cons (.cI 4) .nil))) (.cons (.call 23 (.cons (.tup (.cons (.cI 1) (.cons (.cI 3) (.cons (.cI 0) (.cons (.cI 2) .nil))))) .nil)) (.cons (.call 10 (.cons (.cI 0) (.cons (.cI 0) .nil))) (.cons (.call 23 (.cons (.tup .nil) .nil)) (.cons (.call 26 (.cons (.cI 1) (.cons (.cI 0) .nil))) (.cons (.call 26 (.cons (.cI 2) (.cons (.cI 1) .nil))) (.cons (.call 16 (.cons (.cI 10) .nil)) .nil)))))))))) (.ret (.call 12 (.cons (.var 0) (.cons (.lst (.cons (.tup (.cons (.cI 0) (.cons (.cI 2) (.cons (.cI 1) (.cons (.cI 3) .nil))))) (.cons (.tup (.cons (.cI 2) (.cons (.cI 3) (.cons (.cI 0) (.cons (.cI 1) .nil))))) (.cons (.cI 3) (.cons (.tup .nil) (.cons (.cI 0) (.cons (.cI 1) (.cons (.cI 0) (.cons (.cI 50521) .nil))))))))) .nil)))))))))⟩
def F__law_roll : Fn := ⟨"_law_roll", ["cup", "many"], ["cup", "many", "found", "deep"], false,
  (.seq (.ite (.op2 .gt (.idx (.var 0) (.cI 0)) (.cI 0)) (.seq (.asg 2 (.op2 .mod (.b1 .int (.idx (.var 0) (.cI 0))) (.var 1))) (.seq (.setC 0 (.cI 0) (.op2 .fdiv (.idx (.var 0) (.cI 0)) (.var 1))) (.ret (.var 2)))) .skip) (.seq (.setC 0 (.cI 1) (.op2 .mod (.b1 .int (.op2 .add (.op2 .mul (.idx (.var 0) (.cI 1)) (.cI 31051)) (.cI 7993))) (.cI 2147483543))) (.seq (.asg 3 (.op2 .mod (.b1 .int (.op2 .mul (.idx (.var 0) (.cI 1)) (.op2 .add (.idx (.var 0) (.cI 1)) (.cI 229)))) (.cI 2147483587))) (.ret (.op2 .mod (.b1 .int (.op2 .fdiv (.var 3) (.cI 821))) (.var 1))))))⟩
def F__law_counts : Fn := ⟨"_law_counts", ["most"], ["most", "found", "size", "whole", "choice", "at"], true,
  (.seq (.asgO 1 (.lst (.cons (.cI 1) (.cons (.cI 1) .nil)))) (.seq (.while_ [1] (.op2 .le (.b1 .len (.var 1)) (.var 0)) (.seq (.par [2, 3, 4] [false, false, false] (.cons (.op2 .sub (.b1 .len (.var 1)) (.cI 1)) (.cons (.cI 0) (.cons (.cI 1) .nil)))) (.seq (.for_ [1] (.one 5) (.itR (.cons (.op2 .add (.var 2) (.cI 1)) .nil)) (.seq (.par [3, 4] [false, false] (.cons (.op2 .add (.var 3) (.op2 .mul (.op2 .mul (.var 4) (.idx (.var 1) (.var 5))) (.idx (.var 1) (.op2 .sub (.var 2) (.var 5))))) (.cons (.b1 .int (.op2 .fdiv (.op2 .mul (.var 4) (.op2 .sub (.var 2) (.var 5))) (.op2 .add (.var 5) (.cI 1)))) .nil))) .skip)) (.seq (.app 1 (.b1 .int (.op2 .fdiv (.var 3) (.cI 2)))) .skip)))) (.ret (.slc (.var 1) .cN (.op2 .add (.var 0) (.cI 1))))))⟩
def F__law_some : Fn := ⟨"_law_some", ["cup", "things"], ["cup", "things"], false,
  (.ret (.idx (.var 1) (.call 28 (.cons (.var 0) (.cons (.b1 .len (.var 1)) .nil)))))⟩
def F__law_order : Fn := ⟨"_law_order", ["cup", "many"], ["cup", "many", "left", "found"], true,
  (.seq (.par [2, 3] [true, true] (.cons (.b1 .listR (.tup (.cons (.var 1) .nil))) (.cons (.lst .nil) .nil))) (.seq (.while_ [3, 2] (.op2 .ne (.var 2) (.lst .nil)) (.seq (.popA 3 2 (.call 28 (.cons (.var 0) (.cons (.b1 .len (.var 2)) .nil)))) .skip)) (.ret (.b1 .tuple (.var 3)))))⟩
def F__law_near_order : Fn := ⟨"_law_near_order", ["cup", "many"], ["cup", "many", "way", "found", "turn", "one", "other", "held"], true,
  (.seq (.par [2, 3] [false, true] (.cons (.call 28 (.cons (.var 0) (.cons (.cI 4) .nil))) (.cons (.b1 .listR (.tup (.cons (.var 1) .nil))) .nil))) (.seq (.ite (.op2 .lt (.var 2) (.cI 2)) (.ret (.call 31 (.cons (.var 0) (.cons (.var 1) .nil)))) .skip) (.seq (.for_ [3] (.one 4) (.itR (.cons (.ite (.op2 .gt (.var 1) (.cI 0)) (.call 28 (.cons (.var 0) (.cons (.cI 4) .nil))) (.cI 0)) .nil)) (.seq (.par [5, 6] [false, false] (.cons (.call 28 (.cons (.var 0) (.cons (.var 1) .nil))) (.cons (.call 28 (.cons (.var 0) (.cons (.var 1) .nil))) .nil))) (.seq (.asg 7 (.idx (.var 3) (.var 5))) (.seq (.setI 3 (.var 5) (.idx (.var 3) (.var 6))) (.seq (.setI 3 (.var 6) (.var 7)) .skip))))) (.ret (.ite (.op2 .eq (.var 2) (.cI 2)) (.b1 .tuple (.var 3)) (.b1 .tuple (.rev (.var 3))))))))⟩
def F__law_triangle : Fn := ⟨"_law_triangle", ["size"], ["size", "row", "many", "later", "one"], true,
  (.seq (.asg 1 (.lst (.cons (.cI 1) .nil))) (.seq (.for_ [] (.one 2) (.itR (.cons (.cI 2) (.cons (.op2 .add (.var 0) (.cI 1)) .nil))) (.seq (.asgO 3 (.lst (.cons (.cI 0) .nil))) (.seq (.for_ [3] (.one 4) (.itV (.rev (.var 1))) (.seq (.app 3 (.op2 .add (.idx (.var 3) (.neg (.cI 1))) (.var 4))) .skip)) (.seq (.frz 3) (.seq (.asg 1 (.var 3)) .skip))))) (.ret (.rev (.var 1)))))⟩
def F_is_order : Fn := ⟨"is_order", ["value"], ["value"], true,
  (.ret (.call 18 (.cons (.var 0) .nil)))⟩
def F_fall_places : Fn := ⟨"fall_places", ["order"], ["order"], true,
  (.seq (.exp (.call 19 (.cons (.var 0) .nil))) (.ret (.b1 .tuple (.call 20 (.cons (.var 0) .nil)))))⟩
def F_upside_down_in : Fn := ⟨"upside_down_in", ["order"], ["order", "value"], true,
  (.ret (.b1 .tuple (.comp (.one 1) (.itV (.var 0)) (.cB true) (.op2 .sub (.op2 .sub (.b1 .len (.var 0)) (.cI 1)) (.var 1)))))⟩
def F_upside_down : Fn := ⟨"upside_down", ["order"], ["order"], true,
  (.seq (.exp (.call 19 (.cons (.var 0) .nil))) (.ret (.call 36 (.cons (.var 0) .nil))))⟩
def F__law_right : Fn := ⟨"_law_right", ["cup", "size"], ["cup", "size", "counts", "whole", "number", "order", "ahead", "drawn", "first"], true,
  (.seq (.asg 2 (.call 29 (.cons (.var 1) .nil))) (.seq (.asg 3 (.idx (.var 2) (.neg (.cI 1)))) (.seq (.ite (.not (.call 12 (.cons (.call 16 (.cons (.var 1) .nil)) (.cons (.var 3) .nil)))) (.ret (.cB false)) .skip) (.seq (.ite (.and (.op2 .gt (.var 1) (.cI 0)) (.not (.call 12 (.cons (.comp (.one 8) (.itR (.cons (.var 1) .nil)) (.cB true) (.call 26 (.cons (.var 1) (.cons (.var 8) .nil)))) (.cons (.call 33 (.cons (.var 1) .nil)) .nil))))) (.ret (.cB false)) .skip) (.seq (.asg 4 (.call 30 (.cons (.var 0) (.cons (.lst (.cons (.cI 0) (.cons (.op2 .sub (.var 3) (.cI 1)) (.cons (.call 28 (.cons (.var 0) (.cons (.var 3) .nil))) .nil)))) .nil)))) (.seq (.asg 5 (.call 10 (.cons (.var 1) (.cons (.var 4) .nil)))) (.seq (.ite (.not (.call 12 (.cons (.lst (.cons (.call 34 (.cons (.var 5) .nil)) (.cons (.call 25 (.cons (.var 5) .nil)) (.cons (.call 23 (.cons (.var 5) .nil)) (.cons (.call 35 (.cons (.var 5) .nil)) .nil))))) (.cons (.lst (.cons (.cB true) (.cons (.cB true) (.cons (.var 4) (.cons (.b1 .tupleR (.tup (.cons (.cI 2) (.cons (.var 1) (.cons (.cI 2) .nil))))) .nil))))) .nil)))) (.ret (.cB false)) .skip) (.seq (.ite (.or (.op2 .ne (.b1 .len (.var 5)) (.var 1)) (.not (.call 15 (.cons (.var 5) .nil)))) (.ret (.cB false)) .skip) (.seq (.ite (.and (.op2 .lt (.op2 .add (.var 4) (.cI 1)) (.var 3)) (.not (.op2 .lt (.var 5) (.call 10 (.cons (.var 1) (.cons (.op2 .add (.var 4) (.cI 1)) .nil)))))) (.ret (.cB false)) .skip) (.seq (.ite (.op2 .gt (.var 1) (.cI 0)) (.seq (.asg 6 (.b1 .sum (.slc (.call 33 (.cons (.var 1) .nil)) .cN (.idx (.var 5) (.cI 0))))) (.seq (.ite (.not (.chain .le .lt (.var 6) (.var 4) (.op2 .add (.var 6) (.idx (.call 33 (.cons (.var 1) .nil)) (.idx (.var 5) (.cI 0)))))) (.ret (.cB false)) .skip) .skip)) .skip) (.seq (.asg 7 (.b1 .tuple (.call 32 (.cons (.var 0) (.cons (.var 1) .nil))))) (.ret (.call 12 (.cons (.lst (.cons (.call 25 (.cons (.var 7) .nil)) (.cons (.call 25 (.cons (.call 37 (.cons (.var 5) .nil)) .nil)) .nil))) (.cons (.lst (.cons (.call 15 (.cons (.var 7) .nil)) (.cons (.op2 .lt (.var 1) (.cI 2)) .nil))) .nil)))))))))))))))⟩
def F_law : Fn := ⟨"law", ["script"], ["script", "cup", "size"], true,
  (.seq (.ite (.not (.call 27 .nil)) (.ret (.cB false)) .skip) (.seq (.asg 1 (.call 0 (.cons (.var 0) .nil))) (.seq (.for_ [] (.one 2) (.itV (.tup (.cons (.call 28 (.cons (.var 1) (.cons (.cI 4) .nil))) (.cons (.op2 .add (.cI 4) (.call 28 (.cons (.var 1) (.cons (.cI 5) .nil)))) (.cons (.call 28 (.cons (.var 1) (.cons (.cI 31) .nil))) (.cons (.cI 30) .nil)))))) (.seq (.ite (.not (.call 38 (.cons (.var 1) (.cons (.var 2) .nil)))) (.ret (.cB false)) .skip) .skip)) (.ret (.call 24 (.cons (.call 28 (.cons (.var 1) (.cons (.cI 7) .nil))) .nil))))))⟩
def Φ : Nat → Option Fn
  | 1 => some F_is_integer
  | 2 => some F_is_whole
  | 3 => some F_need_whole
  | 4 => some F_ends_by
  | 5 => some F_able_from
  | 6 => some F_turns_of
  | 7 => some F_zigzag_at
  | 8 => some F_firsts_in
  | 9 => some F_count_in
  | 10 => some F_zigzag_with
  | 11 => some F__law_sort
  | 12 => some F__law_like
  | 13 => some F__law_orders
  | 14 => some F__law_falls
  | 15 => some F__law_is_zigzag
  | 16 => some F_count_zigzags
  | 17 => some F_is_tuple_of
  | 18 => some F_fits_order
  | 19 => some F_need_order
  | 20 => some F_falls_in
  | 21 => some F_is_zigzag_in
  | 22 => some F_number_in
  | 23 => some F_number_of_zigzag
  | 24 => some F__law_small_right
  | 25 => some F_is_zigzag
  | 26 => some F_zigzags_from
  | 27 => some F__law_written_right
  | 28 => some F__law_roll
  | 29 => some F__law_counts
  | 30 => some F__law_some
  | 31 => some F__law_order
  | 32 => some F__law_near_order
  | 33 => some F__law_triangle
  | 34 => some F_is_order
  | 35 => some F_fall_places
  | 36 => some F_upside_down_in
  | 37 => some F_upside_down
  | 38 => some F__law_right
  | 39 => some F_law
  | _ => none
/-- what the top has left -/
structure MF (K : Fg) (mg : Str → Option Value) : Prop where
  b_abs : mg "abs" = none
  b_all : mg "all" = none
  b_bool : mg "bool" = none
  b_enumerate : mg "enumerate" = none
  b_int : mg "int" = none
  b_isinstance : mg "isinstance" = none
  b_len : mg "len" = none
  b_list : mg "list" = none
  b_range : mg "range" = none
  b_sorted : mg "sorted" = none
  b_str : mg "str" = none
  b_sum : mg "sum" = none
  b_tuple : mg "tuple" = none
  b_zip : mg "zip" = none
  c_MOST_basics : ∃ t, mg "MOST_basics" = some (.int 30 t)
  c_MOST_falls : ∃ t, mg "MOST_falls" = some (.int 30 t)
  d__law_cup : ∃ fd, FunD K "_law_cup" "_law_cup" (defArgs (top 35)) (defBody (top 35)) (defScope (top 35)) [] [] (He.fAd K ("_law_cup", none)) fd
  g__law_cup : mg "_law_cup" = some (.ref (He.fAd K ("_law_cup", none)))
  d_is_integer : ∃ fd, FunD K "is_integer" "is_integer" (defArgs (top 6)) (defBody (top 6)) (defScope (top 6)) [] [] (He.fAd K ("is_integer", none)) fd
  g_is_integer : mg "is_integer" = some (.ref (He.fAd K ("is_integer", none)))
  d_is_whole : ∃ fd, FunD K "is_whole" "is_whole" (defArgs (top 7)) (defBody (top 7)) (defScope (top 7)) [] [] (He.fAd K ("is_whole", none)) fd
  g_is_whole : mg "is_whole" = some (.ref (He.fAd K ("is_whole", none)))
  d_need_whole : ∃ fd, FunD K "need_whole" "need_whole" (defArgs (top 8)) (defBody (top 8)) (defScope (top 8)) [] [] (He.fAd K ("need_whole", none)) fd
  g_need_whole : mg "need_whole" = some (.ref (He.fAd K ("need_whole", none)))
  d_ends_by : ∃ fd, FunD K "ends_by" "ends_by" (defArgs (top 20)) (defBody (top 20)) (defScope (top 20)) [] [] (He.fAd K ("ends_by", none)) fd
  g_ends_by : mg "ends_by" = some (.ref (He.fAd K ("ends_by", none)))
  d_able_from : ∃ fd, FunD K "able_from" "able_from" (defArgs (top 26)) (defBody (top 26)) (defScope (top 26)) [] [] (He.fAd K ("able_from", none)) fd
  g_able_from : mg "able_from" = some (.ref (He.fAd K ("able_from", none)))
  d_turns_of : ∃ fd, FunD K "turns_of" "turns_of" (defArgs (top 22)) (defBody (top 22)) (defScope (top 22)) [] [] (He.fAd K ("turns_of", none)) fd
  g_turns_of : mg "turns_of" = some (.ref (He.fAd K ("turns_of", none)))
  d_zigzag_at : ∃ fd, FunD K "zigzag_at" "zigzag_at" (defArgs (top 27)) (defBody (top 27)) (defScope (top 27)) [] [] (He.fAd K ("zigzag_at", none)) fd
  g_zigzag_at : mg "zigzag_at" = some (.ref (He.fAd K ("zigzag_at", none)))
  d_firsts_in : ∃ fd, FunD K "firsts_in" "firsts_in" (defArgs (top 24)) (defBody (top 24)) (defScope (top 24)) [] [] (He.fAd K ("firsts_in", none)) fd
  g_firsts_in : mg "firsts_in" = some (.ref (He.fAd K ("firsts_in", none)))
  d_count_in : ∃ fd, FunD K "count_in" "count_in" (defArgs (top 25)) (defBody (top 25)) (defScope (top 25)) [] [] (He.fAd K ("count_in", none)) fd
  g_count_in : mg "count_in" = some (.ref (He.fAd K ("count_in", none)))
  d_zigzag_with : ∃ fd, FunD K "zigzag_with" "zigzag_with" (defArgs (top 32)) (defBody (top 32)) (defScope (top 32)) [] [] (He.fAd K ("zigzag_with", none)) fd
  g_zigzag_with : mg "zigzag_with" = some (.ref (He.fAd K ("zigzag_with", none)))
  d__law_sort : ∃ fd, FunD K "_law_sort" "_law_sort" (defArgs (top 38)) (defBody (top 38)) (defScope (top 38)) [] [] (He.fAd K ("_law_sort", none)) fd
  g__law_sort : mg "_law_sort" = some (.ref (He.fAd K ("_law_sort", none)))
  d__law_like : ∃ fd, FunD K "_law_like" "_law_like" (defArgs (top 39)) (defBody (top 39)) (defScope (top 39)) [] [] (He.fAd K ("_law_like", none)) fd
  g__law_like : mg "_law_like" = some (.ref (He.fAd K ("_law_like", none)))
  d__law_orders : ∃ fd, FunD K "_law_orders" "_law_orders" (defArgs (top 42)) (defBody (top 42)) (defScope (top 42)) [] [] (He.fAd K ("_law_orders", none)) fd
  g__law_orders : mg "_law_orders" = some (.ref (He.fAd K ("_law_orders", none)))
  d__law_falls : ∃ fd, FunD K "_law_falls" "_law_falls" (defArgs (top 43)) (defBody (top 43)) (defScope (top 43)) [] [] (He.fAd K ("_law_falls", none)) fd
  g__law_falls : mg "_law_falls" = some (.ref (He.fAd K ("_law_falls", none)))
  d__law_is_zigzag : ∃ fd, FunD K "_law_is_zigzag" "_law_is_zigzag" (defArgs (top 44)) (defBody (top 44)) (defScope (top 44)) [] [] (He.fAd K ("_law_is_zigzag", none)) fd
  g__law_is_zigzag : mg "_law_is_zigzag" = some (.ref (He.fAd K ("_law_is_zigzag", none)))
  d_count_zigzags : ∃ fd, FunD K "count_zigzags" "count_zigzags" (defArgs (top 30)) (defBody (top 30)) (defScope (top 30)) [] [] (He.fAd K ("count_zigzags", none)) fd
  g_count_zigzags : mg "count_zigzags" = some (.ref (He.fAd K ("count_zigzags", none)))
  d_is_tuple_of : ∃ fd, FunD K "is_tuple_of" "is_tuple_of" (defArgs (top 9)) (defBody (top 9)) (defScope (top 9)) [] [] (He.fAd K ("is_tuple_of", none)) fd
  g_is_tuple_of : mg "is_tuple_of" = some (.ref (He.fAd K ("is_tuple_of", none)))
  d_fits_order : ∃ fd, FunD K "fits_order" "fits_order" (defArgs (top 10)) (defBody (top 10)) (defScope (top 10)) [] [] (He.fAd K ("fits_order", none)) fd
  g_fits_order : mg "fits_order" = some (.ref (He.fAd K ("fits_order", none)))
  d_need_order : ∃ fd, FunD K "need_order" "need_order" (defArgs (top 11)) (defBody (top 11)) (defScope (top 11)) [] [] (He.fAd K ("need_order", none)) fd
  g_need_order : mg "need_order" = some (.ref (He.fAd K ("need_order", none)))
  d_falls_in : ∃ fd, FunD K "falls_in" "falls_in" (defArgs (top 17)) (defBody (top 17)) (defScope (top 17)) [] [] (He.fAd K ("falls_in", none)) fd
  g_falls_in : mg "falls_in" = some (.ref (He.fAd K ("falls_in", none)))
  d_is_zigzag_in : ∃ fd, FunD K "is_zigzag_in" "is_zigzag_in" (defArgs (top 23)) (defBody (top 23)) (defScope (top 23)) [] [] (He.fAd K ("is_zigzag_in", none)) fd
  g_is_zigzag_in : mg "is_zigzag_in" = some (.ref (He.fAd K ("is_zigzag_in", none)))
  d_number_in : ∃ fd, FunD K "number_in" "number_in" (defArgs (top 28)) (defBody (top 28)) (defScope (top 28)) [] [] (He.fAd K ("number_in", none)) fd
  g_number_in : mg "number_in" = some (.ref (He.fAd K ("number_in", none)))
  d_number_of_zigzag : ∃ fd, FunD K "number_of_zigzag" "number_of_zigzag" (defArgs (top 33)) (defBody (top 33)) (defScope (top 33)) [] [] (He.fAd K ("number_of_zigzag", none)) fd
  g_number_of_zigzag : mg "number_of_zigzag" = some (.ref (He.fAd K ("number_of_zigzag", none)))
  d__law_small_right : ∃ fd, FunD K "_law_small_right" "_law_small_right" (defArgs (top 48)) (defBody (top 48)) (defScope (top 48)) [] [] (He.fAd K ("_law_small_right", none)) fd
  g__law_small_right : mg "_law_small_right" = some (.ref (He.fAd K ("_law_small_right", none)))
  d_is_zigzag : ∃ fd, FunD K "is_zigzag" "is_zigzag" (defArgs (top 29)) (defBody (top 29)) (defScope (top 29)) [] [] (He.fAd K ("is_zigzag", none)) fd
  g_is_zigzag : mg "is_zigzag" = some (.ref (He.fAd K ("is_zigzag", none)))
  d_zigzags_from : ∃ fd, FunD K "zigzags_from" "zigzags_from" (defArgs (top 31)) (defBody (top 31)) (defScope (top 31)) [] [] (He.fAd K ("zigzags_from", none)) fd
  g_zigzags_from : mg "zigzags_from" = some (.ref (He.fAd K ("zigzags_from", none)))
  d__law_written_right : ∃ fd, FunD K "_law_written_right" "_law_written_right" (defArgs (top 49)) (defBody (top 49)) (defScope (top 49)) [] [] (He.fAd K ("_law_written_right", none)) fd
  g__law_written_right : mg "_law_written_right" = some (.ref (He.fAd K ("_law_written_right", none)))
  d__law_roll : ∃ fd, FunD K "_law_roll" "_law_roll" (defArgs (top 36)) (defBody (top 36)) (defScope (top 36)) [] [] (He.fAd K ("_law_roll", none)) fd
  g__law_roll : mg "_law_roll" = some (.ref (He.fAd K ("_law_roll", none)))
  d__law_counts : ∃ fd, FunD K "_law_counts" "_law_counts" (defArgs (top 45)) (defBody (top 45)) (defScope (top 45)) [] [] (He.fAd K ("_law_counts", none)) fd
  g__law_counts : mg "_law_counts" = some (.ref (He.fAd K ("_law_counts", none)))
  d__law_some : ∃ fd, FunD K "_law_some" "_law_some" (defArgs (top 37)) (defBody (top 37)) (defScope (top 37)) [] [] (He.fAd K ("_law_some", none)) fd
  g__law_some : mg "_law_some" = some (.ref (He.fAd K ("_law_some", none)))
  d__law_order : ∃ fd, FunD K "_law_order" "_law_order" (defArgs (top 40)) (defBody (top 40)) (defScope (top 40)) [] [] (He.fAd K ("_law_order", none)) fd
  g__law_order : mg "_law_order" = some (.ref (He.fAd K ("_law_order", none)))
  d__law_near_order : ∃ fd, FunD K "_law_near_order" "_law_near_order" (defArgs (top 41)) (defBody (top 41)) (defScope (top 41)) [] [] (He.fAd K ("_law_near_order", none)) fd
  g__law_near_order : mg "_law_near_order" = some (.ref (He.fAd K ("_law_near_order", none)))
  d__law_triangle : ∃ fd, FunD K "_law_triangle" "_law_triangle" (defArgs (top 46)) (defBody (top 46)) (defScope (top 46)) [] [] (He.fAd K ("_law_triangle", none)) fd
  g__law_triangle : mg "_law_triangle" = some (.ref (He.fAd K ("_law_triangle", none)))
  d_is_order : ∃ fd, FunD K "is_order" "is_order" (defArgs (top 13)) (defBody (top 13)) (defScope (top 13)) [] [] (He.fAd K ("is_order", none)) fd
  g_is_order : mg "is_order" = some (.ref (He.fAd K ("is_order", none)))
  d_fall_places : ∃ fd, FunD K "fall_places" "fall_places" (defArgs (top 18)) (defBody (top 18)) (defScope (top 18)) [] [] (He.fAd K ("fall_places", none)) fd
  g_fall_places : mg "fall_places" = some (.ref (He.fAd K ("fall_places", none)))
  d_upside_down_in : ∃ fd, FunD K "upside_down_in" "upside_down_in" (defArgs (top 12)) (defBody (top 12)) (defScope (top 12)) [] [] (He.fAd K ("upside_down_in", none)) fd
  g_upside_down_in : mg "upside_down_in" = some (.ref (He.fAd K ("upside_down_in", none)))
  d_upside_down : ∃ fd, FunD K "upside_down" "upside_down" (defArgs (top 14)) (defBody (top 14)) (defScope (top 14)) [] [] (He.fAd K ("upside_down", none)) fd
  g_upside_down : mg "upside_down" = some (.ref (He.fAd K ("upside_down", none)))
  d__law_right : ∃ fd, FunD K "_law_right" "_law_right" (defArgs (top 47)) (defBody (top 47)) (defScope (top 47)) [] [] (He.fAd K ("_law_right", none)) fd
  g__law_right : mg "_law_right" = some (.ref (He.fAd K ("_law_right", none)))
  d_law : ∃ fd, FunD K "law" "law" (defArgs (top 50)) (defBody (top 50)) (defScope (top 50)) [] [] (He.fAd K ("law", none)) fd
  g_law : mg "law" = some (.ref (He.fAd K ("law", none)))
structure AllOk (P : Program) (w : World) (K : Fg) (mg : Str → Option Value) (base : Heap) (n : Nat) : Prop where
  f__law_cup : CalP P w K mg base n "_law_cup" 1 false (callN Φ n 0)
  f_is_integer : CalP P w K mg base n "is_integer" 1 true (callN Φ n 1)
  f_is_whole : CalP P w K mg base n "is_whole" 3 true (callN Φ n 2)
  f_need_whole : CalP P w K mg base n "need_whole" 3 true (callN Φ n 3)
  f_ends_by : CalP P w K mg base n "ends_by" 2 true (callN Φ n 4)
  f_able_from : CalP P w K mg base n "able_from" 3 true (callN Φ n 5)
  f_turns_of : CalP P w K mg base n "turns_of" 1 true (callN Φ n 6)
  f_zigzag_at : CalP P w K mg base n "zigzag_at" 2 true (callN Φ n 7)
  f_firsts_in : CalP P w K mg base n "firsts_in" 1 false (callN Φ n 8)
  f_count_in : CalP P w K mg base n "count_in" 1 true (callN Φ n 9)
  f_zigzag_with : CalP P w K mg base n "zigzag_with" 2 true (callN Φ n 10)
  f__law_sort : CalP P w K mg base n "_law_sort" 1 true (callN Φ n 11)
  f__law_like : CalP P w K mg base n "_law_like" 2 true (callN Φ n 12)
  f__law_orders : CalP P w K mg base n "_law_orders" 1 false (callN Φ n 13)
  f__law_falls : CalP P w K mg base n "_law_falls" 1 true (callN Φ n 14)
  f__law_is_zigzag : CalP P w K mg base n "_law_is_zigzag" 1 true (callN Φ n 15)
  f_count_zigzags : CalP P w K mg base n "count_zigzags" 1 true (callN Φ n 16)
  f_is_tuple_of : CalP P w K mg base n "is_tuple_of" 3 true (callN Φ n 17)
  f_fits_order : CalP P w K mg base n "fits_order" 1 true (callN Φ n 18)
  f_need_order : CalP P w K mg base n "need_order" 1 true (callN Φ n 19)
  f_falls_in : CalP P w K mg base n "falls_in" 1 true (callN Φ n 20)
  f_is_zigzag_in : CalP P w K mg base n "is_zigzag_in" 1 true (callN Φ n 21)
  f_number_in : CalP P w K mg base n "number_in" 1 false (callN Φ n 22)
  f_number_of_zigzag : CalP P w K mg base n "number_of_zigzag" 1 false (callN Φ n 23)
  f__law_small_right : CalP P w K mg base n "_law_small_right" 1 true (callN Φ n 24)
  f_is_zigzag : CalP P w K mg base n "is_zigzag" 1 true (callN Φ n 25)
  f_zigzags_from : CalP P w K mg base n "zigzags_from" 2 false (callN Φ n 26)
  f__law_written_right : CalP P w K mg base n "_law_written_right" 0 true (callN Φ n 27)
  f__law_roll : CalP P w K mg base n "_law_roll" 2 false (callN Φ n 28)
  f__law_counts : CalP P w K mg base n "_law_counts" 1 true (callN Φ n 29)
  f__law_some : CalP P w K mg base n "_law_some" 2 false (callN Φ n 30)
  f__law_order : CalP P w K mg base n "_law_order" 2 true (callN Φ n 31)
  f__law_near_order : CalP P w K mg base n "_law_near_order" 2 true (callN Φ n 32)
  f__law_triangle : CalP P w K mg base n "_law_triangle" 1 true (callN Φ n 33)
  f_is_order : CalP P w K mg base n "is_order" 1 true (callN Φ n 34)
  f_fall_places : CalP P w K mg base n "fall_places" 1 true (callN Φ n 35)
  f_upside_down_in : CalP P w K mg base n "upside_down_in" 1 true (callN Φ n 36)
  f_upside_down : CalP P w K mg base n "upside_down" 1 true (callN Φ n 37)
  f__law_right : CalP P w K mg base n "_law_right" 2 true (callN Φ n 38)
section
variable {P : Program} {w : World} {K : Fg} {mg : Str → Option Value} {base : Heap} {n : Nat}
theorem S__law_cup : FnScope ["script", "cell"] ["script"] (defScope (top 35)) := ⟨rfl, rfl, rfl, by decide +kernel, rfl, by decide +kernel, by decide +kernel⟩
theorem ok__law_cup (M : MF K mg) (ih : AllOk P w K mg base n) : CalP P w K mg base (n + 1) "_law_cup" 1 false (callN Φ (n + 1) 0) :=
  calP_cup (O' := []) M.d__law_cup M.g__law_cup S__law_cup rfl (fun _ _ _ _ _ _ us hl => match us, hl with | [_], _ => rfl) fun cdv A outer s H E hr => by
  have hu := room65 hr
  have hN := S__law_cup.nd
  have hc : true = true := rfl
  exact (ss_cons (O1 := []) (s_asg (i := 1) hN rfl (.inl rfl) (val_of_new (sx_b1 (f := .abs) ok_abs rfl M.b_abs PyProof.Rows.boot_abs (arg_of_val (sx_idx (arg_of_new (sx_op2 (o := .add) ok_add (arg_of_new (sx_b1T (f := .list) ok_list rfl M.b_list PyProof.Rows.boot_list (arg_of_val (sx_varV (i := 0) (by decide) rfl (.inl rfl))))) (arg_of_new (sx_lst (lv_cons (val_of_new sx_int) lv_nil))))) (arg_of_new sx_int))))))
    (ss_one (s_retF (sx_lst (lv_cons (val_of_new (sx_iteN (st_cmp (o := .ge) ok_ge (arg_of_val (sx_varV (i := 1) (by decide) rfl (.inl rfl))) (arg_of_new (sx_op2 (o := .pow) ok_pow (arg_of_new sx_int) (arg_of_new sx_int))) (nomark _)) (sx_op2 (o := .fdiv) ok_fdiv (arg_of_val (sx_varV (i := 1) (by decide) rfl (.inl rfl))) (arg_of_new sx_int)) sx_int)) (lv_cons (val_of_new (sx_op2 (o := .add) ok_add (arg_of_new (sx_op2 (o := .mod) ok_mod (arg_of_new (sx_b1T (f := .int) ok_int rfl M.b_int PyProof.Rows.boot_int (arg_of_new (sx_op2 (o := .add) ok_add (arg_of_new (sx_op2 (o := .mul) ok_mul (arg_of_val (sx_varV (i := 1) (by decide) rfl (.inl rfl))) (arg_of_new sx_int))) (arg_of_new sx_int))))) (arg_of_new sx_int))) (arg_of_new sx_int))) lv_nil))))))
theorem S_is_integer : FnScope ["value"] ["value"] (defScope (top 6)) := ⟨rfl, rfl, rfl, by decide +kernel, rfl, by decide +kernel, by decide +kernel⟩
theorem ok_is_integer (M : MF K mg) (ih : AllOk P w K mg base n) : CalP P w K mg base (n + 1) "is_integer" 1 true (callN Φ (n + 1) 1) :=
  calP_of (O' := []) M.d_is_integer M.g_is_integer rfl S_is_integer (show Φ 1 = some F_is_integer from rfl) rfl rfl rfl (fun _ _ _ _ _ _ us hl => match us, hl with | [_], _ => rfl) fun cdv A outer s H E hr => by
  have hu := room65 hr
  have hN := S_is_integer.nd
  have hc : true = true := rfl
  exact (ss_one (s_retF (sx_and (arg_of_new (sx_isi (f := .isInt) (T := "int") isi_int rfl M.b_isinstance rfl M.b_int PyProof.Rows.boot_int (arg_of_val (sx_varV (i := 0) (by decide) rfl (.inl rfl))))) (sx_one (arg_of_new (sx_not (arg_of_new (sx_isi (f := .isBool) (T := "bool") isi_bool rfl M.b_isinstance rfl M.b_bool PyProof.Rows.boot_bool (arg_of_val (sx_varV (i := 0) (by decide) rfl (.inl rfl)))))))))))
theorem S_is_whole : FnScope ["value", "low", "high"] ["value", "low", "high"] (defScope (top 7)) := ⟨rfl, rfl, rfl, by decide +kernel, rfl, by decide +kernel, by decide +kernel⟩
theorem ok_is_whole (M : MF K mg) (ih : AllOk P w K mg base n) : CalP P w K mg base (n + 1) "is_whole" 3 true (callN Φ (n + 1) 2) :=
  calP_of (O' := []) M.d_is_whole M.g_is_whole rfl S_is_whole (show Φ 2 = some F_is_whole from rfl) rfl rfl rfl (fun _ _ _ _ _ _ us hl => match us, hl with | [_, _, _], _ => rfl) fun cdv A outer s H E hr => by
  have hu := room65 hr
  have hN := S_is_whole.nd
  have hc : true = true := rfl
  exact (ss_one (s_retF (sx_and (arg_of_new (sx_call (n := n) (fr := true) (j := 1) ⟨ih.f_is_integer⟩ hr rfl (lv_cons (sx_varV (i := 0) (by decide) rfl (.inl rfl)) lv_nil))) (sx_one (arg_of_new (sx_chain (o := .le) (o' := .le) ok_le ok_le (arg_of_val (sx_varV (i := 1) (by decide) rfl (.inl rfl))) (arg_of_val (sx_varV (i := 0) (by decide) rfl (.inl rfl))) (arg_of_val (sx_varV (i := 2) (by decide) rfl (.inl rfl))) ))))))
theorem S_need_whole : FnScope ["value", "low", "high"] ["value", "low", "high"] (defScope (top 8)) := ⟨rfl, rfl, rfl, by decide +kernel, rfl, by decide +kernel, by decide +kernel⟩
theorem ok_need_whole (M : MF K mg) (ih : AllOk P w K mg base n) : CalP P w K mg base (n + 1) "need_whole" 3 true (callN Φ (n + 1) 3) :=
  calP_of (O' := []) M.d_need_whole M.g_need_whole rfl S_need_whole (show Φ 3 = some F_need_whole from rfl) rfl rfl rfl (fun _ _ _ _ _ _ us hl => match us, hl with | [_, _, _], _ => rfl) fun cdv A outer s H E hr => by
  have hu := room65 hr
  have hN := S_need_whole.nd
  have hc : true = true := rfl
  exact (ss_cons (O1 := []) (s_if (st_not (st_new (sx_call (n := n) (fr := true) (j := 2) ⟨ih.f_is_whole⟩ hr rfl (lv_cons (sx_varV (i := 0) (by decide) rfl (.inl rfl)) (lv_cons (sx_varV (i := 1) (by decide) rfl (.inl rfl)) (lv_cons (sx_varV (i := 2) (by decide) rfl (.inl rfl)) lv_nil))))))
    (ss_one s_raise)
    ss_nil)
    ss_nil)
theorem S_ends_by : FnScope ["size", "places", "found", "place", "later", "left", "lesser"] ["size", "places"] (defScope (top 20)) := ⟨rfl, rfl, rfl, by decide +kernel, rfl, by decide +kernel, by decide +kernel⟩
theorem ok_ends_by (M : MF K mg) (ih : AllOk P w K mg base n) : CalP P w K mg base (n + 1) "ends_by" 2 true (callN Φ (n + 1) 4) :=
  calP_of (O' := [2]) M.d_ends_by M.g_ends_by rfl S_ends_by (show Φ 4 = some F_ends_by from rfl) rfl rfl rfl (fun _ _ _ _ _ _ us hl => match us, hl with | [_, _], _ => rfl) fun cdv A outer s H E hr => by
  have hu := room65 hr
  have hN := S_ends_by.nd
  have hc : true = true := rfl
  exact (ss_cons (O1 := [2]) (s_asgO (i := 2) hN rfl (.inl rfl) (sx_lst (lv_cons (val_of_new (sx_lst (lv_cons (val_of_new sx_int) lv_nil))) lv_nil)))
    (ss_cons (O1 := [2]) (s_for (inv := [2]) PassesOwn.never hc (ti_R3 rfl M.b_range (arg_of_new (sx_op2 (o := .sub) ok_sub (arg_of_val (sx_varV (i := 0) (by decide) rfl (.inl rfl))) (arg_of_new sx_int))) (arg_of_new sx_int) (arg_of_new (sx_neg (arg_of_new sx_int)))) (pg_one (i := 3) hN rfl (.inl rfl))
    (ss_cons (O1 := [2]) (s_parT2 false false hc (pg_name (i := 4) hN rfl (.inr rfl)) (pg_name (i := 5) hN rfl (.inl rfl)) (sx_idx (sx_var (i := 2) rfl (.inl rfl)) (arg_of_new (sx_neg (arg_of_new sx_int)))) (val_of_new (sx_op2 (o := .sub) ok_sub (arg_of_val (sx_varV (i := 0) (by decide) rfl (.inl rfl))) (arg_of_val (sx_varV (i := 3) (by decide) rfl (.inl rfl))))))
    (ss_cons (O1 := [2]) (s_if (st_cmp (o := .isIn) (ok_in hu) (arg_of_val (sx_varV (i := 3) (by decide) rfl (.inl rfl))) (arg_of_val (sx_varV (i := 1) (by decide) rfl (.inl rfl))) (by with_unfolding_all rfl))
    (ss_cons (O1 := [2]) (s_app (i := 2) (by decide) rfl (.inl rfl) (val_of_new (sx_comp [("lesser", 6)] hc hN (ti_R1 rfl M.b_range (arg_of_new (sx_op2 (o := .add) ok_add (arg_of_val (sx_varV (i := 5) (by decide) rfl (.inl rfl))) (arg_of_new sx_int)))) (blkOk_by (by kernel_rfl)) (fun _ _ _ _ _ => (pg_one (i := 6) hN rfl (.inl rfl))) (fun _ _ _ _ _ => ct_nil) (fun _ _ _ _ _ => (val_of_new (sx_b1 (f := .sum) (ok_sum hc) rfl M.b_sum PyProof.Rows.boot_sum (arg_of_new (sx_slc (arg_of_val (sx_varV (i := 4) (by decide) rfl (.inr (.inl rfl)))) sp_none (sp_some (arg_of_val (sx_varV (i := 6) (by decide) rfl (.inl rfl))))))))) rfl (by decide) (by decide))))
    ss_nil)
    (ss_cons (O1 := [2]) (s_app (i := 2) (by decide) rfl (.inl rfl) (val_of_new (sx_comp [("lesser", 6)] hc hN (ti_R1 rfl M.b_range (arg_of_new (sx_op2 (o := .add) ok_add (arg_of_val (sx_varV (i := 5) (by decide) rfl (.inl rfl))) (arg_of_new sx_int)))) (blkOk_by (by kernel_rfl)) (fun _ _ _ _ _ => (pg_one (i := 6) hN rfl (.inl rfl))) (fun _ _ _ _ _ => ct_nil) (fun _ _ _ _ _ => (val_of_new (sx_b1 (f := .sum) (ok_sum hc) rfl M.b_sum PyProof.Rows.boot_sum (arg_of_new (sx_slc (arg_of_val (sx_varV (i := 4) (by decide) rfl (.inr (.inl rfl)))) (sp_some (arg_of_val (sx_varV (i := 6) (by decide) rfl (.inl rfl)))) sp_none))))) rfl (by decide) (by decide))))
    ss_nil))
    ss_nil))
    (by decide) (by decide))
    (ss_one (s_retF (sx_rev (sx_var (i := 2) rfl (.inl rfl)))))))
theorem S_able_from : FnScope ["row", "left", "place", "at", "value"] ["row", "left", "place"] (defScope (top 26)) := ⟨rfl, rfl, rfl, by decide +kernel, rfl, by decide +kernel, by decide +kernel⟩
theorem ok_able_from (M : MF K mg) (ih : AllOk P w K mg base n) : CalP P w K mg base (n + 1) "able_from" 3 true (callN Φ (n + 1) 5) :=
  calP_of (O' := []) M.d_able_from M.g_able_from rfl S_able_from (show Φ 5 = some F_able_from from rfl) rfl rfl rfl (fun _ _ _ _ _ _ us hl => match us, hl with | [_, _, _], _ => rfl) fun cdv A outer s H E hr => by
  have hu := room65 hr
  have hN := S_able_from.nd
  have hc : true = true := rfl
  exact (ss_cons (O1 := []) (s_if (st_cmp (o := .eq) (ok_eq hu) (arg_of_val (sx_varV (i := 2) (by decide) rfl (.inr (.inl rfl)))) (arg_of_new sx_int) (nomark _))
    (ss_one (s_retF (sx_listR hc rfl M.b_list (prg_t1 rfl M.b_range (arg_of_new (sx_b1 (f := .len) ok_len rfl M.b_len PySem.boot_len (arg_of_val (sx_varV (i := 1) (by decide) rfl (.inl rfl)))))))))
    ss_nil)
    (ss_one (s_retF (sx_comp [("at", 3), ("value", 4)] hc hN (ti_E rfl M.b_enumerate (arg_of_val (sx_varV (i := 1) (by decide) rfl (.inl rfl)))) (blkOk_by (by kernel_rfl)) (fun _ _ _ _ _ => (pg_two hc (pg_name (i := 3) hN rfl (.inl rfl)) (pg_name (i := 4) hN rfl (.inl rfl)))) (fun _ _ _ _ _ => ct_one (st_cmp (o := .eq) (ok_eq hu) (arg_of_new (sx_cmp (o := .gt) ok_gt (arg_of_val (sx_idx (arg_of_val (sx_varV (i := 0) (by decide) rfl (.inr (.inl rfl)))) (arg_of_new (sx_neg (arg_of_new sx_int))))) (arg_of_val (sx_varV (i := 4) (by decide) rfl (.inl rfl))) (nomark _))) (arg_of_new (sx_cmp (o := .eq) (ok_eq hu) (arg_of_new (sx_op2 (o := .mod) ok_mod (arg_of_val (sx_varV (i := 2) (by decide) rfl (.inr (.inl rfl)))) (arg_of_new sx_int))) (arg_of_new sx_int) (nomark _))) (nomark _))) (fun _ _ _ _ _ => (sx_varV (i := 3) (by decide) rfl (.inl rfl))) rfl (by decide) (by decide)))))
theorem S_turns_of : FnScope ["size"] ["size"] (defScope (top 22)) := ⟨rfl, rfl, rfl, by decide +kernel, rfl, by decide +kernel, by decide +kernel⟩
theorem ok_turns_of (M : MF K mg) (ih : AllOk P w K mg base n) : CalP P w K mg base (n + 1) "turns_of" 1 true (callN Φ (n + 1) 6) :=
  calP_of (O' := []) M.d_turns_of M.g_turns_of rfl S_turns_of (show Φ 6 = some F_turns_of from rfl) rfl rfl rfl (fun _ _ _ _ _ _ us hl => match us, hl with | [_], _ => rfl) fun cdv A outer s H E hr => by
  have hu := room65 hr
  have hN := S_turns_of.nd
  have hc : true = true := rfl
  exact (ss_one (s_retF (sx_listR3 hc rfl M.b_list rfl M.b_range (arg_of_new sx_int) (arg_of_val (sx_varV (i := 0) (by decide) rfl (.inl rfl))) (arg_of_new sx_int))))
theorem S_zigzag_at : FnScope ["size", "number", "ends", "row", "left", "place", "at"] ["size", "number"] (defScope (top 27)) := ⟨rfl, rfl, rfl, by decide +kernel, rfl, by decide +kernel, by decide +kernel⟩
theorem ok_zigzag_at (M : MF K mg) (ih : AllOk P w K mg base n) : CalP P w K mg base (n + 1) "zigzag_at" 2 true (callN Φ (n + 1) 7) :=
  calP_of (O' := [4, 3]) M.d_zigzag_at M.g_zigzag_at rfl S_zigzag_at (show Φ 7 = some F_zigzag_at from rfl) rfl rfl rfl (fun _ _ _ _ _ _ us hl => match us, hl with | [_, _], _ => rfl) fun cdv A outer s H E hr => by
  have hu := room65 hr
  have hN := S_zigzag_at.nd
  have hc : true = true := rfl
  exact (ss_cons (O1 := [4, 3]) (s_par3 (i := 2) (j := 3) (l := 4) false true true hc hN rfl rfl rfl (by decide) (by decide) (by decide) rfl rfl rfl (val_of_new (sx_call (n := n) (fr := true) (j := 4) ⟨ih.f_ends_by⟩ hr rfl (lv_cons (sx_varV (i := 0) (by decide) rfl (.inl rfl)) (lv_cons (val_of_new (sx_call (n := n) (fr := true) (j := 6) ⟨ih.f_turns_of⟩ hr rfl (lv_cons (sx_varV (i := 0) (by decide) rfl (.inl rfl)) lv_nil))) lv_nil)))) (sx_lst lv_nil) (sx_listR hc rfl M.b_list (prg_t1 rfl M.b_range (arg_of_val (sx_varV (i := 0) (by decide) rfl (.inl rfl))))))
    (ss_cons (O1 := [4, 3]) (s_for (inv := [4, 3]) PassesOwn.never hc (ti_R1 rfl M.b_range (arg_of_val (sx_varV (i := 0) (by decide) rfl (.inl rfl)))) (pg_one (i := 5) hN rfl (.inl rfl))
    (ss_cons (O1 := [4, 3]) (s_for (inv := [4, 3]) PassesOwn.never hc (ti_V (val_of_new (sx_callF (n := n) (j := 5) ⟨ih.f_able_from⟩ hr rfl (la_cons (sx_var (i := 3) rfl (.inl rfl)) (la_cons (sx_var (i := 4) rfl (.inl rfl)) (la_cons (arg_of_val (sx_varV (i := 5) (by decide) rfl (.inl rfl))) la_nil)))))) (pg_one (i := 6) hN rfl (.inl rfl))
    (ss_cons (O1 := [4, 3]) (s_if (st_cmp (o := .lt) (ok_lt hu) (arg_of_val (sx_varV (i := 1) (by decide) rfl (.inl rfl))) (arg_of_val (sx_idx (arg_of_val (sx_idx (arg_of_val (sx_varV (i := 2) (by decide) rfl (.inl rfl))) (arg_of_val (sx_varV (i := 5) (by decide) rfl (.inl rfl))))) (arg_of_val (sx_varV (i := 6) (by decide) rfl (.inl rfl))))) (nomark _))
    (ss_cons (O1 := [4, 3]) (s_popA (i := 4) (j := 3) (by decide) (by decide) (by decide) rfl rfl (.inl rfl) (.inl rfl) (arg_of_val (sx_varV (i := 6) (by decide) rfl (.inl rfl))))
    (ss_one s_brk))
    ss_nil)
    (ss_cons (O1 := [4, 3]) (s_asg (i := 1) hN rfl (.inl rfl) (val_of_new (sx_op2 (o := .sub) ok_sub (arg_of_val (sx_varV (i := 1) (by decide) rfl (.inl rfl))) (arg_of_val (sx_idx (arg_of_val (sx_idx (arg_of_val (sx_varV (i := 2) (by decide) rfl (.inl rfl))) (arg_of_val (sx_varV (i := 5) (by decide) rfl (.inl rfl))))) (arg_of_val (sx_varV (i := 6) (by decide) rfl (.inl rfl))))))))
    ss_nil))
    (by decide) (by decide))
    ss_nil)
    (by decide) (by decide))
    (ss_one (s_retF (sx_b1T (f := .tuple) ok_tuple rfl M.b_tuple PyProof.Rows.boot_tuple (sx_var (i := 3) rfl (.inl rfl)))))))
theorem S_firsts_in : FnScope ["size"] ["size"] (defScope (top 24)) := ⟨rfl, rfl, rfl, by decide +kernel, rfl, by decide +kernel, by decide +kernel⟩
theorem ok_firsts_in (M : MF K mg) (ih : AllOk P w K mg base n) : CalP P w K mg base (n + 1) "firsts_in" 1 false (callN Φ (n + 1) 8) :=
  calP_of (O' := []) M.d_firsts_in M.g_firsts_in rfl S_firsts_in (show Φ 8 = some F_firsts_in from rfl) rfl rfl rfl (fun _ _ _ _ _ _ us hl => match us, hl with | [_], _ => rfl) fun cdv A outer s H E hr => by
  have hu := room65 hr
  have hN := S_firsts_in.nd
  have hc : true = true := rfl
  exact (ss_one (s_retV (sx_iteV (st_cmp (o := .gt) ok_gt (arg_of_val (sx_varV (i := 0) (by decide) rfl (.inl rfl))) (arg_of_new sx_int) (nomark _)) (sx_idx (arg_of_new (sx_call (n := n) (fr := true) (j := 4) ⟨ih.f_ends_by⟩ hr rfl (lv_cons (sx_varV (i := 0) (by decide) rfl (.inl rfl)) (lv_cons (val_of_new (sx_call (n := n) (fr := true) (j := 6) ⟨ih.f_turns_of⟩ hr rfl (lv_cons (sx_varV (i := 0) (by decide) rfl (.inl rfl)) lv_nil))) lv_nil)))) (arg_of_new sx_int)) (val_of_new (sx_lst lv_nil)))))
theorem S_count_in : FnScope ["size"] ["size"] (defScope (top 25)) := ⟨rfl, rfl, rfl, by decide +kernel, rfl, by decide +kernel, by decide +kernel⟩
theorem ok_count_in (M : MF K mg) (ih : AllOk P w K mg base n) : CalP P w K mg base (n + 1) "count_in" 1 true (callN Φ (n + 1) 9) :=
  calP_of (O' := []) M.d_count_in M.g_count_in rfl S_count_in (show Φ 9 = some F_count_in from rfl) rfl rfl rfl (fun _ _ _ _ _ _ us hl => match us, hl with | [_], _ => rfl) fun cdv A outer s H E hr => by
  have hu := room65 hr
  have hN := S_count_in.nd
  have hc : true = true := rfl
  exact (ss_one (s_retF (sx_iteN (st_cmp (o := .gt) ok_gt (arg_of_val (sx_varV (i := 0) (by decide) rfl (.inl rfl))) (arg_of_new sx_int) (nomark _)) (sx_b1 (f := .sum) (ok_sum hc) rfl M.b_sum PyProof.Rows.boot_sum (arg_of_val (sx_call (n := n) (fr := false) (j := 8) ⟨ih.f_firsts_in⟩ hr rfl (lv_cons (sx_varV (i := 0) (by decide) rfl (.inl rfl)) lv_nil)))) sx_int)))
theorem S_zigzag_with : FnScope ["size", "number"] ["size", "number"] (defScope (top 32)) := ⟨rfl, rfl, rfl, by decide +kernel, rfl, by decide +kernel, by decide +kernel⟩
theorem ok_zigzag_with (M : MF K mg) (ih : AllOk P w K mg base n) : CalP P w K mg base (n + 1) "zigzag_with" 2 true (callN Φ (n + 1) 10) :=
  calP_of (O' := []) M.d_zigzag_with M.g_zigzag_with rfl S_zigzag_with (show Φ 10 = some F_zigzag_with from rfl) rfl rfl rfl (fun _ _ _ _ _ _ us hl => match us, hl with | [_, _], _ => rfl) fun cdv A outer s H E hr => by
  have hu := room65 hr
  have hN := S_zigzag_with.nd
  have hc : true = true := rfl
  exact (ss_cons (O1 := []) (s_exp (arg_of_new (sx_call (n := n) (fr := true) (j := 3) ⟨ih.f_need_whole⟩ hr rfl (lv_cons (sx_varV (i := 0) (by decide) rfl (.inl rfl)) (lv_cons (val_of_new sx_int) (lv_cons (val_of_new (sx_gint rfl M.c_MOST_falls)) lv_nil))))))
    (ss_cons (O1 := []) (s_exp (arg_of_new (sx_call (n := n) (fr := true) (j := 3) ⟨ih.f_need_whole⟩ hr rfl (lv_cons (sx_varV (i := 1) (by decide) rfl (.inl rfl)) (lv_cons (val_of_new sx_int) (lv_cons (val_of_new (sx_op2 (o := .sub) ok_sub (arg_of_new (sx_call (n := n) (fr := true) (j := 9) ⟨ih.f_count_in⟩ hr rfl (lv_cons (sx_varV (i := 0) (by decide) rfl (.inl rfl)) lv_nil))) (arg_of_new sx_int))) lv_nil))))))
    (ss_one (s_retF (sx_call (n := n) (fr := true) (j := 7) ⟨ih.f_zigzag_at⟩ hr rfl (lv_cons (sx_varV (i := 0) (by decide) rfl (.inl rfl)) (lv_cons (sx_varV (i := 1) (by decide) rfl (.inl rfl)) lv_nil)))))))
theorem S__law_sort : FnScope ["value"] ["value"] (defScope (top 38)) := ⟨rfl, rfl, rfl, by decide +kernel, rfl, by decide +kernel, by decide +kernel⟩
theorem ok__law_sort (M : MF K mg) (ih : AllOk P w K mg base n) : CalP P w K mg base (n + 1) "_law_sort" 1 true (callN Φ (n + 1) 11) :=
  calP_of (O' := []) M.d__law_sort M.g__law_sort rfl S__law_sort (show Φ 11 = some F__law_sort from rfl) rfl rfl rfl (fun _ _ _ _ _ _ us hl => match us, hl with | [_], _ => rfl) fun cdv A outer s H E hr => by
  have hu := room65 hr
  have hN := S__law_sort.nd
  have hc : true = true := rfl
  exact (ss_cons (O1 := []) (s_if (PW.pt (sw_or (op := .And) (st_isN (arg_of_val (sx_varV (i := 0) (by decide) rfl (.inl rfl))) ) (pw_or1 (st_new (sx_isi (f := .isBool) (T := "bool") isi_bool rfl M.b_isinstance rfl M.b_bool PyProof.Rows.boot_bool (arg_of_val (sx_varV (i := 0) (by decide) rfl (.inl rfl))))))))
    (ss_one (s_retF (sx_iteN (st_isN (arg_of_val (sx_varV (i := 0) (by decide) rfl (.inl rfl))) ) sx_int sx_int)))
    ss_nil)
    (ss_cons (O1 := []) (s_if (PW.pt (sw_or (op := .And) (st_new (sx_isi (f := .isInt) (T := "int") isi_int rfl M.b_isinstance rfl M.b_int PyProof.Rows.boot_int (arg_of_val (sx_varV (i := 0) (by decide) rfl (.inl rfl))))) (pw_or1 (st_new (sx_isi (f := .isStr) (T := "str") isi_str rfl M.b_isinstance rfl M.b_str PyProof.Rows.boot_str (arg_of_val (sx_varV (i := 0) (by decide) rfl (.inl rfl))))))))
    (ss_one (s_retF (sx_iteN (st_new (sx_isi (f := .isInt) (T := "int") isi_int rfl M.b_isinstance rfl M.b_int PyProof.Rows.boot_int (arg_of_val (sx_varV (i := 0) (by decide) rfl (.inl rfl))))) sx_int sx_int)))
    ss_nil)
    (ss_one (s_retF (sx_iteN (st_new (sx_isi (f := .isTuple) (T := "tuple") isi_tuple rfl M.b_isinstance rfl M.b_tuple PyProof.Rows.boot_tuple (arg_of_val (sx_varV (i := 0) (by decide) rfl (.inl rfl))))) sx_int (sx_iteN (st_new (sx_isi (f := .isList) (T := "list") isi_list rfl M.b_isinstance rfl M.b_list PyProof.Rows.boot_list (arg_of_val (sx_varV (i := 0) (by decide) rfl (.inl rfl))))) sx_int sx_int))))))
theorem S__law_like : FnScope ["one", "other", "sort", "first", "second"] ["one", "other"] (defScope (top 39)) := ⟨rfl, rfl, rfl, by decide +kernel, rfl, by decide +kernel, by decide +kernel⟩
theorem ok__law_like (M : MF K mg) (ih : AllOk P w K mg base n) : CalP P w K mg base (n + 1) "_law_like" 2 true (callN Φ (n + 1) 12) :=
  calP_of (O' := []) M.d__law_like M.g__law_like rfl S__law_like (show Φ 12 = some F__law_like from rfl) rfl rfl rfl (fun _ _ _ _ _ _ us hl => match us, hl with | [_, _], _ => rfl) fun cdv A outer s H E hr => by
  have hu := room65 hr
  have hN := S__law_like.nd
  have hc : true = true := rfl
  exact (ss_cons (O1 := []) (s_asg (i := 2) hN rfl (.inl rfl) (val_of_new (sx_call (n := n) (fr := true) (j := 11) ⟨ih.f__law_sort⟩ hr rfl (lv_cons (sx_varV (i := 1) (by decide) rfl (.inl rfl)) lv_nil))))
    (ss_cons (O1 := []) (s_if (PW.pt (sw_or (op := .And) (st_cmp (o := .ne) (ok_ne hu) (arg_of_new (sx_call (n := n) (fr := true) (j := 11) ⟨ih.f__law_sort⟩ hr rfl (lv_cons (sx_varV (i := 0) (by decide) rfl (.inl rfl)) lv_nil))) (arg_of_val (sx_varV (i := 2) (by decide) rfl (.inl rfl))) (nomark _)) (pw_or1 (st_cmp (o := .eq) (ok_eq hu) (arg_of_val (sx_varV (i := 2) (by decide) rfl (.inl rfl))) (arg_of_new sx_int) (nomark _)))))
    (ss_one (s_retF sx_bl))
    ss_nil)
    (ss_cons (O1 := []) (s_if (st_cmp (o := .isIn) (ok_in hu) (arg_of_val (sx_varV (i := 2) (by decide) rfl (.inl rfl))) (arg_of_new (sx_tup (lv_cons (val_of_new sx_int) (lv_cons (val_of_new sx_int) lv_nil)))) (by with_unfolding_all rfl))
    (ss_one (s_retF (sx_and (arg_of_new (sx_cmp (o := .eq) (ok_eq hu) (arg_of_new (sx_b1 (f := .len) ok_len rfl M.b_len PySem.boot_len (arg_of_val (sx_varV (i := 0) (by decide) rfl (.inl rfl))))) (arg_of_new (sx_b1 (f := .len) ok_len rfl M.b_len PySem.boot_len (arg_of_val (sx_varV (i := 1) (by decide) rfl (.inl rfl))))) (nomark _))) (sx_one (arg_of_new (sx_cmp (o := .eq) (ok_eq hu) (arg_of_new (sx_comp [("first", 3), ("second", 4)] hc hN (ti_Z rfl M.b_zip (arg_of_val (sx_varV (i := 0) (by decide) rfl (.inl rfl))) (arg_of_val (sx_varV (i := 1) (by decide) rfl (.inl rfl)))) (blkOk_by (by kernel_rfl)) (fun _ _ _ _ _ => (pg_two hc (pg_name (i := 3) hN rfl (.inl rfl)) (pg_name (i := 4) hN rfl (.inl rfl)))) (fun _ _ _ _ _ => ct_one (st_not (st_new (sx_call (n := n) (fr := true) (j := 12) ⟨ih.f__law_like⟩ hr rfl (lv_cons (sx_varV (i := 3) (by decide) rfl (.inl rfl)) (lv_cons (sx_varV (i := 4) (by decide) rfl (.inl rfl)) lv_nil)))))) (fun _ _ _ _ _ => (val_of_new sx_int)) rfl (by decide) (by decide))) (arg_of_new (sx_lst lv_nil)) (nomark _)))))))
    ss_nil)
    (ss_one (s_retF (sx_cmp (o := .eq) (ok_eq hu) (arg_of_val (sx_varV (i := 0) (by decide) rfl (.inl rfl))) (arg_of_val (sx_varV (i := 1) (by decide) rfl (.inl rfl))) (nomark _)))))))
theorem S__law_orders : FnScope ["many", "found", "turn", "longer", "some", "value"] ["many"] (defScope (top 42)) := ⟨rfl, rfl, rfl, by decide +kernel, rfl, by decide +kernel, by decide +kernel⟩
theorem ok__law_orders (M : MF K mg) (ih : AllOk P w K mg base n) : CalP P w K mg base (n + 1) "_law_orders" 1 false (callN Φ (n + 1) 13) :=
  calP_of (O' := []) M.d__law_orders M.g__law_orders rfl S__law_orders (show Φ 13 = some F__law_orders from rfl) rfl rfl rfl (fun _ _ _ _ _ _ us hl => match us, hl with | [_], _ => rfl) fun cdv A outer s H E hr => by
  have hu := room65 hr
  have hN := S__law_orders.nd
  have hc : true = true := rfl
  exact (ss_cons (O1 := []) (s_asg (i := 1) hN rfl (.inl rfl) (val_of_new (sx_lst (lv_cons (val_of_new (sx_tup lv_nil)) lv_nil))))
    (ss_cons (O1 := []) (s_for (inv := []) PassesOwn.never hc (ti_R1 rfl M.b_range (arg_of_val (sx_varV (i := 0) (by decide) rfl (.inl rfl)))) (pg_one (i := 2) hN rfl (.inl rfl))
    (ss_cons (O1 := []) (s_asg (i := 3) hN rfl (.inl rfl) (val_of_new (sx_lst lv_nil)))
    (ss_cons (O1 := []) (s_for (inv := []) PassesOwn.never hc (ti_V (sx_varV (i := 1) (by decide) rfl (.inl rfl))) (pg_one (i := 4) hN rfl (.inr rfl))
    (ss_cons (O1 := []) (s_asg (i := 3) hN rfl (.inl rfl) (val_of_new (sx_op2 (o := .add) ok_add (arg_of_val (sx_varV (i := 3) (by decide) rfl (.inl rfl))) (arg_of_new (sx_comp [("value", 5)] hc hN (ti_R1 rfl M.b_range (arg_of_val (sx_varV (i := 0) (by decide) rfl (.inl rfl)))) (blkOk_by (by kernel_rfl)) (fun _ _ _ _ _ => (pg_one (i := 5) hN rfl (.inl rfl))) (fun _ _ _ _ _ => ct_one (st_cmp (o := .notIn) (ok_notIn hu) (arg_of_val (sx_varV (i := 5) (by decide) rfl (.inl rfl))) (arg_of_val (sx_varV (i := 4) (by decide) rfl (.inr (.inl rfl)))) (by with_unfolding_all rfl))) (fun _ _ _ _ _ => (val_of_new (sx_op2 (o := .add) ok_add (arg_of_val (sx_varV (i := 4) (by decide) rfl (.inr (.inl rfl)))) (arg_of_new (sx_tup (lv_cons (sx_varV (i := 5) (by decide) rfl (.inl rfl)) lv_nil)))))) rfl (by decide) (by decide))))))
    ss_nil)
    (by decide) (by decide))
    (ss_cons (O1 := []) (s_asg (i := 1) hN rfl (.inl rfl) (sx_varV (i := 3) (by decide) rfl (.inl rfl)))
    ss_nil)))
    (by decide) (by decide))
    (ss_one (s_retV (sx_varV (i := 1) (by decide) rfl (.inl rfl))))))
theorem S__law_falls : FnScope ["row", "place"] ["row"] (defScope (top 43)) := ⟨rfl, rfl, rfl, by decide +kernel, rfl, by decide +kernel, by decide +kernel⟩
theorem ok__law_falls (M : MF K mg) (ih : AllOk P w K mg base n) : CalP P w K mg base (n + 1) "_law_falls" 1 true (callN Φ (n + 1) 14) :=
  calP_of (O' := []) M.d__law_falls M.g__law_falls rfl S__law_falls (show Φ 14 = some F__law_falls from rfl) rfl rfl rfl (fun _ _ _ _ _ _ us hl => match us, hl with | [_], _ => rfl) fun cdv A outer s H E hr => by
  have hu := room65 hr
  have hN := S__law_falls.nd
  have hc : true = true := rfl
  exact (ss_one (s_retF (sx_b1T (f := .tuple) ok_tuple rfl M.b_tuple PyProof.Rows.boot_tuple (arg_of_new (sx_comp [("place", 1)] hc hN (ti_R2 rfl M.b_range (arg_of_new sx_int) (arg_of_new (sx_b1 (f := .len) ok_len rfl M.b_len PySem.boot_len (arg_of_val (sx_varV (i := 0) (by decide) rfl (.inr (.inl rfl))))))) (blkOk_by (by kernel_rfl)) (fun _ _ _ _ _ => (pg_one (i := 1) hN rfl (.inl rfl))) (fun _ _ _ _ _ => ct_one (st_cmp (o := .lt) (ok_lt hu) (arg_of_val (sx_idx (arg_of_val (sx_varV (i := 0) (by decide) rfl (.inr (.inl rfl)))) (arg_of_val (sx_varV (i := 1) (by decide) rfl (.inl rfl))))) (arg_of_val (sx_idx (arg_of_val (sx_varV (i := 0) (by decide) rfl (.inr (.inl rfl)))) (arg_of_new (sx_op2 (o := .sub) ok_sub (arg_of_val (sx_varV (i := 1) (by decide) rfl (.inl rfl))) (arg_of_new sx_int))))) (nomark _))) (fun _ _ _ _ _ => (sx_varV (i := 1) (by decide) rfl (.inl rfl))) rfl (by decide) (by decide))))))
theorem S__law_is_zigzag : FnScope ["order"] ["order"] (defScope (top 44)) := ⟨rfl, rfl, rfl, by decide +kernel, rfl, by decide +kernel, by decide +kernel⟩
theorem ok__law_is_zigzag (M : MF K mg) (ih : AllOk P w K mg base n) : CalP P w K mg base (n + 1) "_law_is_zigzag" 1 true (callN Φ (n + 1) 15) :=
  calP_of (O' := []) M.d__law_is_zigzag M.g__law_is_zigzag rfl S__law_is_zigzag (show Φ 15 = some F__law_is_zigzag from rfl) rfl rfl rfl (fun _ _ _ _ _ _ us hl => match us, hl with | [_], _ => rfl) fun cdv A outer s H E hr => by
  have hu := room65 hr
  have hN := S__law_is_zigzag.nd
  have hc : true = true := rfl
  exact (ss_one (s_retF (sx_cmp (o := .eq) (ok_eq hu) (arg_of_new (sx_call (n := n) (fr := true) (j := 14) ⟨ih.f__law_falls⟩ hr rfl (lv_cons (sx_varV (i := 0) (by decide) rfl (.inl rfl)) lv_nil))) (arg_of_new (sx_tupleR3 hc rfl M.b_tuple rfl M.b_range (arg_of_new sx_int) (arg_of_new (sx_b1 (f := .len) ok_len rfl M.b_len PySem.boot_len (arg_of_val (sx_varV (i := 0) (by decide) rfl (.inl rfl))))) (arg_of_new sx_int))) (nomark _))))
theorem S_count_zigzags : FnScope ["size"] ["size"] (defScope (top 30)) := ⟨rfl, rfl, rfl, by decide +kernel, rfl, by decide +kernel, by decide +kernel⟩
theorem ok_count_zigzags (M : MF K mg) (ih : AllOk P w K mg base n) : CalP P w K mg base (n + 1) "count_zigzags" 1 true (callN Φ (n + 1) 16) :=
  calP_of (O' := []) M.d_count_zigzags M.g_count_zigzags rfl S_count_zigzags (show Φ 16 = some F_count_zigzags from rfl) rfl rfl rfl (fun _ _ _ _ _ _ us hl => match us, hl with | [_], _ => rfl) fun cdv A outer s H E hr => by
  have hu := room65 hr
  have hN := S_count_zigzags.nd
  have hc : true = true := rfl
  exact (ss_cons (O1 := []) (s_exp (arg_of_new (sx_call (n := n) (fr := true) (j := 3) ⟨ih.f_need_whole⟩ hr rfl (lv_cons (sx_varV (i := 0) (by decide) rfl (.inl rfl)) (lv_cons (val_of_new sx_int) (lv_cons (val_of_new (sx_gint rfl M.c_MOST_falls)) lv_nil))))))
    (ss_one (s_retF (sx_call (n := n) (fr := true) (j := 9) ⟨ih.f_count_in⟩ hr rfl (lv_cons (sx_varV (i := 0) (by decide) rfl (.inl rfl)) lv_nil)))))
theorem S_is_tuple_of : FnScope ["value", "low", "high"] ["value", "low", "high"] (defScope (top 9)) := ⟨rfl, rfl, rfl, by decide +kernel, rfl, by decide +kernel, by decide +kernel⟩
theorem ok_is_tuple_of (M : MF K mg) (ih : AllOk P w K mg base n) : CalP P w K mg base (n + 1) "is_tuple_of" 3 true (callN Φ (n + 1) 17) :=
  calP_of (O' := []) M.d_is_tuple_of M.g_is_tuple_of rfl S_is_tuple_of (show Φ 17 = some F_is_tuple_of from rfl) rfl rfl rfl (fun _ _ _ _ _ _ us hl => match us, hl with | [_, _, _], _ => rfl) fun cdv A outer s H E hr => by
  have hu := room65 hr
  have hN := S_is_tuple_of.nd
  have hc : true = true := rfl
  exact (ss_one (s_retF (sx_and (arg_of_new (sx_isi (f := .isTuple) (T := "tuple") isi_tuple rfl M.b_isinstance rfl M.b_tuple PyProof.Rows.boot_tuple (arg_of_val (sx_varV (i := 0) (by decide) rfl (.inl rfl))))) (sx_one (arg_of_new (sx_chain (o := .le) (o' := .le) ok_le ok_le (arg_of_val (sx_varV (i := 1) (by decide) rfl (.inl rfl))) (arg_of_new (sx_b1 (f := .len) ok_len rfl M.b_len PySem.boot_len (arg_of_val (sx_varV (i := 0) (by decide) rfl (.inl rfl))))) (arg_of_val (sx_varV (i := 2) (by decide) rfl (.inl rfl))) ))))))
theorem S_fits_order : FnScope ["value", "one"] ["value"] (defScope (top 10)) := ⟨rfl, rfl, rfl, by decide +kernel, rfl, by decide +kernel, by decide +kernel⟩
theorem ok_fits_order (M : MF K mg) (ih : AllOk P w K mg base n) : CalP P w K mg base (n + 1) "fits_order" 1 true (callN Φ (n + 1) 18) :=
  calP_of (O' := []) M.d_fits_order M.g_fits_order rfl S_fits_order (show Φ 18 = some F_fits_order from rfl) rfl rfl rfl (fun _ _ _ _ _ _ us hl => match us, hl with | [_], _ => rfl) fun cdv A outer s H E hr => by
  have hu := room65 hr
  have hN := S_fits_order.nd
  have hc : true = true := rfl
  exact (ss_cons (O1 := []) (s_if (PW.pt (sw_or (op := .And) (st_not (st_new (sx_call (n := n) (fr := true) (j := 17) ⟨ih.f_is_tuple_of⟩ hr rfl (lv_cons (sx_varV (i := 0) (by decide) rfl (.inr (.inl rfl))) (lv_cons (val_of_new sx_int) (lv_cons (val_of_new (sx_gint rfl M.c_MOST_basics)) lv_nil)))))) (pw_or1 (st_not (st_new (sx_b1 (f := .all) (ok_all hc) rfl M.b_all PyProof.Rows.boot_all (arg_of_new (sx_comp [("one", 1)] hc hN (ti_V (arg_of_val (sx_varV (i := 0) (by decide) rfl (.inr (.inl rfl))))) (blkOk_by (by kernel_rfl)) (fun _ _ _ _ _ => (pg_one (i := 1) hN rfl (.inl rfl))) (fun _ _ _ _ _ => ct_nil) (fun _ _ _ _ _ => (val_of_new (sx_call (n := n) (fr := true) (j := 2) ⟨ih.f_is_whole⟩ hr rfl (lv_cons (sx_varV (i := 1) (by decide) rfl (.inl rfl)) (lv_cons (val_of_new sx_int) (lv_cons (val_of_new (sx_op2 (o := .sub) ok_sub (arg_of_new (sx_b1 (f := .len) ok_len rfl M.b_len PySem.boot_len (arg_of_val (sx_varV (i := 0) (by decide) rfl (.inr (.inl rfl)))))) (arg_of_new sx_int))) lv_nil)))))) rfl (by decide) (by decide)))))))))
    (ss_one (s_retF sx_bl))
    ss_nil)
    (ss_one (s_retF (sx_cmp (o := .eq) (ok_eq hu) (arg_of_new (sx_b1 (f := .sorted) ok_sorted rfl M.b_sorted PyProof.Rows.boot_sorted (arg_of_val (sx_varV (i := 0) (by decide) rfl (.inr (.inl rfl)))))) (arg_of_new (sx_listR hc rfl M.b_list (prg_t1 rfl M.b_range (arg_of_new (sx_b1 (f := .len) ok_len rfl M.b_len PySem.boot_len (arg_of_val (sx_varV (i := 0) (by decide) rfl (.inr (.inl rfl))))))))) (nomark _)))))
theorem S_need_order : FnScope ["value"] ["value"] (defScope (top 11)) := ⟨rfl, rfl, rfl, by decide +kernel, rfl, by decide +kernel, by decide +kernel⟩
theorem ok_need_order (M : MF K mg) (ih : AllOk P w K mg base n) : CalP P w K mg base (n + 1) "need_order" 1 true (callN Φ (n + 1) 19) :=
  calP_of (O' := []) M.d_need_order M.g_need_order rfl S_need_order (show Φ 19 = some F_need_order from rfl) rfl rfl rfl (fun _ _ _ _ _ _ us hl => match us, hl with | [_], _ => rfl) fun cdv A outer s H E hr => by
  have hu := room65 hr
  have hN := S_need_order.nd
  have hc : true = true := rfl
  exact (ss_cons (O1 := []) (s_if (st_not (st_new (sx_call (n := n) (fr := true) (j := 18) ⟨ih.f_fits_order⟩ hr rfl (lv_cons (sx_varV (i := 0) (by decide) rfl (.inl rfl)) lv_nil))))
    (ss_one s_raise)
    ss_nil)
    ss_nil)
theorem S_falls_in : FnScope ["order", "place"] ["order"] (defScope (top 17)) := ⟨rfl, rfl, rfl, by decide +kernel, rfl, by decide +kernel, by decide +kernel⟩
theorem ok_falls_in (M : MF K mg) (ih : AllOk P w K mg base n) : CalP P w K mg base (n + 1) "falls_in" 1 true (callN Φ (n + 1) 20) :=
  calP_of (O' := []) M.d_falls_in M.g_falls_in rfl S_falls_in (show Φ 20 = some F_falls_in from rfl) rfl rfl rfl (fun _ _ _ _ _ _ us hl => match us, hl with | [_], _ => rfl) fun cdv A outer s H E hr => by
  have hu := room65 hr
  have hN := S_falls_in.nd
  have hc : true = true := rfl
  exact (ss_one (s_retF (sx_comp [("place", 1)] hc hN (ti_R2 rfl M.b_range (arg_of_new sx_int) (arg_of_new (sx_b1 (f := .len) ok_len rfl M.b_len PySem.boot_len (arg_of_val (sx_varV (i := 0) (by decide) rfl (.inr (.inl rfl))))))) (blkOk_by (by kernel_rfl)) (fun _ _ _ _ _ => (pg_one (i := 1) hN rfl (.inl rfl))) (fun _ _ _ _ _ => ct_one (st_cmp (o := .gt) ok_gt (arg_of_val (sx_idx (arg_of_val (sx_varV (i := 0) (by decide) rfl (.inr (.inl rfl)))) (arg_of_new (sx_op2 (o := .sub) ok_sub (arg_of_val (sx_varV (i := 1) (by decide) rfl (.inl rfl))) (arg_of_new sx_int))))) (arg_of_val (sx_idx (arg_of_val (sx_varV (i := 0) (by decide) rfl (.inr (.inl rfl)))) (arg_of_val (sx_varV (i := 1) (by decide) rfl (.inl rfl))))) (nomark _))) (fun _ _ _ _ _ => (sx_varV (i := 1) (by decide) rfl (.inl rfl))) rfl (by decide) (by decide))))
theorem S_is_zigzag_in : FnScope ["order"] ["order"] (defScope (top 23)) := ⟨rfl, rfl, rfl, by decide +kernel, rfl, by decide +kernel, by decide +kernel⟩
theorem ok_is_zigzag_in (M : MF K mg) (ih : AllOk P w K mg base n) : CalP P w K mg base (n + 1) "is_zigzag_in" 1 true (callN Φ (n + 1) 21) :=
  calP_of (O' := []) M.d_is_zigzag_in M.g_is_zigzag_in rfl S_is_zigzag_in (show Φ 21 = some F_is_zigzag_in from rfl) rfl rfl rfl (fun _ _ _ _ _ _ us hl => match us, hl with | [_], _ => rfl) fun cdv A outer s H E hr => by
  have hu := room65 hr
  have hN := S_is_zigzag_in.nd
  have hc : true = true := rfl
  exact (ss_one (s_retF (sx_cmp (o := .eq) (ok_eq hu) (arg_of_new (sx_call (n := n) (fr := true) (j := 20) ⟨ih.f_falls_in⟩ hr rfl (lv_cons (sx_varV (i := 0) (by decide) rfl (.inl rfl)) lv_nil))) (arg_of_new (sx_call (n := n) (fr := true) (j := 6) ⟨ih.f_turns_of⟩ hr rfl (lv_cons (val_of_new (sx_b1 (f := .len) ok_len rfl M.b_len PySem.boot_len (arg_of_val (sx_varV (i := 0) (by decide) rfl (.inl rfl))))) lv_nil))) (nomark _))))
theorem S_number_in : FnScope ["order", "ends", "found", "left", "place", "value", "at"] ["order"] (defScope (top 28)) := ⟨rfl, rfl, rfl, by decide +kernel, rfl, by decide +kernel, by decide +kernel⟩
theorem ok_number_in (M : MF K mg) (ih : AllOk P w K mg base n) : CalP P w K mg base (n + 1) "number_in" 1 false (callN Φ (n + 1) 22) :=
  calP_of (O' := [3]) M.d_number_in M.g_number_in rfl S_number_in (show Φ 22 = some F_number_in from rfl) rfl rfl rfl (fun _ _ _ _ _ _ us hl => match us, hl with | [_], _ => rfl) fun cdv A outer s H E hr => by
  have hu := room65 hr
  have hN := S_number_in.nd
  have hc : true = true := rfl
  exact (ss_cons (O1 := [3]) (s_par3 (i := 1) (j := 2) (l := 3) false false true hc hN rfl rfl rfl (by decide) (by decide) (by decide) rfl rfl rfl (val_of_new (sx_call (n := n) (fr := true) (j := 4) ⟨ih.f_ends_by⟩ hr rfl (lv_cons (val_of_new (sx_b1 (f := .len) ok_len rfl M.b_len PySem.boot_len (arg_of_val (sx_varV (i := 0) (by decide) rfl (.inl rfl))))) (lv_cons (val_of_new (sx_call (n := n) (fr := true) (j := 6) ⟨ih.f_turns_of⟩ hr rfl (lv_cons (val_of_new (sx_b1 (f := .len) ok_len rfl M.b_len PySem.boot_len (arg_of_val (sx_varV (i := 0) (by decide) rfl (.inl rfl))))) lv_nil))) lv_nil)))) (val_of_new sx_int) (sx_listR hc rfl M.b_list (prg_t1 rfl M.b_range (arg_of_new (sx_b1 (f := .len) ok_len rfl M.b_len PySem.boot_len (arg_of_val (sx_varV (i := 0) (by decide) rfl (.inl rfl))))))))
    (ss_cons (O1 := [3]) (s_for (inv := [3]) PassesOwn.never hc (ti_E rfl M.b_enumerate (sx_varV (i := 0) (by decide) rfl (.inl rfl))) (pg_two hc (pg_name (i := 4) hN rfl (.inl rfl)) (pg_name (i := 5) hN rfl (.inl rfl)))
    (ss_cons (O1 := [3]) (s_for (inv := [3]) PassesOwn.never hc (ti_V (val_of_new (sx_callF (n := n) (j := 5) ⟨ih.f_able_from⟩ hr rfl (la_cons (arg_of_new (sx_slc (arg_of_val (sx_varV (i := 0) (by decide) rfl (.inl rfl))) sp_none (sp_some (arg_of_val (sx_varV (i := 4) (by decide) rfl (.inl rfl)))))) (la_cons (sx_var (i := 3) rfl (.inl rfl)) (la_cons (arg_of_val (sx_varV (i := 4) (by decide) rfl (.inl rfl))) la_nil)))))) (pg_one (i := 6) hN rfl (.inl rfl))
    (ss_cons (O1 := [3]) (s_if (st_cmp (o := .lt) (ok_lt hu) (arg_of_val (sx_idx (sx_var (i := 3) rfl (.inl rfl)) (arg_of_val (sx_varV (i := 6) (by decide) rfl (.inl rfl))))) (arg_of_val (sx_varV (i := 5) (by decide) rfl (.inl rfl))) (nomark _))
    (ss_cons (O1 := [3]) (s_asg (i := 2) hN rfl (.inl rfl) (val_of_new (sx_op2 (o := .add) ok_add (arg_of_val (sx_varV (i := 2) (by decide) rfl (.inl rfl))) (arg_of_val (sx_idx (arg_of_val (sx_idx (arg_of_val (sx_varV (i := 1) (by decide) rfl (.inl rfl))) (arg_of_val (sx_varV (i := 4) (by decide) rfl (.inl rfl))))) (arg_of_val (sx_varV (i := 6) (by decide) rfl (.inl rfl))))))))
    ss_nil)
    ss_nil)
    ss_nil)
    (by decide) (by decide))
    (ss_cons (O1 := [3]) (s_rem (i := 3) (by decide) rfl (.inl rfl) (arg_of_val (sx_varV (i := 5) (by decide) rfl (.inl rfl))))
    ss_nil))
    (by decide) (by decide))
    (ss_one (s_retV (sx_varV (i := 2) (by decide) rfl (.inl rfl))))))
theorem S_number_of_zigzag : FnScope ["order"] ["order"] (defScope (top 33)) := ⟨rfl, rfl, rfl, by decide +kernel, rfl, by decide +kernel, by decide +kernel⟩
theorem ok_number_of_zigzag (M : MF K mg) (ih : AllOk P w K mg base n) : CalP P w K mg base (n + 1) "number_of_zigzag" 1 false (callN Φ (n + 1) 23) :=
  calP_of (O' := []) M.d_number_of_zigzag M.g_number_of_zigzag rfl S_number_of_zigzag (show Φ 23 = some F_number_of_zigzag from rfl) rfl rfl rfl (fun _ _ _ _ _ _ us hl => match us, hl with | [_], _ => rfl) fun cdv A outer s H E hr => by
  have hu := room65 hr
  have hN := S_number_of_zigzag.nd
  have hc : true = true := rfl
  exact (ss_cons (O1 := []) (s_exp (arg_of_new (sx_call (n := n) (fr := true) (j := 19) ⟨ih.f_need_order⟩ hr rfl (lv_cons (sx_varV (i := 0) (by decide) rfl (.inl rfl)) lv_nil))))
    (ss_cons (O1 := []) (s_if (st_not (st_new (sx_call (n := n) (fr := true) (j := 21) ⟨ih.f_is_zigzag_in⟩ hr rfl (lv_cons (sx_varV (i := 0) (by decide) rfl (.inl rfl)) lv_nil))))
    (ss_one s_raise)
    ss_nil)
    (ss_one (s_retV (sx_iteV (st_cmp (o := .ne) (ok_ne hu) (arg_of_val (sx_varV (i := 0) (by decide) rfl (.inl rfl))) (arg_of_new (sx_tup lv_nil)) (nomark _)) (sx_call (n := n) (fr := false) (j := 22) ⟨ih.f_number_in⟩ hr rfl (lv_cons (sx_varV (i := 0) (by decide) rfl (.inl rfl)) lv_nil)) (val_of_new sx_int))))))
theorem S__law_small_right : FnScope ["size", "every", "told", "order", "number"] ["size"] (defScope (top 48)) := ⟨rfl, rfl, rfl, by decide +kernel, rfl, by decide +kernel, by decide +kernel⟩
theorem ok__law_small_right (M : MF K mg) (ih : AllOk P w K mg base n) : CalP P w K mg base (n + 1) "_law_small_right" 1 true (callN Φ (n + 1) 24) :=
  calP_of (O' := []) M.d__law_small_right M.g__law_small_right rfl S__law_small_right (show Φ 24 = some F__law_small_right from rfl) rfl rfl rfl (fun _ _ _ _ _ _ us hl => match us, hl with | [_], _ => rfl) fun cdv A outer s H E hr => by
  have hu := room65 hr
  have hN := S__law_small_right.nd
  have hc : true = true := rfl
  exact (ss_cons (O1 := []) (s_asgLc [("order", 3)] hc hN (i := 1) rfl rfl (ti_V (arg_of_val (sx_call (n := n) (fr := false) (j := 13) ⟨ih.f__law_orders⟩ hr rfl (lv_cons (sx_varV (i := 0) (by decide) rfl (.inr (.inl rfl))) lv_nil)))) (blkOk_by (by kernel_rfl)) (fun _ _ _ _ _ => (pg_one (i := 3) hN rfl (.inl rfl))) (fun _ _ _ _ _ => ct_one (st_new (sx_call (n := n) (fr := true) (j := 15) ⟨ih.f__law_is_zigzag⟩ hr rfl (lv_cons (sx_varV (i := 3) (by decide) rfl (.inl rfl)) lv_nil)))) (fun _ _ _ _ _ => (sx_varV (i := 3) (by decide) rfl (.inl rfl))) rfl (by decide) (by decide))
    (ss_cons (O1 := []) (s_asgLc [("number", 4)] hc hN (i := 2) rfl rfl (ti_R1 rfl M.b_range (arg_of_new (sx_call (n := n) (fr := true) (j := 16) ⟨ih.f_count_zigzags⟩ hr rfl (lv_cons (sx_varV (i := 0) (by decide) rfl (.inr (.inl rfl))) lv_nil)))) (blkOk_by (by kernel_rfl)) (fun _ _ _ _ _ => (pg_one (i := 4) hN rfl (.inl rfl))) (fun _ _ _ _ _ => ct_nil) (fun _ _ _ _ _ => (val_of_new (sx_call (n := n) (fr := true) (j := 10) ⟨ih.f_zigzag_with⟩ hr rfl (lv_cons (sx_varV (i := 0) (by decide) rfl (.inr (.inl rfl))) (lv_cons (sx_varV (i := 4) (by decide) rfl (.inl rfl)) lv_nil))))) rfl (by decide) (by decide))
    (ss_one (s_retF (sx_and (arg_of_new (sx_call (n := n) (fr := true) (j := 12) ⟨ih.f__law_like⟩ hr rfl (lv_cons (sx_varV (i := 2) (by decide) rfl (.inl rfl)) (lv_cons (sx_varV (i := 1) (by decide) rfl (.inl rfl)) lv_nil)))) (sx_one (arg_of_new (sx_call (n := n) (fr := true) (j := 12) ⟨ih.f__law_like⟩ hr rfl (lv_cons (val_of_new (sx_comp [("order", 3)] hc hN (ti_V (arg_of_val (sx_varV (i := 1) (by decide) rfl (.inl rfl)))) (blkOk_by (by kernel_rfl)) (fun _ _ _ _ _ => (pg_one (i := 3) hN rfl (.inl rfl))) (fun _ _ _ _ _ => ct_nil) (fun _ _ _ _ _ => (sx_call (n := n) (fr := false) (j := 23) ⟨ih.f_number_of_zigzag⟩ hr rfl (lv_cons (sx_varV (i := 3) (by decide) rfl (.inl rfl)) lv_nil))) rfl (by decide) (by decide))) (lv_cons (val_of_new (sx_listR hc rfl M.b_list (prg_t1 rfl M.b_range (arg_of_new (sx_b1 (f := .len) ok_len rfl M.b_len PySem.boot_len (arg_of_val (sx_varV (i := 1) (by decide) rfl (.inl rfl)))))))) lv_nil))))))))))
theorem S_is_zigzag : FnScope ["order"] ["order"] (defScope (top 29)) := ⟨rfl, rfl, rfl, by decide +kernel, rfl, by decide +kernel, by decide +kernel⟩
theorem ok_is_zigzag (M : MF K mg) (ih : AllOk P w K mg base n) : CalP P w K mg base (n + 1) "is_zigzag" 1 true (callN Φ (n + 1) 25) :=
  calP_of (O' := []) M.d_is_zigzag M.g_is_zigzag rfl S_is_zigzag (show Φ 25 = some F_is_zigzag from rfl) rfl rfl rfl (fun _ _ _ _ _ _ us hl => match us, hl with | [_], _ => rfl) fun cdv A outer s H E hr => by
  have hu := room65 hr
  have hN := S_is_zigzag.nd
  have hc : true = true := rfl
  exact (ss_cons (O1 := []) (s_exp (arg_of_new (sx_call (n := n) (fr := true) (j := 19) ⟨ih.f_need_order⟩ hr rfl (lv_cons (sx_varV (i := 0) (by decide) rfl (.inl rfl)) lv_nil))))
    (ss_one (s_retF (sx_call (n := n) (fr := true) (j := 21) ⟨ih.f_is_zigzag_in⟩ hr rfl (lv_cons (sx_varV (i := 0) (by decide) rfl (.inl rfl)) lv_nil)))))
theorem S_zigzags_from : FnScope ["size", "first"] ["size", "first"] (defScope (top 31)) := ⟨rfl, rfl, rfl, by decide +kernel, rfl, by decide +kernel, by decide +kernel⟩
theorem ok_zigzags_from (M : MF K mg) (ih : AllOk P w K mg base n) : CalP P w K mg base (n + 1) "zigzags_from" 2 false (callN Φ (n + 1) 26) :=
  calP_of (O' := []) M.d_zigzags_from M.g_zigzags_from rfl S_zigzags_from (show Φ 26 = some F_zigzags_from from rfl) rfl rfl rfl (fun _ _ _ _ _ _ us hl => match us, hl with | [_, _], _ => rfl) fun cdv A outer s H E hr => by
  have hu := room65 hr
  have hN := S_zigzags_from.nd
  have hc : true = true := rfl
  exact (ss_cons (O1 := []) (s_exp (arg_of_new (sx_call (n := n) (fr := true) (j := 3) ⟨ih.f_need_whole⟩ hr rfl (lv_cons (sx_varV (i := 0) (by decide) rfl (.inl rfl)) (lv_cons (val_of_new sx_int) (lv_cons (val_of_new (sx_gint rfl M.c_MOST_falls)) lv_nil))))))
    (ss_cons (O1 := []) (s_exp (arg_of_new (sx_call (n := n) (fr := true) (j := 3) ⟨ih.f_need_whole⟩ hr rfl (lv_cons (sx_varV (i := 1) (by decide) rfl (.inl rfl)) (lv_cons (val_of_new sx_int) (lv_cons (val_of_new (sx_op2 (o := .sub) ok_sub (arg_of_val (sx_varV (i := 0) (by decide) rfl (.inl rfl))) (arg_of_new sx_int))) lv_nil))))))
    (ss_one (s_retV (sx_idx (arg_of_val (sx_call (n := n) (fr := false) (j := 8) ⟨ih.f_firsts_in⟩ hr rfl (lv_cons (sx_varV (i := 0) (by decide) rfl (.inl rfl)) lv_nil))) (arg_of_val (sx_varV (i := 1) (by decide) rfl (.inl rfl))))))))
theorem S__law_written_right : FnScope ["told", "size", "first"] [] (defScope (top 49)) := ⟨rfl, rfl, rfl, by decide +kernel, rfl, by decide +kernel, by decide +kernel⟩
theorem ok__law_written_right (M : MF K mg) (ih : AllOk P w K mg base n) : CalP P w K mg base (n + 1) "_law_written_right" 0 true (callN Φ (n + 1) 27) :=
  calP_of (O' := []) M.d__law_written_right M.g__law_written_right rfl S__law_written_right (show Φ 27 = some F__law_written_right from rfl) rfl rfl rfl (fun _ _ _ _ _ _ us hl => match us, hl with | [], _ => rfl) fun cdv A outer s H E hr => by
  have hu := room65 hr
  have hN := S__law_written_right.nd
  have hc : true = true := rfl
  exact (ss_cons (O1 := []) (s_asg (i := 0) hN rfl (.inl rfl) (val_of_new (sx_lst (lv_cons (val_of_new (sx_call (n := n) (fr := true) (j := 25) ⟨ih.f_is_zigzag⟩ hr rfl (lv_cons (val_of_new (sx_tup (lv_cons (val_of_new sx_int) (lv_cons (val_of_new sx_int) (lv_cons (val_of_new sx_int) lv_nil))))) lv_nil))) (lv_cons (val_of_new (sx_call (n := n) (fr := true) (j := 25) ⟨ih.f_is_zigzag⟩ hr rfl (lv_cons (val_of_new (sx_tup (lv_cons (val_of_new sx_int) (lv_cons (val_of_new sx_int) (lv_cons (val_of_new sx_int) lv_nil))))) lv_nil))) (lv_cons (val_of_new (sx_call (n := n) (fr := true) (j := 25) ⟨ih.f_is_zigzag⟩ hr rfl (lv_cons (val_of_new (sx_tup lv_nil)) lv_nil))) (lv_cons (val_of_new (sx_comp [("size", 1)] hc hN (ti_R1 rfl M.b_range (arg_of_new sx_int)) (blkOk_by (by kernel_rfl)) (fun _ _ _ _ _ => (pg_one (i := 1) hN rfl (.inl rfl))) (fun _ _ _ _ _ => ct_nil) (fun _ _ _ _ _ => (val_of_new (sx_call (n := n) (fr := true) (j := 16) ⟨ih.f_count_zigzags⟩ hr rfl (lv_cons (sx_varV (i := 1) (by decide) rfl (.inl rfl)) lv_nil)))) rfl (by decide) (by decide))) (lv_cons (val_of_new (sx_comp [("first", 2)] hc hN (ti_R1 rfl M.b_range (arg_of_new sx_int)) (blkOk_by (by kernel_rfl)) (fun _ _ _ _ _ => (pg_one (i := 2) hN rfl (.inl rfl))) (fun _ _ _ _ _ => ct_nil) (fun _ _ _ _ _ => (sx_call (n := n) (fr := false) (j := 26) ⟨ih.f_zigzags_from⟩ hr rfl (lv_cons (val_of_new sx_int) (lv_cons (sx_varV (i := 2) (by decide) rfl (.inl rfl)) lv_nil)))) rfl (by decide) (by decide))) lv_nil))))))))
    (ss_cons (O1 := []) (s_if (st_not (st_new (sx_call (n := n) (fr := true) (j := 12) ⟨ih.f__law_like⟩ hr rfl (lv_cons (sx_varV (i := 0) (by decide) rfl (.inl rfl)) (lv_cons (val_of_new (sx_lst (lv_cons (val_of_new sx_bl) (lv_cons (val_of_new sx_bl) (lv_cons (val_of_new sx_bl) (lv_cons (val_of_new (sx_lst (lv_cons (val_of_new sx_int) (lv_cons (val_of_new sx_int) (lv_cons (val_of_new sx_int) (lv_cons (val_of_new sx_int) (lv_cons (val_of_new sx_int) (lv_cons (val_of_new sx_int) (lv_cons (val_of_new sx_int) (lv_cons (val_of_new sx_int) lv_nil)))))))))) (lv_cons (val_of_new (sx_lst (lv_cons (val_of_new sx_int) (lv_cons (val_of_new sx_int) (lv_cons (val_of_new sx_int) (lv_cons (val_of_new sx_int) lv_nil)))))) lv_nil))))))) lv_nil)))))
    (ss_one (s_retF sx_bl))
    ss_nil)
    (ss_cons (O1 := []) (s_asg (i := 0) hN rfl (.inl rfl) (val_of_new (sx_lst (lv_cons (val_of_new (sx_call (n := n) (fr := true) (j := 10) ⟨ih.f_zigzag_with⟩ hr rfl (lv_cons (val_of_new sx_int) (lv_cons (val_of_new sx_int) lv_nil)))) (lv_cons (val_of_new (sx_call (n := n) (fr := true) (j := 10) ⟨ih.f_zigzag_with⟩ hr rfl (lv_cons (val_of_new sx_int) (lv_cons (val_of_new sx_int) lv_nil)))) (lv_cons (sx_call (n := n) (fr := false) (j := 23) ⟨ih.f_number_of_zigzag⟩ hr rfl (lv_cons (val_of_new (sx_tup (lv_cons (val_of_new sx_int) (lv_cons (val_of_new sx_int) (lv_cons (val_of_new sx_int) (lv_cons (val_of_new sx_int) (lv_cons (val_of_new sx_int) (lv_cons (val_of_new sx_int) (lv_cons (val_of_new sx_int) (lv_cons (val_of_new sx_int) (lv_cons (val_of_new sx_int) lv_nil))))))))))) lv_nil)) (lv_cons (val_of_new (sx_call (n := n) (fr := true) (j := 25) ⟨ih.f_is_zigzag⟩ hr rfl (lv_cons (val_of_new (sx_call (n := n) (fr := true) (j := 10) ⟨ih.f_zigzag_with⟩ hr rfl (lv_cons (val_of_new sx_int) (lv_cons (val_of_new sx_int) lv_nil)))) lv_nil))) lv_nil)))))))
    (ss_cons (O1 := []) (s_if (st_not (st_new (sx_call (n := n) (fr := true) (j := 12) ⟨ih.f__law_like⟩ hr rfl (lv_cons (sx_varV (i := 0) (by decide) rfl (.inl rfl)) (lv_cons (val_of_new (sx_lst (lv_cons (val_of_new (sx_tup (lv_cons (val_of_new sx_int) (lv_cons (val_of_new sx_int) (lv_cons (val_of_new sx_int) (lv_cons (val_of_new sx_int) (lv_cons (val_of_new sx_int) (lv_cons (val_of_new sx_int) (lv_cons (val_of_new sx_int) (lv_cons (val_of_new sx_int) (lv_cons (val_of_new sx_int) lv_nil))))))))))) (lv_cons (val_of_new (sx_tup (lv_cons (val_of_new sx_int) (lv_cons (val_of_new sx_int) (lv_cons (val_of_new sx_int) (lv_cons (val_of_new sx_int) (lv_cons (val_of_new sx_int) (lv_cons (val_of_new sx_int) (lv_cons (val_of_new sx_int) (lv_cons (val_of_new sx_int) (lv_cons (val_of_new sx_int) (lv_cons (val_of_new sx_int) lv_nil)))))))))))) (lv_cons (val_of_new sx_int) (lv_cons (val_of_new sx_bl) lv_nil)))))) lv_nil)))))
    (ss_one (s_retF sx_bl))
    ss_nil)
    (ss_cons (O1 := []) (s_asg (i := 0) hN rfl (.inl rfl) (val_of_new (sx_lst (lv_cons (val_of_new (sx_call (n := n) (fr := true) (j := 10) ⟨ih.f_zigzag_with⟩ hr rfl (lv_cons (val_of_new sx_int) (lv_cons (val_of_new sx_int) lv_nil)))) (lv_cons (val_of_new (sx_call (n := n) (fr := true) (j := 10) ⟨ih.f_zigzag_with⟩ hr rfl (lv_cons (val_of_new sx_int) (lv_cons (val_of_new sx_int) lv_nil)))) (lv_cons (sx_call (n := n) (fr := false) (j := 23) ⟨ih.f_number_of_zigzag⟩ hr rfl (lv_cons (val_of_new (sx_tup (lv_cons (val_of_new sx_int) (lv_cons (val_of_new sx_int) (lv_cons (val_of_new sx_int) (lv_cons (val_of_new sx_int) lv_nil)))))) lv_nil)) (lv_cons (val_of_new (sx_call (n := n) (fr := true) (j := 10) ⟨ih.f_zigzag_with⟩ hr rfl (lv_cons (val_of_new sx_int) (lv_cons (val_of_new sx_int) lv_nil)))) (lv_cons (sx_call (n := n) (fr := false) (j := 23) ⟨ih.f_number_of_zigzag⟩ hr rfl (lv_cons (val_of_new (sx_tup lv_nil)) lv_nil)) (lv_cons (sx_call (n := n) (fr := false) (j := 26) ⟨ih.f_zigzags_from⟩ hr rfl (lv_cons (val_of_new sx_int) (lv_cons (val_of_new sx_int) lv_nil))) (lv_cons (sx_call (n := n) (fr := false) (j := 26) ⟨ih.f_zigzags_from⟩ hr rfl (lv_cons (val_of_new sx_int) (lv_cons (val_of_new sx_int) lv_nil))) (lv_cons (val_of_new (sx_call (n := n) (fr := true) (j := 16) ⟨ih.f_count_zigzags⟩ hr rfl (lv_cons (val_of_new sx_int) lv_nil))) lv_nil)))))))))))
    (ss_one (s_retF (sx_call (n := n) (fr := true) (j := 12) ⟨ih.f__law_like⟩ hr rfl (lv_cons (sx_varV (i := 0) (by decide) rfl (.inl rfl)) (lv_cons (val_of_new (sx_lst (lv_cons (val_of_new (sx_tup (lv_cons (val_of_new sx_int) (lv_cons (val_of_new sx_int) (lv_cons (val_of_new sx_int) (lv_cons (val_of_new sx_int) lv_nil)))))) (lv_cons (val_of_new (sx_tup (lv_cons (val_of_new sx_int) (lv_cons (val_of_new sx_int) (lv_cons (val_of_new sx_int) (lv_cons (val_of_new sx_int) lv_nil)))))) (lv_cons (val_of_new sx_int) (lv_cons (val_of_new (sx_tup lv_nil)) (lv_cons (val_of_new sx_int) (lv_cons (val_of_new sx_int) (lv_cons (val_of_new sx_int) (lv_cons (val_of_new sx_int) lv_nil)))))))))) lv_nil))))))))))
theorem S__law_roll : FnScope ["cup", "many", "found", "deep"] ["cup", "many"] (defScope (top 36)) := ⟨rfl, rfl, rfl, by decide +kernel, rfl, by decide +kernel, by decide +kernel⟩
theorem ok__law_roll (M : MF K mg) (ih : AllOk P w K mg base n) : CalP P w K mg base (n + 1) "_law_roll" 2 false (callN Φ (n + 1) 28) :=
  calP_of (O' := []) M.d__law_roll M.g__law_roll rfl S__law_roll (show Φ 28 = some F__law_roll from rfl) rfl rfl rfl (fun _ _ _ _ _ _ us hl => match us, hl with | [_, _], _ => rfl) fun cdv A outer s H E hr => by
  have hu := room65 hr
  have hN := S__law_roll.nd
  have hc : true = true := rfl
  exact (ss_cons (O1 := []) (s_if (st_cmp (o := .gt) ok_gt (arg_of_val (sx_idx (arg_of_val (sx_varV (i := 0) (by decide) rfl (.inl rfl))) (arg_of_new sx_int))) (arg_of_new sx_int) (nomark _))
    (ss_cons (O1 := []) (s_asg (i := 2) hN rfl (.inl rfl) (val_of_new (sx_op2 (o := .mod) ok_mod (arg_of_new (sx_b1T (f := .int) ok_int rfl M.b_int PyProof.Rows.boot_int (arg_of_val (sx_idx (arg_of_val (sx_varV (i := 0) (by decide) rfl (.inl rfl))) (arg_of_new sx_int))))) (arg_of_val (sx_varV (i := 1) (by decide) rfl (.inl rfl))))))
    (ss_cons (O1 := []) (s_setC (i := 0) (by decide) rfl (.inl rfl) (arg_of_new (sx_op2 (o := .fdiv) ok_fdiv (arg_of_val (sx_idx (arg_of_val (sx_varV (i := 0) (by decide) rfl (.inl rfl))) (arg_of_new sx_int))) (arg_of_val (sx_varV (i := 1) (by decide) rfl (.inl rfl))))) (arg_of_new sx_int))
    (ss_one (s_retV (sx_varV (i := 2) (by decide) rfl (.inl rfl))))))
    ss_nil)
    (ss_cons (O1 := []) (s_setC (i := 0) (by decide) rfl (.inl rfl) (arg_of_new (sx_op2 (o := .mod) ok_mod (arg_of_new (sx_b1T (f := .int) ok_int rfl M.b_int PyProof.Rows.boot_int (arg_of_new (sx_op2 (o := .add) ok_add (arg_of_new (sx_op2 (o := .mul) ok_mul (arg_of_val (sx_idx (arg_of_val (sx_varV (i := 0) (by decide) rfl (.inl rfl))) (arg_of_new sx_int))) (arg_of_new sx_int))) (arg_of_new sx_int))))) (arg_of_new sx_int))) (arg_of_new sx_int))
    (ss_cons (O1 := []) (s_asg (i := 3) hN rfl (.inl rfl) (val_of_new (sx_op2 (o := .mod) ok_mod (arg_of_new (sx_b1T (f := .int) ok_int rfl M.b_int PyProof.Rows.boot_int (arg_of_new (sx_op2 (o := .mul) ok_mul (arg_of_val (sx_idx (arg_of_val (sx_varV (i := 0) (by decide) rfl (.inl rfl))) (arg_of_new sx_int))) (arg_of_new (sx_op2 (o := .add) ok_add (arg_of_val (sx_idx (arg_of_val (sx_varV (i := 0) (by decide) rfl (.inl rfl))) (arg_of_new sx_int))) (arg_of_new sx_int))))))) (arg_of_new sx_int))))
    (ss_one (s_retV (val_of_new (sx_op2 (o := .mod) ok_mod (arg_of_new (sx_b1T (f := .int) ok_int rfl M.b_int PyProof.Rows.boot_int (arg_of_new (sx_op2 (o := .fdiv) ok_fdiv (arg_of_val (sx_varV (i := 3) (by decide) rfl (.inl rfl))) (arg_of_new sx_int))))) (arg_of_val (sx_varV (i := 1) (by decide) rfl (.inl rfl))))))))))
theorem S__law_counts : FnScope ["most", "found", "size", "whole", "choice", "at"] ["most"] (defScope (top 45)) := ⟨rfl, rfl, rfl, by decide +kernel, rfl, by decide +kernel, by decide +kernel⟩
theorem ok__law_counts (M : MF K mg) (ih : AllOk P w K mg base n) : CalP P w K mg base (n + 1) "_law_counts" 1 true (callN Φ (n + 1) 29) :=
  calP_of (O' := [1]) M.d__law_counts M.g__law_counts rfl S__law_counts (show Φ 29 = some F__law_counts from rfl) rfl rfl rfl (fun _ _ _ _ _ _ us hl => match us, hl with | [_], _ => rfl) fun cdv A outer s H E hr => by
  have hu := room65 hr
  have hN := S__law_counts.nd
  have hc : true = true := rfl
  exact (ss_cons (O1 := [1]) (s_asgO (i := 1) hN rfl (.inl rfl) (sx_lst (lv_cons (val_of_new sx_int) (lv_cons (val_of_new sx_int) lv_nil))))
    (ss_cons (O1 := [1]) (s_while (inv := [1]) PassesOwn.never (st_cmp (o := .le) ok_le (arg_of_new (sx_b1 (f := .len) ok_len rfl M.b_len PySem.boot_len (sx_var (i := 1) rfl (.inl rfl)))) (arg_of_val (sx_varV (i := 0) (by decide) rfl (.inl rfl))) (nomark _))
    (ss_cons (O1 := [1]) (s_par3 (i := 2) (j := 3) (l := 4) false false false hc hN rfl rfl rfl (by decide) (by decide) (by decide) rfl rfl rfl (val_of_new (sx_op2 (o := .sub) ok_sub (arg_of_new (sx_b1 (f := .len) ok_len rfl M.b_len PySem.boot_len (sx_var (i := 1) rfl (.inl rfl)))) (arg_of_new sx_int))) (val_of_new sx_int) (val_of_new sx_int))
    (ss_cons (O1 := [1]) (s_for (inv := [1]) PassesOwn.never hc (ti_R1 rfl M.b_range (arg_of_new (sx_op2 (o := .add) ok_add (arg_of_val (sx_varV (i := 2) (by decide) rfl (.inl rfl))) (arg_of_new sx_int)))) (pg_one (i := 5) hN rfl (.inl rfl))
    (ss_cons (O1 := [1]) (s_par2 (i := 3) (j := 4) false false hc hN rfl rfl (by decide) rfl rfl (val_of_new (sx_op2 (o := .add) ok_add (arg_of_val (sx_varV (i := 3) (by decide) rfl (.inl rfl))) (arg_of_new (sx_op2 (o := .mul) ok_mul (arg_of_new (sx_op2 (o := .mul) ok_mul (arg_of_val (sx_varV (i := 4) (by decide) rfl (.inl rfl))) (arg_of_val (sx_idx (sx_var (i := 1) rfl (.inl rfl)) (arg_of_val (sx_varV (i := 5) (by decide) rfl (.inl rfl))))))) (arg_of_val (sx_idx (sx_var (i := 1) rfl (.inl rfl)) (arg_of_new (sx_op2 (o := .sub) ok_sub (arg_of_val (sx_varV (i := 2) (by decide) rfl (.inl rfl))) (arg_of_val (sx_varV (i := 5) (by decide) rfl (.inl rfl))))))))))) (val_of_new (sx_b1T (f := .int) ok_int rfl M.b_int PyProof.Rows.boot_int (arg_of_new (sx_op2 (o := .fdiv) ok_fdiv (arg_of_new (sx_op2 (o := .mul) ok_mul (arg_of_val (sx_varV (i := 4) (by decide) rfl (.inl rfl))) (arg_of_new (sx_op2 (o := .sub) ok_sub (arg_of_val (sx_varV (i := 2) (by decide) rfl (.inl rfl))) (arg_of_val (sx_varV (i := 5) (by decide) rfl (.inl rfl))))))) (arg_of_new (sx_op2 (o := .add) ok_add (arg_of_val (sx_varV (i := 5) (by decide) rfl (.inl rfl))) (arg_of_new sx_int))))))))
    ss_nil)
    (by decide) (by decide))
    (ss_cons (O1 := [1]) (s_app (i := 1) (by decide) rfl (.inl rfl) (val_of_new (sx_b1T (f := .int) ok_int rfl M.b_int PyProof.Rows.boot_int (arg_of_new (sx_op2 (o := .fdiv) ok_fdiv (arg_of_val (sx_varV (i := 3) (by decide) rfl (.inl rfl))) (arg_of_new sx_int))))))
    ss_nil))))
    (ss_one (s_retF (sx_slc (sx_var (i := 1) rfl (.inl rfl)) sp_none (sp_some (arg_of_new (sx_op2 (o := .add) ok_add (arg_of_val (sx_varV (i := 0) (by decide) rfl (.inl rfl))) (arg_of_new sx_int)))))))))
theorem S__law_some : FnScope ["cup", "things"] ["cup", "things"] (defScope (top 37)) := ⟨rfl, rfl, rfl, by decide +kernel, rfl, by decide +kernel, by decide +kernel⟩
theorem ok__law_some (M : MF K mg) (ih : AllOk P w K mg base n) : CalP P w K mg base (n + 1) "_law_some" 2 false (callN Φ (n + 1) 30) :=
  calP_of (O' := []) M.d__law_some M.g__law_some rfl S__law_some (show Φ 30 = some F__law_some from rfl) rfl rfl rfl (fun _ _ _ _ _ _ us hl => match us, hl with | [_, _], _ => rfl) fun cdv A outer s H E hr => by
  have hu := room65 hr
  have hN := S__law_some.nd
  have hc : true = true := rfl
  exact (ss_one (s_retV (sx_idx (arg_of_val (sx_varV (i := 1) (by decide) rfl (.inl rfl))) (arg_of_val (sx_call (n := n) (fr := false) (j := 28) ⟨ih.f__law_roll⟩ hr rfl (lv_cons (sx_varV (i := 0) (by decide) rfl (.inl rfl)) (lv_cons (val_of_new (sx_b1 (f := .len) ok_len rfl M.b_len PySem.boot_len (arg_of_val (sx_varV (i := 1) (by decide) rfl (.inl rfl))))) lv_nil)))))))
theorem S__law_order : FnScope ["cup", "many", "left", "found"] ["cup", "many"] (defScope (top 40)) := ⟨rfl, rfl, rfl, by decide +kernel, rfl, by decide +kernel, by decide +kernel⟩
theorem ok__law_order (M : MF K mg) (ih : AllOk P w K mg base n) : CalP P w K mg base (n + 1) "_law_order" 2 true (callN Φ (n + 1) 31) :=
  calP_of (O' := [3, 2]) M.d__law_order M.g__law_order rfl S__law_order (show Φ 31 = some F__law_order from rfl) rfl rfl rfl (fun _ _ _ _ _ _ us hl => match us, hl with | [_, _], _ => rfl) fun cdv A outer s H E hr => by
  have hu := room65 hr
  have hN := S__law_order.nd
  have hc : true = true := rfl
  exact (ss_cons (O1 := [3, 2]) (s_par2 (i := 2) (j := 3) true true hc hN rfl rfl (by decide) rfl rfl (sx_listR hc rfl M.b_list (prg_t1 rfl M.b_range (arg_of_val (sx_varV (i := 1) (by decide) rfl (.inl rfl))))) (sx_lst lv_nil))
    (ss_cons (O1 := [3, 2]) (s_while (inv := [3, 2]) PassesOwn.never (st_cmp (o := .ne) (ok_ne hu) (sx_var (i := 2) rfl (.inl rfl)) (arg_of_new (sx_lst lv_nil)) (nomark _))
    (ss_cons (O1 := [3, 2]) (s_popA (i := 2) (j := 3) (by decide) (by decide) (by decide) rfl rfl (.inl rfl) (.inl rfl) (arg_of_val (sx_call (n := n) (fr := false) (j := 28) ⟨ih.f__law_roll⟩ hr rfl (lv_cons (sx_varV (i := 0) (by decide) rfl (.inl rfl)) (lv_cons (val_of_new (sx_b1 (f := .len) ok_len rfl M.b_len PySem.boot_len (sx_var (i := 2) rfl (.inl rfl)))) lv_nil)))))
    ss_nil))
    (ss_one (s_retF (sx_b1T (f := .tuple) ok_tuple rfl M.b_tuple PyProof.Rows.boot_tuple (sx_var (i := 3) rfl (.inl rfl)))))))
theorem S__law_near_order : FnScope ["cup", "many", "way", "found", "turn", "one", "other", "held"] ["cup", "many"] (defScope (top 41)) := ⟨rfl, rfl, rfl, by decide +kernel, rfl, by decide +kernel, by decide +kernel⟩
theorem ok__law_near_order (M : MF K mg) (ih : AllOk P w K mg base n) : CalP P w K mg base (n + 1) "_law_near_order" 2 true (callN Φ (n + 1) 32) :=
  calP_of (O' := [3]) M.d__law_near_order M.g__law_near_order rfl S__law_near_order (show Φ 32 = some F__law_near_order from rfl) rfl rfl rfl (fun _ _ _ _ _ _ us hl => match us, hl with | [_, _], _ => rfl) fun cdv A outer s H E hr => by
  have hu := room65 hr
  have hN := S__law_near_order.nd
  have hc : true = true := rfl
  exact (ss_cons (O1 := [3]) (s_par2 (i := 2) (j := 3) false true hc hN rfl rfl (by decide) rfl rfl (sx_call (n := n) (fr := false) (j := 28) ⟨ih.f__law_roll⟩ hr rfl (lv_cons (sx_varV (i := 0) (by decide) rfl (.inl rfl)) (lv_cons (val_of_new sx_int) lv_nil))) (sx_listR hc rfl M.b_list (prg_t1 rfl M.b_range (arg_of_val (sx_varV (i := 1) (by decide) rfl (.inl rfl))))))
    (ss_cons (O1 := [3]) (s_if (st_cmp (o := .lt) (ok_lt hu) (arg_of_val (sx_varV (i := 2) (by decide) rfl (.inl rfl))) (arg_of_new sx_int) (nomark _))
    (ss_one (s_retF (sx_call (n := n) (fr := true) (j := 31) ⟨ih.f__law_order⟩ hr rfl (lv_cons (sx_varV (i := 0) (by decide) rfl (.inl rfl)) (lv_cons (sx_varV (i := 1) (by decide) rfl (.inl rfl)) lv_nil)))))
    ss_nil)
    (ss_cons (O1 := [3]) (s_for (inv := [3]) PassesOwn.never hc (ti_R1 rfl M.b_range (arg_of_val (sx_iteV (st_cmp (o := .gt) ok_gt (arg_of_val (sx_varV (i := 1) (by decide) rfl (.inl rfl))) (arg_of_new sx_int) (nomark _)) (sx_call (n := n) (fr := false) (j := 28) ⟨ih.f__law_roll⟩ hr rfl (lv_cons (sx_varV (i := 0) (by decide) rfl (.inl rfl)) (lv_cons (val_of_new sx_int) lv_nil))) (val_of_new sx_int)))) (pg_one (i := 4) hN rfl (.inl rfl))
    (ss_cons (O1 := [3]) (s_par2 (i := 5) (j := 6) false false hc hN rfl rfl (by decide) rfl rfl (sx_call (n := n) (fr := false) (j := 28) ⟨ih.f__law_roll⟩ hr rfl (lv_cons (sx_varV (i := 0) (by decide) rfl (.inl rfl)) (lv_cons (sx_varV (i := 1) (by decide) rfl (.inl rfl)) lv_nil))) (sx_call (n := n) (fr := false) (j := 28) ⟨ih.f__law_roll⟩ hr rfl (lv_cons (sx_varV (i := 0) (by decide) rfl (.inl rfl)) (lv_cons (sx_varV (i := 1) (by decide) rfl (.inl rfl)) lv_nil))))
    (ss_cons (O1 := [3]) (s_asg (i := 7) hN rfl (.inl rfl) (sx_idx (sx_var (i := 3) rfl (.inl rfl)) (arg_of_val (sx_varV (i := 5) (by decide) rfl (.inl rfl)))))
    (ss_cons (O1 := [3]) (s_setI (i := 3) (by decide) rfl (.inl rfl) (sx_idx (sx_var (i := 3) rfl (.inl rfl)) (arg_of_val (sx_varV (i := 6) (by decide) rfl (.inl rfl)))) (arg_of_val (sx_varV (i := 5) (by decide) rfl (.inl rfl))))
    (ss_cons (O1 := [3]) (s_setI (i := 3) (by decide) rfl (.inl rfl) (sx_varV (i := 7) (by decide) rfl (.inl rfl)) (arg_of_val (sx_varV (i := 6) (by decide) rfl (.inl rfl))))
    ss_nil))))
    (by decide) (by decide))
    (ss_one (s_retF (sx_iteN (st_cmp (o := .eq) (ok_eq hu) (arg_of_val (sx_varV (i := 2) (by decide) rfl (.inl rfl))) (arg_of_new sx_int) (nomark _)) (sx_b1T (f := .tuple) ok_tuple rfl M.b_tuple PyProof.Rows.boot_tuple (sx_var (i := 3) rfl (.inl rfl))) (sx_b1T (f := .tuple) ok_tuple rfl M.b_tuple PyProof.Rows.boot_tuple (arg_of_new (sx_rev (sx_var (i := 3) rfl (.inl rfl)))))))))))
theorem S__law_triangle : FnScope ["size", "row", "many", "later", "one"] ["size"] (defScope (top 46)) := ⟨rfl, rfl, rfl, by decide +kernel, rfl, by decide +kernel, by decide +kernel⟩
theorem ok__law_triangle (M : MF K mg) (ih : AllOk P w K mg base n) : CalP P w K mg base (n + 1) "_law_triangle" 1 true (callN Φ (n + 1) 33) :=
  calP_of (O' := []) M.d__law_triangle M.g__law_triangle rfl S__law_triangle (show Φ 33 = some F__law_triangle from rfl) rfl rfl rfl (fun _ _ _ _ _ _ us hl => match us, hl with | [_], _ => rfl) fun cdv A outer s H E hr => by
  have hu := room65 hr
  have hN := S__law_triangle.nd
  have hc : true = true := rfl
  exact (ss_cons (O1 := []) (s_asg (i := 1) hN rfl (.inl rfl) (val_of_new (sx_lst (lv_cons (val_of_new sx_int) lv_nil))))
    (ss_cons (O1 := []) (s_for (inv := []) PassesOwn.never hc (ti_R2 rfl M.b_range (arg_of_new sx_int) (arg_of_new (sx_op2 (o := .add) ok_add (arg_of_val (sx_varV (i := 0) (by decide) rfl (.inl rfl))) (arg_of_new sx_int)))) (pg_one (i := 2) hN rfl (.inl rfl))
    (ss_cons (O1 := [3]) (s_asgO (i := 3) hN rfl (.inl rfl) (sx_lst (lv_cons (val_of_new sx_int) lv_nil)))
    (ss_cons (O1 := [3]) (s_for (inv := [3]) PassesOwn.never hc (ti_V (val_of_new (sx_rev (arg_of_val (sx_varV (i := 1) (by decide) rfl (.inl rfl)))))) (pg_one (i := 4) hN rfl (.inl rfl))
    (ss_cons (O1 := [3]) (s_app (i := 3) (by decide) rfl (.inl rfl) (val_of_new (sx_op2 (o := .add) ok_add (arg_of_val (sx_idx (sx_var (i := 3) rfl (.inl rfl)) (arg_of_new (sx_neg (arg_of_new sx_int))))) (arg_of_val (sx_varV (i := 4) (by decide) rfl (.inl rfl))))))
    ss_nil)
    (by decide) (by decide))
    (ss_frz (i := 3) (O1 := []) (ss_cons (O1 := []) (s_asg (i := 1) hN rfl (.inl rfl) (sx_varV (i := 3) (by decide) rfl (.inl rfl)))
    ss_nil))))
    (by decide) (by decide))
    (ss_one (s_retF (sx_rev (arg_of_val (sx_varV (i := 1) (by decide) rfl (.inl rfl))))))))
theorem S_is_order : FnScope ["value"] ["value"] (defScope (top 13)) := ⟨rfl, rfl, rfl, by decide +kernel, rfl, by decide +kernel, by decide +kernel⟩
theorem ok_is_order (M : MF K mg) (ih : AllOk P w K mg base n) : CalP P w K mg base (n + 1) "is_order" 1 true (callN Φ (n + 1) 34) :=
  calP_of (O' := []) M.d_is_order M.g_is_order rfl S_is_order (show Φ 34 = some F_is_order from rfl) rfl rfl rfl (fun _ _ _ _ _ _ us hl => match us, hl with | [_], _ => rfl) fun cdv A outer s H E hr => by
  have hu := room65 hr
  have hN := S_is_order.nd
  have hc : true = true := rfl
  exact (ss_one (s_retF (sx_call (n := n) (fr := true) (j := 18) ⟨ih.f_fits_order⟩ hr rfl (lv_cons (sx_varV (i := 0) (by decide) rfl (.inl rfl)) lv_nil))))
theorem S_fall_places : FnScope ["order"] ["order"] (defScope (top 18)) := ⟨rfl, rfl, rfl, by decide +kernel, rfl, by decide +kernel, by decide +kernel⟩
theorem ok_fall_places (M : MF K mg) (ih : AllOk P w K mg base n) : CalP P w K mg base (n + 1) "fall_places" 1 true (callN Φ (n + 1) 35) :=
  calP_of (O' := []) M.d_fall_places M.g_fall_places rfl S_fall_places (show Φ 35 = some F_fall_places from rfl) rfl rfl rfl (fun _ _ _ _ _ _ us hl => match us, hl with | [_], _ => rfl) fun cdv A outer s H E hr => by
  have hu := room65 hr
  have hN := S_fall_places.nd
  have hc : true = true := rfl
  exact (ss_cons (O1 := []) (s_exp (arg_of_new (sx_call (n := n) (fr := true) (j := 19) ⟨ih.f_need_order⟩ hr rfl (lv_cons (sx_varV (i := 0) (by decide) rfl (.inl rfl)) lv_nil))))
    (ss_one (s_retF (sx_b1T (f := .tuple) ok_tuple rfl M.b_tuple PyProof.Rows.boot_tuple (arg_of_new (sx_call (n := n) (fr := true) (j := 20) ⟨ih.f_falls_in⟩ hr rfl (lv_cons (sx_varV (i := 0) (by decide) rfl (.inl rfl)) lv_nil)))))))
theorem S_upside_down_in : FnScope ["order", "value"] ["order"] (defScope (top 12)) := ⟨rfl, rfl, rfl, by decide +kernel, rfl, by decide +kernel, by decide +kernel⟩
theorem ok_upside_down_in (M : MF K mg) (ih : AllOk P w K mg base n) : CalP P w K mg base (n + 1) "upside_down_in" 1 true (callN Φ (n + 1) 36) :=
  calP_of (O' := []) M.d_upside_down_in M.g_upside_down_in rfl S_upside_down_in (show Φ 36 = some F_upside_down_in from rfl) rfl rfl rfl (fun _ _ _ _ _ _ us hl => match us, hl with | [_], _ => rfl) fun cdv A outer s H E hr => by
  have hu := room65 hr
  have hN := S_upside_down_in.nd
  have hc : true = true := rfl
  exact (ss_one (s_retF (sx_b1T (f := .tuple) ok_tuple rfl M.b_tuple PyProof.Rows.boot_tuple (arg_of_new (sx_comp [("value", 1)] hc hN (ti_V (arg_of_val (sx_varV (i := 0) (by decide) rfl (.inr (.inl rfl))))) (blkOk_by (by kernel_rfl)) (fun _ _ _ _ _ => (pg_one (i := 1) hN rfl (.inl rfl))) (fun _ _ _ _ _ => ct_nil) (fun _ _ _ _ _ => (val_of_new (sx_op2 (o := .sub) ok_sub (arg_of_new (sx_op2 (o := .sub) ok_sub (arg_of_new (sx_b1 (f := .len) ok_len rfl M.b_len PySem.boot_len (arg_of_val (sx_varV (i := 0) (by decide) rfl (.inr (.inl rfl)))))) (arg_of_new sx_int))) (arg_of_val (sx_varV (i := 1) (by decide) rfl (.inl rfl)))))) rfl (by decide) (by decide))))))
theorem S_upside_down : FnScope ["order"] ["order"] (defScope (top 14)) := ⟨rfl, rfl, rfl, by decide +kernel, rfl, by decide +kernel, by decide +kernel⟩
theorem ok_upside_down (M : MF K mg) (ih : AllOk P w K mg base n) : CalP P w K mg base (n + 1) "upside_down" 1 true (callN Φ (n + 1) 37) :=
  calP_of (O' := []) M.d_upside_down M.g_upside_down rfl S_upside_down (show Φ 37 = some F_upside_down from rfl) rfl rfl rfl (fun _ _ _ _ _ _ us hl => match us, hl with | [_], _ => rfl) fun cdv A outer s H E hr => by
  have hu := room65 hr
  have hN := S_upside_down.nd
  have hc : true = true := rfl
  exact (ss_cons (O1 := []) (s_exp (arg_of_new (sx_call (n := n) (fr := true) (j := 19) ⟨ih.f_need_order⟩ hr rfl (lv_cons (sx_varV (i := 0) (by decide) rfl (.inl rfl)) lv_nil))))
    (ss_one (s_retF (sx_call (n := n) (fr := true) (j := 36) ⟨ih.f_upside_down_in⟩ hr rfl (lv_cons (sx_varV (i := 0) (by decide) rfl (.inl rfl)) lv_nil)))))
theorem S__law_right : FnScope ["cup", "size", "counts", "whole", "number", "order", "ahead", "drawn", "first"] ["cup", "size"] (defScope (top 47)) := ⟨rfl, rfl, rfl, by decide +kernel, rfl, by decide +kernel, by decide +kernel⟩
theorem ok__law_right (M : MF K mg) (ih : AllOk P w K mg base n) : CalP P w K mg base (n + 1) "_law_right" 2 true (callN Φ (n + 1) 38) :=
  calP_of (O' := []) M.d__law_right M.g__law_right rfl S__law_right (show Φ 38 = some F__law_right from rfl) rfl rfl rfl (fun _ _ _ _ _ _ us hl => match us, hl with | [_, _], _ => rfl) fun cdv A outer s H E hr => by
  have hu := room65 hr
  have hN := S__law_right.nd
  have hc : true = true := rfl
  exact (ss_cons (O1 := []) (s_asg (i := 2) hN rfl (.inl rfl) (val_of_new (sx_call (n := n) (fr := true) (j := 29) ⟨ih.f__law_counts⟩ hr rfl (lv_cons (sx_varV (i := 1) (by decide) rfl (.inr (.inl rfl))) lv_nil))))
    (ss_cons (O1 := []) (s_asg (i := 3) hN rfl (.inl rfl) (sx_idx (arg_of_val (sx_varV (i := 2) (by decide) rfl (.inl rfl))) (arg_of_new (sx_neg (arg_of_new sx_int)))))
    (ss_cons (O1 := []) (s_if (st_not (st_new (sx_call (n := n) (fr := true) (j := 12) ⟨ih.f__law_like⟩ hr rfl (lv_cons (val_of_new (sx_call (n := n) (fr := true) (j := 16) ⟨ih.f_count_zigzags⟩ hr rfl (lv_cons (sx_varV (i := 1) (by decide) rfl (.inr (.inl rfl))) lv_nil))) (lv_cons (sx_varV (i := 3) (by decide) rfl (.inl rfl)) lv_nil)))))
    (ss_one (s_retF sx_bl))
    ss_nil)
    (ss_cons (O1 := []) (s_if (PW.pt (sw_and (op := .And) (st_cmp (o := .gt) ok_gt (arg_of_val (sx_varV (i := 1) (by decide) rfl (.inr (.inl rfl)))) (arg_of_new sx_int) (nomark _)) (pw_and1 (st_not (st_new (sx_call (n := n) (fr := true) (j := 12) ⟨ih.f__law_like⟩ hr rfl (lv_cons (val_of_new (sx_comp [("first", 8)] hc hN (ti_R1 rfl M.b_range (arg_of_val (sx_varV (i := 1) (by decide) rfl (.inr (.inl rfl))))) (blkOk_by (by kernel_rfl)) (fun _ _ _ _ _ => (pg_one (i := 8) hN rfl (.inl rfl))) (fun _ _ _ _ _ => ct_nil) (fun _ _ _ _ _ => (sx_call (n := n) (fr := false) (j := 26) ⟨ih.f_zigzags_from⟩ hr rfl (lv_cons (sx_varV (i := 1) (by decide) rfl (.inr (.inl rfl))) (lv_cons (sx_varV (i := 8) (by decide) rfl (.inl rfl)) lv_nil)))) rfl (by decide) (by decide))) (lv_cons (val_of_new (sx_call (n := n) (fr := true) (j := 33) ⟨ih.f__law_triangle⟩ hr rfl (lv_cons (sx_varV (i := 1) (by decide) rfl (.inr (.inl rfl))) lv_nil))) lv_nil))))))))
    (ss_one (s_retF sx_bl))
    ss_nil)
    (ss_cons (O1 := []) (s_asg (i := 4) hN rfl (.inl rfl) (sx_call (n := n) (fr := false) (j := 30) ⟨ih.f__law_some⟩ hr rfl (lv_cons (sx_varV (i := 0) (by decide) rfl (.inl rfl)) (lv_cons (val_of_new (sx_lst (lv_cons (val_of_new sx_int) (lv_cons (val_of_new (sx_op2 (o := .sub) ok_sub (arg_of_val (sx_varV (i := 3) (by decide) rfl (.inl rfl))) (arg_of_new sx_int))) (lv_cons (sx_call (n := n) (fr := false) (j := 28) ⟨ih.f__law_roll⟩ hr rfl (lv_cons (sx_varV (i := 0) (by decide) rfl (.inl rfl)) (lv_cons (sx_varV (i := 3) (by decide) rfl (.inl rfl)) lv_nil))) lv_nil))))) lv_nil))))
    (ss_cons (O1 := []) (s_asg (i := 5) hN rfl (.inl rfl) (val_of_new (sx_call (n := n) (fr := true) (j := 10) ⟨ih.f_zigzag_with⟩ hr rfl (lv_cons (sx_varV (i := 1) (by decide) rfl (.inr (.inl rfl))) (lv_cons (sx_varV (i := 4) (by decide) rfl (.inl rfl)) lv_nil)))))
    (ss_cons (O1 := []) (s_if (st_not (st_new (sx_call (n := n) (fr := true) (j := 12) ⟨ih.f__law_like⟩ hr rfl (lv_cons (val_of_new (sx_lst (lv_cons (val_of_new (sx_call (n := n) (fr := true) (j := 34) ⟨ih.f_is_order⟩ hr rfl (lv_cons (sx_varV (i := 5) (by decide) rfl (.inl rfl)) lv_nil))) (lv_cons (val_of_new (sx_call (n := n) (fr := true) (j := 25) ⟨ih.f_is_zigzag⟩ hr rfl (lv_cons (sx_varV (i := 5) (by decide) rfl (.inl rfl)) lv_nil))) (lv_cons (sx_call (n := n) (fr := false) (j := 23) ⟨ih.f_number_of_zigzag⟩ hr rfl (lv_cons (sx_varV (i := 5) (by decide) rfl (.inl rfl)) lv_nil)) (lv_cons (val_of_new (sx_call (n := n) (fr := true) (j := 35) ⟨ih.f_fall_places⟩ hr rfl (lv_cons (sx_varV (i := 5) (by decide) rfl (.inl rfl)) lv_nil))) lv_nil)))))) (lv_cons (val_of_new (sx_lst (lv_cons (val_of_new sx_bl) (lv_cons (val_of_new sx_bl) (lv_cons (sx_varV (i := 4) (by decide) rfl (.inl rfl)) (lv_cons (val_of_new (sx_tupleR3 hc rfl M.b_tuple rfl M.b_range (arg_of_new sx_int) (arg_of_val (sx_varV (i := 1) (by decide) rfl (.inr (.inl rfl)))) (arg_of_new sx_int))) lv_nil)))))) lv_nil)))))
    (ss_one (s_retF sx_bl))
    ss_nil)
    (ss_cons (O1 := []) (s_if (PW.pt (sw_or (op := .And) (st_cmp (o := .ne) (ok_ne hu) (arg_of_new (sx_b1 (f := .len) ok_len rfl M.b_len PySem.boot_len (arg_of_val (sx_varV (i := 5) (by decide) rfl (.inl rfl))))) (arg_of_val (sx_varV (i := 1) (by decide) rfl (.inr (.inl rfl)))) (nomark _)) (pw_or1 (st_not (st_new (sx_call (n := n) (fr := true) (j := 15) ⟨ih.f__law_is_zigzag⟩ hr rfl (lv_cons (sx_varV (i := 5) (by decide) rfl (.inl rfl)) lv_nil)))))))
    (ss_one (s_retF sx_bl))
    ss_nil)
    (ss_cons (O1 := []) (s_if (PW.pt (sw_and (op := .And) (st_cmp (o := .lt) (ok_lt hu) (arg_of_new (sx_op2 (o := .add) ok_add (arg_of_val (sx_varV (i := 4) (by decide) rfl (.inl rfl))) (arg_of_new sx_int))) (arg_of_val (sx_varV (i := 3) (by decide) rfl (.inl rfl))) (nomark _)) (pw_and1 (st_not (st_cmp (o := .lt) (ok_lt hu) (arg_of_val (sx_varV (i := 5) (by decide) rfl (.inl rfl))) (arg_of_new (sx_call (n := n) (fr := true) (j := 10) ⟨ih.f_zigzag_with⟩ hr rfl (lv_cons (sx_varV (i := 1) (by decide) rfl (.inr (.inl rfl))) (lv_cons (val_of_new (sx_op2 (o := .add) ok_add (arg_of_val (sx_varV (i := 4) (by decide) rfl (.inl rfl))) (arg_of_new sx_int))) lv_nil)))) (nomark _))))))
    (ss_one (s_retF sx_bl))
    ss_nil)
    (ss_cons (O1 := []) (s_if (st_cmp (o := .gt) ok_gt (arg_of_val (sx_varV (i := 1) (by decide) rfl (.inr (.inl rfl)))) (arg_of_new sx_int) (nomark _))
    (ss_cons (O1 := []) (s_asg (i := 6) hN rfl (.inl rfl) (val_of_new (sx_b1 (f := .sum) (ok_sum hc) rfl M.b_sum PyProof.Rows.boot_sum (arg_of_new (sx_slc (arg_of_new (sx_call (n := n) (fr := true) (j := 33) ⟨ih.f__law_triangle⟩ hr rfl (lv_cons (sx_varV (i := 1) (by decide) rfl (.inr (.inl rfl))) lv_nil))) sp_none (sp_some (arg_of_val (sx_idx (arg_of_val (sx_varV (i := 5) (by decide) rfl (.inl rfl))) (arg_of_new sx_int)))))))))
    (ss_cons (O1 := []) (s_if (st_not (st_chain (o := .le) (o' := .lt) ok_le (ok_lt hu) (arg_of_val (sx_varV (i := 6) (by decide) rfl (.inl rfl))) (arg_of_val (sx_varV (i := 4) (by decide) rfl (.inl rfl))) (arg_of_new (sx_op2 (o := .add) ok_add (arg_of_val (sx_varV (i := 6) (by decide) rfl (.inl rfl))) (arg_of_val (sx_idx (arg_of_new (sx_call (n := n) (fr := true) (j := 33) ⟨ih.f__law_triangle⟩ hr rfl (lv_cons (sx_varV (i := 1) (by decide) rfl (.inr (.inl rfl))) lv_nil))) (arg_of_val (sx_idx (arg_of_val (sx_varV (i := 5) (by decide) rfl (.inl rfl))) (arg_of_new sx_int))))))) ))
    (ss_one (s_retF sx_bl))
    ss_nil)
    ss_nil))
    ss_nil)
    (ss_cons (O1 := []) (s_asg (i := 7) hN rfl (.inl rfl) (val_of_new (sx_b1T (f := .tuple) ok_tuple rfl M.b_tuple PyProof.Rows.boot_tuple (arg_of_new (sx_call (n := n) (fr := true) (j := 32) ⟨ih.f__law_near_order⟩ hr rfl (lv_cons (sx_varV (i := 0) (by decide) rfl (.inl rfl)) (lv_cons (sx_varV (i := 1) (by decide) rfl (.inr (.inl rfl))) lv_nil)))))))
    (ss_one (s_retF (sx_call (n := n) (fr := true) (j := 12) ⟨ih.f__law_like⟩ hr rfl (lv_cons (val_of_new (sx_lst (lv_cons (val_of_new (sx_call (n := n) (fr := true) (j := 25) ⟨ih.f_is_zigzag⟩ hr rfl (lv_cons (sx_varV (i := 7) (by decide) rfl (.inl rfl)) lv_nil))) (lv_cons (val_of_new (sx_call (n := n) (fr := true) (j := 25) ⟨ih.f_is_zigzag⟩ hr rfl (lv_cons (val_of_new (sx_call (n := n) (fr := true) (j := 37) ⟨ih.f_upside_down⟩ hr rfl (lv_cons (sx_varV (i := 5) (by decide) rfl (.inl rfl)) lv_nil))) lv_nil))) lv_nil)))) (lv_cons (val_of_new (sx_lst (lv_cons (val_of_new (sx_call (n := n) (fr := true) (j := 15) ⟨ih.f__law_is_zigzag⟩ hr rfl (lv_cons (sx_varV (i := 7) (by decide) rfl (.inl rfl)) lv_nil))) (lv_cons (val_of_new (sx_cmp (o := .lt) (ok_lt hu) (arg_of_val (sx_varV (i := 1) (by decide) rfl (.inr (.inl rfl)))) (arg_of_new sx_int) (nomark _))) lv_nil)))) lv_nil))))))))))))))))
theorem S_law : FnScope ["script", "cup", "size"] ["script"] (defScope (top 50)) := ⟨rfl, rfl, rfl, by decide +kernel, rfl, by decide +kernel, by decide +kernel⟩
theorem fo_law (M : MF K mg) (ih : AllOk P w K mg base n) {f : Addr} {fd : FuncData} (F : FunD K "law" "law" (defArgs (top 50)) (defBody (top 50)) (defScope (top 50)) [] [] f fd) : FnOk P w K mg base CX0 (n + 1) f fd ["script"] (SpJ K true (callN Φ (n + 1) 39) 1) :=
  fn_pf (O' := []) F S_law (callN_at (show Φ 39 = some F_law from rfl) rfl) rfl rfl fun cdv A outer s H E hr => by
  have hu := room65 hr
  have hN := S_law.nd
  have hc : true = true := rfl
  exact (ss_cons (O1 := []) (s_if (st_not (st_new (sx_call0 (n := n) (fr := true) (j := 27) ⟨ih.f__law_written_right⟩ hr rfl)))
    (ss_one (s_retF sx_bl))
    ss_nil)
    (ss_cons (O1 := []) (s_asg (i := 1) hN rfl (.inl rfl) (sx_call (n := n) (fr := false) (j := 0) ⟨ih.f__law_cup⟩ hr rfl (lv_cons (sx_varV (i := 0) (by decide) rfl (.inl rfl)) lv_nil)))
    (ss_cons (O1 := []) (s_for (inv := []) PassesOwn.never hc (ti_V (val_of_new (sx_tup (lv_cons (sx_call (n := n) (fr := false) (j := 28) ⟨ih.f__law_roll⟩ hr rfl (lv_cons (sx_varV (i := 1) (by decide) rfl (.inl rfl)) (lv_cons (val_of_new sx_int) lv_nil))) (lv_cons (val_of_new (sx_op2 (o := .add) ok_add (arg_of_new sx_int) (arg_of_val (sx_call (n := n) (fr := false) (j := 28) ⟨ih.f__law_roll⟩ hr rfl (lv_cons (sx_varV (i := 1) (by decide) rfl (.inl rfl)) (lv_cons (val_of_new sx_int) lv_nil)))))) (lv_cons (sx_call (n := n) (fr := false) (j := 28) ⟨ih.f__law_roll⟩ hr rfl (lv_cons (sx_varV (i := 1) (by decide) rfl (.inl rfl)) (lv_cons (val_of_new sx_int) lv_nil))) (lv_cons (val_of_new sx_int) lv_nil))))))) (pg_one (i := 2) hN rfl (.inl rfl))
    (ss_cons (O1 := []) (s_if (st_not (st_new (sx_call (n := n) (fr := true) (j := 38) ⟨ih.f__law_right⟩ hr rfl (lv_cons (sx_varV (i := 1) (by decide) rfl (.inl rfl)) (lv_cons (sx_varV (i := 2) (by decide) rfl (.inl rfl)) lv_nil)))))
    (ss_one (s_retF sx_bl))
    ss_nil)
    ss_nil)
    (by decide) (by decide))
    (ss_one (s_retF (sx_call (n := n) (fr := true) (j := 24) ⟨ih.f__law_small_right⟩ hr rfl (lv_cons (sx_call (n := n) (fr := false) (j := 28) ⟨ih.f__law_roll⟩ hr rfl (lv_cons (sx_varV (i := 1) (by decide) rfl (.inl rfl)) (lv_cons (val_of_new sx_int) lv_nil))) lv_nil)))))))
end
theorem allOk {P : Program} {w : World} {K : Fg} {mg : Str → Option Value} {base : Heap} (M : MF K mg) : ∀ n, AllOk P w K mg base n
  | 0 => {
      f__law_cup := calP0 (ps := ["script"]) M.d__law_cup M.g__law_cup rfl (fun _ _ _ _ _ _ us hl => match us, hl with | [_], _ => rfl)
      f_is_integer := calP0 (ps := ["value"]) M.d_is_integer M.g_is_integer rfl (fun _ _ _ _ _ _ us hl => match us, hl with | [_], _ => rfl)
      f_is_whole := calP0 (ps := ["value", "low", "high"]) M.d_is_whole M.g_is_whole rfl (fun _ _ _ _ _ _ us hl => match us, hl with | [_, _, _], _ => rfl)
      f_need_whole := calP0 (ps := ["value", "low", "high"]) M.d_need_whole M.g_need_whole rfl (fun _ _ _ _ _ _ us hl => match us, hl with | [_, _, _], _ => rfl)
      f_ends_by := calP0 (ps := ["size", "places"]) M.d_ends_by M.g_ends_by rfl (fun _ _ _ _ _ _ us hl => match us, hl with | [_, _], _ => rfl)
      f_able_from := calP0 (ps := ["row", "left", "place"]) M.d_able_from M.g_able_from rfl (fun _ _ _ _ _ _ us hl => match us, hl with | [_, _, _], _ => rfl)
      f_turns_of := calP0 (ps := ["size"]) M.d_turns_of M.g_turns_of rfl (fun _ _ _ _ _ _ us hl => match us, hl with | [_], _ => rfl)
      f_zigzag_at := calP0 (ps := ["size", "number"]) M.d_zigzag_at M.g_zigzag_at rfl (fun _ _ _ _ _ _ us hl => match us, hl with | [_, _], _ => rfl)
      f_firsts_in := calP0 (ps := ["size"]) M.d_firsts_in M.g_firsts_in rfl (fun _ _ _ _ _ _ us hl => match us, hl with | [_], _ => rfl)
      f_count_in := calP0 (ps := ["size"]) M.d_count_in M.g_count_in rfl (fun _ _ _ _ _ _ us hl => match us, hl with | [_], _ => rfl)
      f_zigzag_with := calP0 (ps := ["size", "number"]) M.d_zigzag_with M.g_zigzag_with rfl (fun _ _ _ _ _ _ us hl => match us, hl with | [_, _], _ => rfl)
      f__law_sort := calP0 (ps := ["value"]) M.d__law_sort M.g__law_sort rfl (fun _ _ _ _ _ _ us hl => match us, hl with | [_], _ => rfl)
      f__law_like := calP0 (ps := ["one", "other"]) M.d__law_like M.g__law_like rfl (fun _ _ _ _ _ _ us hl => match us, hl with | [_, _], _ => rfl)
      f__law_orders := calP0 (ps := ["many"]) M.d__law_orders M.g__law_orders rfl (fun _ _ _ _ _ _ us hl => match us, hl with | [_], _ => rfl)
      f__law_falls := calP0 (ps := ["row"]) M.d__law_falls M.g__law_falls rfl (fun _ _ _ _ _ _ us hl => match us, hl with | [_], _ => rfl)
      f__law_is_zigzag := calP0 (ps := ["order"]) M.d__law_is_zigzag M.g__law_is_zigzag rfl (fun _ _ _ _ _ _ us hl => match us, hl with | [_], _ => rfl)
      f_count_zigzags := calP0 (ps := ["size"]) M.d_count_zigzags M.g_count_zigzags rfl (fun _ _ _ _ _ _ us hl => match us, hl with | [_], _ => rfl)
      f_is_tuple_of := calP0 (ps := ["value", "low", "high"]) M.d_is_tuple_of M.g_is_tuple_of rfl (fun _ _ _ _ _ _ us hl => match us, hl with | [_, _, _], _ => rfl)
      f_fits_order := calP0 (ps := ["value"]) M.d_fits_order M.g_fits_order rfl (fun _ _ _ _ _ _ us hl => match us, hl with | [_], _ => rfl)
      f_need_order := calP0 (ps := ["value"]) M.d_need_order M.g_need_order rfl (fun _ _ _ _ _ _ us hl => match us, hl with | [_], _ => rfl)
      f_falls_in := calP0 (ps := ["order"]) M.d_falls_in M.g_falls_in rfl (fun _ _ _ _ _ _ us hl => match us, hl with | [_], _ => rfl)
      f_is_zigzag_in := calP0 (ps := ["order"]) M.d_is_zigzag_in M.g_is_zigzag_in rfl (fun _ _ _ _ _ _ us hl => match us, hl with | [_], _ => rfl)
      f_number_in := calP0 (ps := ["order"]) M.d_number_in M.g_number_in rfl (fun _ _ _ _ _ _ us hl => match us, hl with | [_], _ => rfl)
      f_number_of_zigzag := calP0 (ps := ["order"]) M.d_number_of_zigzag M.g_number_of_zigzag rfl (fun _ _ _ _ _ _ us hl => match us, hl with | [_], _ => rfl)
      f__law_small_right := calP0 (ps := ["size"]) M.d__law_small_right M.g__law_small_right rfl (fun _ _ _ _ _ _ us hl => match us, hl with | [_], _ => rfl)
      f_is_zigzag := calP0 (ps := ["order"]) M.d_is_zigzag M.g_is_zigzag rfl (fun _ _ _ _ _ _ us hl => match us, hl with | [_], _ => rfl)
      f_zigzags_from := calP0 (ps := ["size", "first"]) M.d_zigzags_from M.g_zigzags_from rfl (fun _ _ _ _ _ _ us hl => match us, hl with | [_, _], _ => rfl)
      f__law_written_right := calP0 (ps := []) M.d__law_written_right M.g__law_written_right rfl (fun _ _ _ _ _ _ us hl => match us, hl with | [], _ => rfl)
      f__law_roll := calP0 (ps := ["cup", "many"]) M.d__law_roll M.g__law_roll rfl (fun _ _ _ _ _ _ us hl => match us, hl with | [_, _], _ => rfl)
      f__law_counts := calP0 (ps := ["most"]) M.d__law_counts M.g__law_counts rfl (fun _ _ _ _ _ _ us hl => match us, hl with | [_], _ => rfl)
      f__law_some := calP0 (ps := ["cup", "things"]) M.d__law_some M.g__law_some rfl (fun _ _ _ _ _ _ us hl => match us, hl with | [_, _], _ => rfl)
      f__law_order := calP0 (ps := ["cup", "many"]) M.d__law_order M.g__law_order rfl (fun _ _ _ _ _ _ us hl => match us, hl with | [_, _], _ => rfl)
      f__law_near_order := calP0 (ps := ["cup", "many"]) M.d__law_near_order M.g__law_near_order rfl (fun _ _ _ _ _ _ us hl => match us, hl with | [_, _], _ => rfl)
      f__law_triangle := calP0 (ps := ["size"]) M.d__law_triangle M.g__law_triangle rfl (fun _ _ _ _ _ _ us hl => match us, hl with | [_], _ => rfl)
      f_is_order := calP0 (ps := ["value"]) M.d_is_order M.g_is_order rfl (fun _ _ _ _ _ _ us hl => match us, hl with | [_], _ => rfl)
      f_fall_places := calP0 (ps := ["order"]) M.d_fall_places M.g_fall_places rfl (fun _ _ _ _ _ _ us hl => match us, hl with | [_], _ => rfl)
      f_upside_down_in := calP0 (ps := ["order"]) M.d_upside_down_in M.g_upside_down_in rfl (fun _ _ _ _ _ _ us hl => match us, hl with | [_], _ => rfl)
      f_upside_down := calP0 (ps := ["order"]) M.d_upside_down M.g_upside_down rfl (fun _ _ _ _ _ _ us hl => match us, hl with | [_], _ => rfl)
      f__law_right := calP0 (ps := ["cup", "size"]) M.d__law_right M.g__law_right rfl (fun _ _ _ _ _ _ us hl => match us, hl with | [_, _], _ => rfl) }
  | n + 1 => {
      f__law_cup := ok__law_cup M (allOk M n)
      f_is_integer := ok_is_integer M (allOk M n)
      f_is_whole := ok_is_whole M (allOk M n)
      f_need_whole := ok_need_whole M (allOk M n)
      f_ends_by := ok_ends_by M (allOk M n)
      f_able_from := ok_able_from M (allOk M n)
      f_turns_of := ok_turns_of M (allOk M n)
      f_zigzag_at := ok_zigzag_at M (allOk M n)
      f_firsts_in := ok_firsts_in M (allOk M n)
      f_count_in := ok_count_in M (allOk M n)
      f_zigzag_with := ok_zigzag_with M (allOk M n)
      f__law_sort := ok__law_sort M (allOk M n)
      f__law_like := ok__law_like M (allOk M n)
      f__law_orders := ok__law_orders M (allOk M n)
      f__law_falls := ok__law_falls M (allOk M n)
      f__law_is_zigzag := ok__law_is_zigzag M (allOk M n)
      f_count_zigzags := ok_count_zigzags M (allOk M n)
      f_is_tuple_of := ok_is_tuple_of M (allOk M n)
      f_fits_order := ok_fits_order M (allOk M n)
      f_need_order := ok_need_order M (allOk M n)
      f_falls_in := ok_falls_in M (allOk M n)
      f_is_zigzag_in := ok_is_zigzag_in M (allOk M n)
      f_number_in := ok_number_in M (allOk M n)
      f_number_of_zigzag := ok_number_of_zigzag M (allOk M n)
      f__law_small_right := ok__law_small_right M (allOk M n)
      f_is_zigzag := ok_is_zigzag M (allOk M n)
      f_zigzags_from := ok_zigzags_from M (allOk M n)
      f__law_written_right := ok__law_written_right M (allOk M n)
      f__law_roll := ok__law_roll M (allOk M n)
      f__law_counts := ok__law_counts M (allOk M n)
      f__law_some := ok__law_some M (allOk M n)
      f__law_order := ok__law_order M (allOk M n)
      f__law_near_order := ok__law_near_order M (allOk M n)
      f__law_triangle := ok__law_triangle M (allOk M n)
      f_is_order := ok_is_order M (allOk M n)
      f_fall_places := ok_fall_places M (allOk M n)
      f_upside_down_in := ok_upside_down_in M (allOk M n)
      f_upside_down := ok_upside_down M (allOk M n)
      f__law_right := ok__law_right M (allOk M n) }
def mkD (x : PySem.Str) (i : Nat) : He.DefD := ⟨(x, none), x, x, defArgs (top i), defBody (top i), defScope (top i), [], []⟩
def fnL : List He.DefD := [mkD "_law_cup" 35, mkD "is_integer" 6, mkD "is_whole" 7, mkD "need_whole" 8, mkD "ends_by" 20, mkD "able_from" 26, mkD "turns_of" 22, mkD "zigzag_at" 27, mkD "firsts_in" 24, mkD "count_in" 25, mkD "zigzag_with" 32, mkD "_law_sort" 38, mkD "_law_like" 39, mkD "_law_orders" 42] ++ [mkD "_law_falls" 43, mkD "_law_is_zigzag" 44, mkD "count_zigzags" 30, mkD "is_tuple_of" 9, mkD "fits_order" 10, mkD "need_order" 11, mkD "falls_in" 17, mkD "is_zigzag_in" 23, mkD "number_in" 28, mkD "number_of_zigzag" 33, mkD "_law_small_right" 48, mkD "is_zigzag" 29, mkD "zigzags_from" 31, mkD "_law_written_right" 49] ++ [mkD "_law_roll" 36, mkD "_law_counts" 45, mkD "_law_some" 37, mkD "_law_order" 40, mkD "_law_near_order" 41, mkD "_law_triangle" 46, mkD "is_order" 13, mkD "fall_places" 18, mkD "upside_down_in" 12, mkD "upside_down" 14, mkD "_law_right" 47, mkD "law" 50]
def faL : List He.Fa := [.glo "_law_cup", .glo "is_integer", .glo "is_whole", .glo "need_whole", .glo "ends_by", .glo "able_from", .glo "turns_of", .glo "zigzag_at", .glo "firsts_in", .glo "count_in", .glo "zigzag_with", .glo "_law_sort", .glo "_law_like", .glo "_law_orders"] ++ [.glo "_law_falls", .glo "_law_is_zigzag", .glo "count_zigzags", .glo "is_tuple_of", .glo "fits_order", .glo "need_order", .glo "falls_in", .glo "is_zigzag_in", .glo "number_in", .glo "number_of_zigzag", .glo "_law_small_right", .glo "is_zigzag", .glo "zigzags_from", .glo "_law_written_right"] ++ [.glo "_law_roll", .glo "_law_counts", .glo "_law_some", .glo "_law_order", .glo "_law_near_order", .glo "_law_triangle", .glo "is_order", .glo "fall_places", .glo "upside_down_in", .glo "upside_down", .glo "_law_right", .glo "law", .free "abs", .free "all"] ++ [.free "bool", .free "enumerate", .free "int", .free "isinstance", .free "len", .free "list", .free "range", .free "sorted", .free "str", .free "sum", .free "tuple", .free "zip", .int "MOST_basics" 30, .int "MOST_falls" 30]
abbrev RR : PySem.W.OpenRow := PySem.W.OpenLaw.row PySem.Challenge.rw_orderschanged_k15_whole_zigzags
abbrev hkk : PySem.W.Hook := He.hookD 4 faL fnL
def obb (s : PySem.W.SharedT) : He.AlD := He.obsDG 4 faL fnL (HandSHeadRun.getT s)
theorem obb_eq (s : PySem.W.SharedT) : obb s = hkk.obs s.abs := He.obsDG_eq (HandSHeadRun.getT_eq s)
def loose : List PySem.Str := (["is_integer", "is_whole", "need_whole", "is_tuple_of", "fits_order", "need_order", "upside_down_in", "is_order", "upside_down", "falls_in", "fall_places", "ends_by", "turns_of", "is_zigzag_in"] : List PySem.Str) ++ (["firsts_in", "count_in", "able_from", "zigzag_at", "number_in", "is_zigzag", "count_zigzags", "zigzags_from", "zigzag_with", "number_of_zigzag", "_law_cup", "_law_roll", "_law_some", "_law_sort"] : List PySem.Str) ++ (["_law_like", "_law_order", "_law_near_order", "_law_orders", "_law_falls", "_law_is_zigzag", "_law_counts", "_law_triangle", "_law_right", "_law_small_right", "_law_written_right", "OrdersError", "InvalidOrder", "InvalidNumber"] : List PySem.Str) ++ (["MOST_basics", "MOST_falls"] : List PySem.Str)
theorem runTop (w : World) : HandSHeadRun.RunEq RR (PySem.W.view RR.prog [50]) hkk obb 6000 loose w := by
  intro os
  kernel_rfl
theorem mf {K : Fg} {h : Heap} {mg : Str → Option Value} (X : K.In h) (G : h.Ns mainGlobals mg) (c : He.SaysD faL fnL K) : MF K mg where
  b_abs := He.free_ok X G (c.fact 40 (f := .free "abs") rfl)
  b_all := He.free_ok X G (c.fact 41 (f := .free "all") rfl)
  b_bool := He.free_ok X G (c.fact 42 (f := .free "bool") rfl)
  b_enumerate := He.free_ok X G (c.fact 43 (f := .free "enumerate") rfl)
  b_int := He.free_ok X G (c.fact 44 (f := .free "int") rfl)
  b_isinstance := He.free_ok X G (c.fact 45 (f := .free "isinstance") rfl)
  b_len := He.free_ok X G (c.fact 46 (f := .free "len") rfl)
  b_list := He.free_ok X G (c.fact 47 (f := .free "list") rfl)
  b_range := He.free_ok X G (c.fact 48 (f := .free "range") rfl)
  b_sorted := He.free_ok X G (c.fact 49 (f := .free "sorted") rfl)
  b_str := He.free_ok X G (c.fact 50 (f := .free "str") rfl)
  b_sum := He.free_ok X G (c.fact 51 (f := .free "sum") rfl)
  b_tuple := He.free_ok X G (c.fact 52 (f := .free "tuple") rfl)
  b_zip := He.free_ok X G (c.fact 53 (f := .free "zip") rfl)
  c_MOST_basics := He.int_ok X G (c.fact 54 (f := .int "MOST_basics" 30) rfl)
  c_MOST_falls := He.int_ok X G (c.fact 55 (f := .int "MOST_falls" 30) rfl)
  d__law_cup := c.def_ 0 (d := mkD "_law_cup" 35) rfl
  g__law_cup := He.glo_ok X G (c.fact 0 (f := .glo "_law_cup") rfl)
  d_is_integer := c.def_ 1 (d := mkD "is_integer" 6) rfl
  g_is_integer := He.glo_ok X G (c.fact 1 (f := .glo "is_integer") rfl)
  d_is_whole := c.def_ 2 (d := mkD "is_whole" 7) rfl
  g_is_whole := He.glo_ok X G (c.fact 2 (f := .glo "is_whole") rfl)
  d_need_whole := c.def_ 3 (d := mkD "need_whole" 8) rfl
  g_need_whole := He.glo_ok X G (c.fact 3 (f := .glo "need_whole") rfl)
  d_ends_by := c.def_ 4 (d := mkD "ends_by" 20) rfl
  g_ends_by := He.glo_ok X G (c.fact 4 (f := .glo "ends_by") rfl)
  d_able_from := c.def_ 5 (d := mkD "able_from" 26) rfl
  g_able_from := He.glo_ok X G (c.fact 5 (f := .glo "able_from") rfl)
  d_turns_of := c.def_ 6 (d := mkD "turns_of" 22) rfl
  g_turns_of := He.glo_ok X G (c.fact 6 (f := .glo "turns_of") rfl)
  d_zigzag_at := c.def_ 7 (d := mkD "zigzag_at" 27) rfl
  g_zigzag_at := He.glo_ok X G (c.fact 7 (f := .glo "zigzag_at") rfl)
  d_firsts_in := c.def_ 8 (d := mkD "firsts_in" 24) rfl
  g_firsts_in := He.glo_ok X G (c.fact 8 (f := .glo "firsts_in") rfl)
  d_count_in := c.def_ 9 (d := mkD "count_in" 25) rfl
  g_count_in := He.glo_ok X G (c.fact 9 (f := .glo "count_in") rfl)
  d_zigzag_with := c.def_ 10 (d := mkD "zigzag_with" 32) rfl
  g_zigzag_with := He.glo_ok X G (c.fact 10 (f := .glo "zigzag_with") rfl)
  d__law_sort := c.def_ 11 (d := mkD "_law_sort" 38) rfl
  g__law_sort := He.glo_ok X G (c.fact 11 (f := .glo "_law_sort") rfl)
  d__law_like := c.def_ 12 (d := mkD "_law_like" 39) rfl
  g__law_like := He.glo_ok X G (c.fact 12 (f := .glo "_law_like") rfl)
  d__law_orders := c.def_ 13 (d := mkD "_law_orders" 42) rfl
  g__law_orders := He.glo_ok X G (c.fact 13 (f := .glo "_law_orders") rfl)
  d__law_falls := c.def_ 14 (d := mkD "_law_falls" 43) rfl
  g__law_falls := He.glo_ok X G (c.fact 14 (f := .glo "_law_falls") rfl)
  d__law_is_zigzag := c.def_ 15 (d := mkD "_law_is_zigzag" 44) rfl
  g__law_is_zigzag := He.glo_ok X G (c.fact 15 (f := .glo "_law_is_zigzag") rfl)
  d_count_zigzags := c.def_ 16 (d := mkD "count_zigzags" 30) rfl
  g_count_zigzags := He.glo_ok X G (c.fact 16 (f := .glo "count_zigzags") rfl)
  d_is_tuple_of := c.def_ 17 (d := mkD "is_tuple_of" 9) rfl
  g_is_tuple_of := He.glo_ok X G (c.fact 17 (f := .glo "is_tuple_of") rfl)
  d_fits_order := c.def_ 18 (d := mkD "fits_order" 10) rfl
  g_fits_order := He.glo_ok X G (c.fact 18 (f := .glo "fits_order") rfl)
  d_need_order := c.def_ 19 (d := mkD "need_order" 11) rfl
  g_need_order := He.glo_ok X G (c.fact 19 (f := .glo "need_order") rfl)
  d_falls_in := c.def_ 20 (d := mkD "falls_in" 17) rfl
  g_falls_in := He.glo_ok X G (c.fact 20 (f := .glo "falls_in") rfl)
  d_is_zigzag_in := c.def_ 21 (d := mkD "is_zigzag_in" 23) rfl
  g_is_zigzag_in := He.glo_ok X G (c.fact 21 (f := .glo "is_zigzag_in") rfl)
  d_number_in := c.def_ 22 (d := mkD "number_in" 28) rfl
  g_number_in := He.glo_ok X G (c.fact 22 (f := .glo "number_in") rfl)
  d_number_of_zigzag := c.def_ 23 (d := mkD "number_of_zigzag" 33) rfl
  g_number_of_zigzag := He.glo_ok X G (c.fact 23 (f := .glo "number_of_zigzag") rfl)
  d__law_small_right := c.def_ 24 (d := mkD "_law_small_right" 48) rfl
  g__law_small_right := He.glo_ok X G (c.fact 24 (f := .glo "_law_small_right") rfl)
  d_is_zigzag := c.def_ 25 (d := mkD "is_zigzag" 29) rfl
  g_is_zigzag := He.glo_ok X G (c.fact 25 (f := .glo "is_zigzag") rfl)
  d_zigzags_from := c.def_ 26 (d := mkD "zigzags_from" 31) rfl
  g_zigzags_from := He.glo_ok X G (c.fact 26 (f := .glo "zigzags_from") rfl)
  d__law_written_right := c.def_ 27 (d := mkD "_law_written_right" 49) rfl
  g__law_written_right := He.glo_ok X G (c.fact 27 (f := .glo "_law_written_right") rfl)
  d__law_roll := c.def_ 28 (d := mkD "_law_roll" 36) rfl
  g__law_roll := He.glo_ok X G (c.fact 28 (f := .glo "_law_roll") rfl)
  d__law_counts := c.def_ 29 (d := mkD "_law_counts" 45) rfl
  g__law_counts := He.glo_ok X G (c.fact 29 (f := .glo "_law_counts") rfl)
  d__law_some := c.def_ 30 (d := mkD "_law_some" 37) rfl
  g__law_some := He.glo_ok X G (c.fact 30 (f := .glo "_law_some") rfl)
  d__law_order := c.def_ 31 (d := mkD "_law_order" 40) rfl
  g__law_order := He.glo_ok X G (c.fact 31 (f := .glo "_law_order") rfl)
  d__law_near_order := c.def_ 32 (d := mkD "_law_near_order" 41) rfl
  g__law_near_order := He.glo_ok X G (c.fact 32 (f := .glo "_law_near_order") rfl)
  d__law_triangle := c.def_ 33 (d := mkD "_law_triangle" 46) rfl
  g__law_triangle := He.glo_ok X G (c.fact 33 (f := .glo "_law_triangle") rfl)
  d_is_order := c.def_ 34 (d := mkD "is_order" 13) rfl
  g_is_order := He.glo_ok X G (c.fact 34 (f := .glo "is_order") rfl)
  d_fall_places := c.def_ 35 (d := mkD "fall_places" 18) rfl
  g_fall_places := He.glo_ok X G (c.fact 35 (f := .glo "fall_places") rfl)
  d_upside_down_in := c.def_ 36 (d := mkD "upside_down_in" 12) rfl
  g_upside_down_in := He.glo_ok X G (c.fact 36 (f := .glo "upside_down_in") rfl)
  d_upside_down := c.def_ 37 (d := mkD "upside_down" 14) rfl
  g_upside_down := He.glo_ok X G (c.fact 37 (f := .glo "upside_down") rfl)
  d__law_right := c.def_ 38 (d := mkD "_law_right" 47) rfl
  g__law_right := He.glo_ok X G (c.fact 38 (f := .glo "_law_right") rfl)
  d_law := c.def_ 39 (d := mkD "law" 50) rfl
  g_law := He.glo_ok X G (c.fact 39 (f := .glo "law") rfl)
end K
end PF

/-! PF19: laws of the evaluator, in plain Lean -/
namespace PF
section
variable {α β γ : Type}
@[simp] theorem ret_bnd (a : α) (f : α → M β) : bnd (ret a) f = f a := rfl
@[simp] theorem bnd_ret (m : M α) : bnd m ret = m := by
  funext c
  unfold bnd
  cases m c <;> rfl
@[simp] theorem bnd_bnd (m : M α) (f : α → M β) (g : β → M γ) : bnd (bnd m f) g = bnd m fun a => bnd (f a) g := by
  funext c
  unfold bnd
  cases m c <;> rfl
@[simp] theorem lift_some (a : α) : lift (some a) = ret a := rfl
@[simp] theorem lift_none : lift (none : Option α) = no := rfl
@[simp] theorem no_bnd (f : α → M β) : bnd no f = no := rfl
@[simp] theorem truth_t (a b : M α) : truth (.bl true) a b = a := rfl
@[simp] theorem truth_f (a b : M α) : truth (.bl false) a b = b := rfl
theorem truth_b (k : Bool) (a b : M α) : truth (.bl k) a b = if k then a else b := by cases k <;> rfl
@[simp] theorem unT_tup (f : List D → M D) (l : List D) : unT f (.tup l) = f l := rfl
@[simp] theorem optM_some (a : α) (f : α → M β) : optM (some a) f = f a := rfl
@[simp] theorem optM_none (f : α → M β) : optM none f = no := rfl
@[simp] theorem truth_and (k p : Bool) : truth (D.bl k) (ret (D.bl p)) (ret (D.bl false)) = ret (D.bl (k && p)) := by cases k <;> rfl
@[simp] theorem truth_or (k p : Bool) : truth (D.bl k) (ret (D.bl true)) (ret (D.bl p)) = ret (D.bl (k || p)) := by cases k <;> rfl
@[simp] theorem truth_not (k : Bool) : truth (D.bl k) (ret (D.bl false)) (ret (D.bl true)) = ret (D.bl (!k)) := by cases k <;> rfl
@[simp] theorem truth_id (k : Bool) : truth (D.bl k) (ret (D.bl true)) (ret (D.bl false)) = ret (D.bl k) := by cases k <;> rfl
theorem bnd_congr {m : M α} {f g : α → M β} (h : ∀ a, f a = g a) : bnd m f = bnd m g := by rw [show f = g from funext h]
theorem ite_bnd {p : Prop} [Decidable p] (a b : M α) (f : α → M β) : bnd (if p then a else b) f = if p then bnd a f else bnd b f := by split <;> rfl
/-- a comprehension of plain items -/
theorem compM_ret {f : D → M (Option D)} {g : D → Option D} : ∀ {ds : List D}, (∀ d ∈ ds, f d = ret (g d)) → compM f ds = ret (ds.filterMap g)
  | [], _ => rfl
  | d :: r, h => by
    unfold compM
    rw [h d (by simp), ret_bnd, compM_ret (fun x hx => h x (List.mem_cons_of_mem _ hx)), ret_bnd, List.filterMap_cons]
    cases g d <;> rfl
theorem forM_nil {f : D → Env → M Flow} {δ : Env} : forM f [] δ = ret (.next δ) := rfl
theorem forM_cons {f : D → Env → M Flow} {d : D} {r : List D} {δ : Env} : forM f (d :: r) δ = bnd (f d δ) fun fl => match fl with
    | .next δ' => forM f r δ'
    | .brk δ' => ret (.next δ')
    | .ret v => ret (.ret v) := rfl
/-- what may come, with any cup -/
def okM (m : M α) (c : Cup) (P : α → Cup → Prop) : Prop := ∃ a c', m c = .ok a c' ∧ P a c'
theorem okM_bnd {m : M α} {f : α → M β} {c : Cup} {P : β → Cup → Prop} (h : okM m c fun a c' => okM (f a) c' P) : okM (bnd m f) c P := by
  obtain ⟨a, c', h1, b, c2, h2, h3⟩ := h
  exact ⟨b, c2, by unfold bnd; rw [h1]; exact h2, h3⟩
theorem okM_ret {a : α} {c : Cup} {P : α → Cup → Prop} (h : P a c) : okM (ret a) c P := ⟨a, c, rfl, h⟩
theorem okM_mono {m : M α} {c : Cup} {P Q : α → Cup → Prop} (h : okM m c P) (i : ∀ a c', P a c' → Q a c') : okM m c Q := by
  obtain ⟨a, c', h1, h2⟩ := h
  exact ⟨a, c', h1, i a c' h2⟩
end
/-! operations, one by one -/
section
variable (i j : Int) (a b : Bool) (xs ys : List D) (x y : D)
@[simp] theorem o_add : op2D .add (.int i) (.int j) = some (.int (i + j)) := rfl
@[simp] theorem o_sub : op2D .sub (.int i) (.int j) = some (.int (i - j)) := rfl
theorem o_mul : op2D .mul (.int i) (.int j) = if mulOk i j then some (.int (i * j)) else none := rfl
theorem o_fdiv : op2D .fdiv (.int i) (.int j) = if decide (0 < j) && decide (j.natAbs.log2 < 9000) then some (.int (i / j)) else none := rfl
theorem o_mod : op2D .mod (.int i) (.int j) = if 0 < j then some (.int (i % j)) else none := rfl
theorem o_pow : op2D .pow (.int i) (.int j) = if decide (0 ≤ j) && (decide (j ≤ 1000000) && decide (i.natAbs < 2 ^ 64)) then some (.int (i ^ j.toNat)) else none := rfl
theorem o_addT : op2D .add (.tup xs) (.tup ys) = if szOk (xs.length + ys.length) then some (.tup (xs ++ ys)) else none := rfl
theorem o_addL : op2D .add (.lst xs) (.lst ys) = if szOk (xs.length + ys.length) then some (.lst (xs ++ ys)) else none := rfl
theorem o_mulT : op2D .mul (.tup xs) (.int i) = (repD xs i).map .tup := rfl
theorem o_mulL : op2D .mul (.lst xs) (.int i) = (repD xs i).map .lst := rfl
@[simp] theorem o_eqI : op2D .eq (.int i) (.int j) = some (.bl (i == j)) := rfl
@[simp] theorem o_neI : op2D .ne (.int i) (.int j) = some (.bl (!(i == j))) := rfl
@[simp] theorem o_ltI : op2D .lt (.int i) (.int j) = some (.bl (decide (i < j))) := rfl
@[simp] theorem o_leI : op2D .le (.int i) (.int j) = some (.bl (decide (i ≤ j))) := rfl
@[simp] theorem o_gtI : op2D .gt (.int i) (.int j) = some (.bl (decide (j < i))) := rfl
@[simp] theorem o_geI : op2D .ge (.int i) (.int j) = some (.bl (decide (j ≤ i))) := rfl
theorem o_eq : op2D .eq x y = (eqD x y).map .bl := by cases x <;> cases y <;> rfl
theorem o_ne : op2D .ne x y = (eqD x y).map fun b => .bl (!b) := by cases x <;> cases y <;> rfl
theorem o_in : op2D .isIn x y = (inD x y).map .bl := by cases x <;> cases y <;> rfl
theorem o_notIn : op2D .notIn x y = (inD x y).map fun b => .bl (!b) := by cases x <;> cases y <;> rfl
@[simp] theorem f_lenL : b1D .len (.lst xs) = some (.int xs.length) := rfl
@[simp] theorem f_lenT : b1D .len (.tup xs) = some (.int xs.length) := rfl
@[simp] theorem f_listL : b1D .list (.lst xs) = some (.lst xs) := rfl
@[simp] theorem f_listT : b1D .list (.tup xs) = some (.lst xs) := rfl
@[simp] theorem f_tupL : b1D .tuple (.lst xs) = some (.tup xs) := rfl
@[simp] theorem f_tupT : b1D .tuple (.tup xs) = some (.tup xs) := rfl
@[simp] theorem f_int : b1D .int (.int i) = some (.int i) := rfl
@[simp] theorem f_isT : b1D .isTuple (.tup xs) = some (.bl true) := rfl
@[simp] theorem f_non : b1D .isNone x = some (.bl (isNone x)) := by cases x <;> rfl
theorem f_allL : b1D .all (.lst xs) = (bools? xs).map fun l => .bl (l.all id) := rfl
theorem f_anyL : b1D .any (.lst xs) = (bools? xs).map fun l => .bl (l.any id) := rfl
theorem f_sumL : b1D .sum (.lst xs) = (ints? xs).map fun l => .int l.sum := rfl
theorem f_listR : b1D .listR (.tup xs) = (match rangeD xs with | some ds => if szOk ds.length then some (.lst ds) else none | none => none) := rfl
theorem f_tupleR : b1D .tupleR (.tup xs) = (match rangeD xs with | some ds => if szOk ds.length then some (.tup ds) else none | none => none) := rfl
theorem f_sorted : b1D .sorted x = (match seqD x with | some ds => (match ints? ds with | some l => if szOk l.length then some (.lst ((sortI l).map .int)) else none | none => sortedT x) | none => none) := by cases x <;> rfl
theorem in_L : inD x (.lst xs) = if D.good 50 x && D.goodL 50 xs then some (anyEq x xs) else none := rfl
theorem in_T : inD x (.tup xs) = if D.good 50 x && D.goodL 50 xs then some (anyEq x xs) else none := rfl
@[simp] theorem s_L : seqD (.lst xs) = some xs := rfl
@[simp] theorem s_T : seqD (.tup xs) = some xs := rfl
theorem ix_L : idxM (.lst xs) (.int i) = lift (atD xs i) := by
  funext c
  show (match idxD (.lst xs) (.int i) with | some d => Res.ok d c | none => .no) = _
  show (match atD xs i with | some d => Res.ok d c | none => .no) = _
  cases atD xs i <;> rfl
theorem ix_T : idxM (.tup xs) (.int i) = lift (atD xs i) := by
  funext c
  show (match atD xs i with | some d => Res.ok d c | none => .no) = _
  cases atD xs i <;> rfl
end
@[simp] theorem ints_map (l : List Int) : ints? (l.map D.int) = some l := by
  induction l with
  | nil => rfl
  | cons a r ih => simp [ints?, ih]
@[simp] theorem bools_map (l : List Bool) : bools? (l.map D.bl) = some l := by
  induction l with
  | nil => rfl
  | cons a r ih => simp [bools?, ih]
theorem callN_eq {Φ : Nat → Option Fn} {j n : Nat} {F : Fn} (h : Φ j = some F) (hj : Nat.beq j 0 = false) (ds : List D) : callN Φ (n + 1) j ds = runF (callN Φ n) F ds := by
  cases j with
  | zero => cases hj
  | succ j =>
    have e : callN Φ (n + 1) (j + 1) ds = (match Φ (j + 1) with | some fn => runF (callN Φ n) fn ds | none => no) := by cases ds <;> rfl
    rw [e, h]
theorem bnd_app {α β : Type} {m : M α} {f : α → M β} {c c1 : Cup} {a : α} (h : m c = .ok a c1) : bnd m f c = f a c1 := by
  unfold bnd
  rw [h]
/-! a def's run, step by step -/
section
variable {C : Nat → List D → M D} {δ δ' : Env} {c c' c1 : Cup} {a b : St} {e : Ex} {d : D} {ds : List D} {r : Res Flow}
theorem x_run {F : Fn} (hl : ds.length = F.ps.length) (h : evS C F.body (ds.map some ++ List.replicate (F.N.length - ds.length) none) c = .ok (.ret d) c') : runF C F ds c = .ok d c' := by
  unfold runF
  rw [if_pos hl]
  unfold bnd
  rw [h]
  rfl
theorem x_run0 {F : Fn} (hl : ds.length = F.ps.length) (h : evS C F.body (ds.map some ++ List.replicate (F.N.length - ds.length) none) c = .ok (.next δ') c') : runF C F ds c = .ok .non c' := by
  unfold runF
  rw [if_pos hl]
  unfold bnd
  rw [h]
  rfl
theorem x_seq (δ' : Env) (c1 : Cup) (h1 : evS C a δ c = .ok (.next δ') c1) (h2 : evS C b δ' c1 = r) : evS C (.seq a b) δ c = r := by
  show (bnd (evS C a δ) fun fl => match fl with
    | .next δ' => evS C b δ'
    | .brk δ' => ret (.brk δ')
    | .ret d => ret (.ret d)) c = r
  unfold bnd
  rw [h1]
  exact h2
theorem x_seqR (h1 : evS C a δ c = .ok (.ret d) c1) : evS C (.seq a b) δ c = .ok (.ret d) c1 := by
  show (bnd (evS C a δ) fun fl => match fl with
    | .next δ' => evS C b δ'
    | .brk δ' => ret (.brk δ')
    | .ret d => ret (.ret d)) c = _
  unfold bnd
  rw [h1]
  rfl
theorem x_skip : evS C .skip δ c = .ok (.next δ) c := rfl
theorem x_ret (h : evE C e δ c = .ok d c') : evS C (.ret e) δ c = .ok (.ret d) c' := by
  show bnd (evE C e δ) _ c = _
  unfold bnd
  rw [h]
  rfl
theorem x_asg {i : Nat} (h : evE C e δ c = .ok d c') : evS C (.asg i e) δ c = .ok (.next (δ.set i (some d))) c' := by
  show bnd (evE C e δ) _ c = _
  unfold bnd
  rw [h]
  rfl
theorem x_asgO {i : Nat} (h : evE C e δ c = .ok (.lst ds) c') : evS C (.asgO i e) δ c = .ok (.next (δ.set i (some (.lst ds)))) c' := by
  show bnd (evE C e δ) _ c = _
  unfold bnd
  rw [h]
  rfl
theorem x_exp (h : evE C e δ c = .ok d c') : evS C (.exp e) δ c = .ok (.next δ) c' := by
  show bnd (evE C e δ) _ c = _
  unfold bnd
  rw [h]
  rfl
theorem x_while {inv : List Nat} (h : whileM (fun δ => evE C e δ) (fun δ => evS C b δ) wfuel δ c = r) : evS C (.while_ inv e b) δ c = r := h
theorem x_for {inv : List Nat} {t : Tg} (h : evE C e δ c = .ok (.lst ds) c1) (h2 : forM (fun d δ => optM (setT t d δ) fun δ' => evS C b δ') ds δ c1 = r) : evS C (.for_ inv t e b) δ c = r := by
  show bnd (evE C e δ) _ c = _
  unfold bnd
  rw [h]
  exact h2
theorem x_iteT (h : evE C e δ c = .ok (.bl true) c1) (h2 : evS C a δ c1 = r) : evS C (.ite e a b) δ c = r := by
  show bnd (evE C e δ) _ c = _
  unfold bnd
  rw [h]
  exact h2
theorem x_iteF (h : evE C e δ c = .ok (.bl false) c1) (h2 : evS C b δ c1 = r) : evS C (.ite e a b) δ c = r := by
  show bnd (evE C e δ) _ c = _
  unfold bnd
  rw [h]
  exact h2
theorem x_par {is : List Nat} {os : List Bool} (h : evE C e δ c = .ok (.tup ds) c') (ho : okL os ds = true) (hs : setAll is ds δ = some δ') : evS C (.par is os e) δ c = .ok (.next δ') c' := by
  show bnd (evE C e δ) _ c = _
  unfold bnd
  rw [h]
  show (if okL os ds then optM (setAll is ds δ) fun δ' => ret (Flow.next δ') else no) c' = _
  rw [if_pos ho, hs]
  rfl
theorem x_asgT {t : Tg} (h : evE C e δ c = .ok d c') (hs : setT t d δ = some δ') : evS C (.asgT t e) δ c = .ok (.next δ') c' := by
  show bnd (evE C e δ) _ c = _
  unfold bnd
  rw [h]
  show (optM (setT t d δ) fun δ' => ret (Flow.next δ')) c' = _
  rw [hs]
  rfl
theorem x_app {i : Nat} (h : evE C e δ c = .ok d c') (hl : lstAt δ i = some ds) (hz : szOk ds.length = true) : evS C (.app i e) δ c = .ok (.next (δ.set i (some (.lst (ds ++ [d]))))) c' := by
  show bnd (evE C e δ) _ c = _
  unfold bnd
  rw [h]
  show (optM (lstAt δ i) fun ds => if szOk ds.length then ret (Flow.next (δ.set i (some (.lst (ds ++ [d]))))) else no) c' = _
  rw [hl]
  show (if szOk ds.length then ret (Flow.next (δ.set i (some (.lst (ds ++ [d]))))) else no) c' = _
  rw [if_pos hz]
  rfl
theorem x_setI {i : Nat} {k : Ex} {kd : D} {es : List D} (h : evE C e δ c = .ok d c1) (hk : evE C k δ c1 = .ok kd c') (hl : lstAt δ i = some ds) (hs : setD ds kd d = some es) : evS C (.setI i k e) δ c = .ok (.next (δ.set i (some (.lst es)))) c' := by
  show bnd (evE C e δ) _ c = _
  unfold bnd
  rw [h]
  show bnd (evE C k δ) _ c1 = _
  unfold bnd
  rw [hk]
  show (optM (lstAt δ i) fun ds => optM (setD ds kd d) fun ds' => ret (Flow.next (δ.set i (some (.lst ds'))))) c' = _
  rw [hl]
  show (optM (setD ds kd d) fun ds' => ret (Flow.next (δ.set i (some (.lst ds'))))) c' = _
  rw [hs]
  rfl
theorem e_var {i : Nat} (h : δ[i]? = some (some d)) : evE C (.var i) δ c = .ok d c := by
  show lift (δ[i]?.getD none) c = _
  rw [h]
  rfl
theorem e_cons {a r : Ex} {x : D} {l : List D} (h1 : evE C a δ c = .ok x c1) (h2 : evE C r δ c1 = .ok (.tup l) c') : evE C (.cons a r) δ c = .ok (.tup (x :: l)) c' := (bnd_app h1).trans (bnd_app h2)
theorem e_nil : evE C .nil δ c = .ok (.tup []) c := rfl
theorem e_tup {l : Ex} (h : evE C l δ c = .ok (.tup ds) c') : evE C (.tup l) δ c = .ok (.tup ds) c' := bnd_app h
theorem e_lst {l : Ex} (h : evE C l δ c = .ok (.tup ds) c') : evE C (.lst l) δ c = .ok (.lst ds) c' := bnd_app h
theorem e_b1 {f : B1} {a : Ex} {x : D} (h : evE C a δ c = .ok x c') (h2 : b1D f x = some d) : evE C (.b1 f a) δ c = .ok d c' := (bnd_app h).trans (by rw [h2]; rfl)
theorem e_b2 {f : B2} {a b : Ex} {x y : D} (h : evE C a δ c = .ok x c1) (h' : evE C b δ c1 = .ok y c') (h2 : b2D f x y = some d) : evE C (.b2 f a b) δ c = .ok d c' := (bnd_app h).trans ((bnd_app h').trans (by rw [h2]; rfl))
theorem e_op2 {o : O2} {a b : Ex} {x y : D} (h : evE C a δ c = .ok x c1) (h' : evE C b δ c1 = .ok y c') (h2 : op2D o x y = some d) : evE C (.op2 o a b) δ c = .ok d c' := (bnd_app h).trans ((bnd_app h').trans (by rw [h2]; rfl))
theorem e_call {f : Nat} {l : Ex} (h : evE C l δ c = .ok (.tup ds) c1) (h2 : C f ds c1 = .ok d c') : evE C (.call f l) δ c = .ok d c' := (bnd_app h).trans h2
theorem e_idx {a b : Ex} {x y : D} (h : evE C a δ c = .ok x c1) (h' : evE C b δ c1 = .ok y c') (h2 : idxM x y c' = .ok d c') : evE C (.idx a b) δ c = .ok d c' := (bnd_app h).trans ((bnd_app h').trans h2)
theorem e_slc {a lo hi : Ex} {x l u : D} {c2 : Cup} (h : evE C a δ c = .ok x c1) (h1 : evE C lo δ c1 = .ok l c2) (h2 : evE C hi δ c2 = .ok u c') (h3 : slcD x l u = some d) : evE C (.slc a lo hi) δ c = .ok d c' := (bnd_app h).trans ((bnd_app h1).trans ((bnd_app h2).trans (by rw [h3]; rfl)))
theorem e_itR {l : Ex} {es : List D} (h : evE C l δ c = .ok (.tup ds) c') (h2 : rangeD ds = some es) : evE C (.itR l) δ c = .ok (.lst es) c' := (bnd_app h).trans (by show lift ((rangeD ds).map D.lst) c' = _; rw [h2]; rfl)
theorem e_itV {a : Ex} {x : D} (h : evE C a δ c = .ok x c') (h2 : seqD x = some ds) : evE C (.itV a) δ c = .ok (.lst ds) c' := (bnd_app h).trans (by show lift ((seqD x).map D.lst) c' = _; rw [h2]; rfl)
theorem e_itE {a : Ex} {x : D} (h : evE C a δ c = .ok x c') (h2 : seqD x = some ds) : evE C (.itE a) δ c = .ok (.lst (enumD 0 ds)) c' := (bnd_app h).trans (by show lift ((seqD x).map fun ds => D.lst (enumD 0 ds)) c' = _; rw [h2]; rfl)
theorem e_itZ {a b : Ex} {x y : D} {es : List D} (h : evE C a δ c = .ok x c1) (h' : evE C b δ c1 = .ok y c') (h1 : seqD x = some ds) (h2 : seqD y = some es) : evE C (.itZ a b) δ c = .ok (.lst (zipD ds es)) c' := (bnd_app h).trans ((bnd_app h').trans (by rw [h1, h2]; rfl))
theorem e_not {a : Ex} {k : Bool} (h : evE C a δ c = .ok (.bl k) c') : evE C (.not a) δ c = .ok (.bl (!k)) c' := (bnd_app h).trans (by cases k <;> rfl)
theorem e_andF {a b : Ex} (h : evE C a δ c = .ok (.bl false) c') : evE C (.and a b) δ c = .ok (.bl false) c' := bnd_app h
theorem e_andT {a b : Ex} {k : Bool} (h : evE C a δ c = .ok (.bl true) c1) (h2 : evE C b δ c1 = .ok (.bl k) c') : evE C (.and a b) δ c = .ok (.bl k) c' := (bnd_app h).trans ((bnd_app h2).trans (by cases k <;> rfl))
theorem e_orT {a b : Ex} (h : evE C a δ c = .ok (.bl true) c') : evE C (.or a b) δ c = .ok (.bl true) c' := bnd_app h
theorem e_orF {a b : Ex} {k : Bool} (h : evE C a δ c = .ok (.bl false) c1) (h2 : evE C b δ c1 = .ok (.bl k) c') : evE C (.or a b) δ c = .ok (.bl k) c' := (bnd_app h).trans ((bnd_app h2).trans (by cases k <;> rfl))
theorem e_iteT {k a b : Ex} (h : evE C k δ c = .ok (.bl true) c1) (h2 : evE C a δ c1 = .ok d c') : evE C (.ite k a b) δ c = .ok d c' := (bnd_app h).trans h2
theorem e_iteF {k a b : Ex} (h : evE C k δ c = .ok (.bl false) c1) (h2 : evE C b δ c1 = .ok d c') : evE C (.ite k a b) δ c = .ok d c' := (bnd_app h).trans h2
theorem x_comp {t : Tg} {it ic ie : Ex} {l : List D} (h : evE C it δ c = .ok (.lst ds) c1) (h2 : compM (fun d => match setT t d δ with
        | some δ' => bnd (evE C ic δ') fun k => truth k (bnd (evE C ie δ') fun y => ret (some y)) (ret none)
        | none => no) ds c1 = .ok l c') (hz : szOk l.length = true) : evE C (.comp t it ic ie) δ c = .ok (.lst l) c' := by
  refine (bnd_app h).trans ((bnd_app h2).trans ?_)
  show (if szOk l.length then ret (D.lst l) else no) c' = _
  rw [if_pos hz]
  rfl
theorem x_forS {t : Tg} {l : List D} (δ1 : Env) (hs : setT t d δ = some δ1) (h1 : evS C b δ1 c = .ok (.next δ') c1) (h2 : forM (fun d δ => optM (setT t d δ) fun δ' => evS C b δ') l δ' c1 = r) :
    forM (fun d δ => optM (setT t d δ) fun δ' => evS C b δ') (d :: l) δ c = r := by
  rw [forM_cons]
  refine (bnd_app (a := Flow.next δ') (c1 := c1) ?_).trans h2
  show optM (setT t d δ) _ c = _
  rw [hs]
  exact h1
theorem x_forR {t : Tg} {l : List D} {v : D} (δ1 : Env) (hs : setT t d δ = some δ1) (h1 : evS C b δ1 c = .ok (.ret v) c1) :
    forM (fun d δ => optM (setT t d δ) fun δ' => evS C b δ') (d :: l) δ c = .ok (.ret v) c1 := by
  rw [forM_cons]
  refine (bnd_app (a := Flow.ret v) (c1 := c1) ?_).trans rfl
  show optM (setT t d δ) _ c = _
  rw [hs]
  exact h1
theorem erase_map {α β : Type} (f : α → β) : ∀ (l : List α) (i : Nat), (l.map f).eraseIdx i = (l.eraseIdx i).map f
  | [], _ => rfl
  | a :: r, 0 => rfl
  | a :: r, i + 1 => congrArg (f a :: ·) (erase_map f r i)
theorem perm_take_out {α : Type} : ∀ {l : List α} {i : Nat} (h : i < l.length), (l[i] :: l.eraseIdx i).Perm l
  | a :: r, 0, _ => .refl _
  | a :: r, i + 1, h => by
    have h' : i < r.length := Nat.lt_of_succ_lt_succ h
    show (r[i] :: a :: r.eraseIdx i).Perm (a :: r)
    exact (List.Perm.swap a r[i] _).trans (List.Perm.cons a (perm_take_out h'))
theorem compM_filter {f : D → M (Option D)} {p : D → Bool} {g : D → D} : ∀ {ds : List D} {c : Cup}, (∀ d ∈ ds, f d c = .ok (if p d then some (g d) else none) c) → compM f ds c = .ok ((ds.filter p).map g) c
  | [], c, _ => rfl
  | d :: r, c, h => by
    have h1 := h d (by simp)
    have h2 := compM_filter (f := f) (p := p) (g := g) (ds := r) (c := c) fun x hx => h x (List.mem_cons_of_mem _ hx)
    refine (bnd_app h1).trans ((bnd_app h2).trans ?_)
    rw [List.filter_cons]
    cases p d <;> rfl
theorem e_compF {t : Tg} {it ic ie : Ex} (p : D → Bool) (g : D → D) (hit : evE C it δ c = .ok (.lst ds) c1) (h : ∀ d ∈ ds, ∃ δ', setT t d δ = some δ' ∧ evE C ic δ' c1 = .ok (.bl (p d)) c1 ∧ (p d = true → evE C ie δ' c1 = .ok (g d) c1)) (hz : (ds.filter p).length ≤ 1000000) :
    evE C (.comp t it ic ie) δ c = .ok (.lst ((ds.filter p).map g)) c1 := by
  refine x_comp hit (compM_filter (p := p) (g := g) fun d hd => ?_) (Nat.ble_eq_true_of_le (by rw [List.length_map]; exact hz))
  obtain ⟨δ', h1, h2, h3⟩ := h d hd
  show (match setT t d δ with
        | some δ' => bnd (evE C ic δ') fun k => truth k (bnd (evE C ie δ') fun y => ret (some y)) (ret none)
        | none => no) c1 = _
  rw [h1]
  refine (bnd_app h2).trans ?_
  cases hp : p d with
  | true => exact bnd_app (h3 hp)
  | false => rfl
theorem e_compM {t : Tg} {it ie : Ex} (g : D → D) (hit : evE C it δ c = .ok (.lst ds) c1) (h : ∀ d ∈ ds, ∃ δ', setT t d δ = some δ' ∧ evE C ie δ' c1 = .ok (g d) c1) (hz : ds.length ≤ 1000000) :
    evE C (.comp t it (.cB true) ie) δ c = .ok (.lst (ds.map g)) c1 := by
  have e := e_compF (ic := .cB true) (ie := ie) (fun _ => true) g hit (fun d hd => let ⟨δ', h1, h2⟩ := h d hd; ⟨δ', h1, rfl, fun _ => h2⟩) (Nat.le_trans (List.length_filter_le _ _) hz)
  rw [List.filter_eq_self.mpr (fun _ _ => rfl)] at e
  exact e
end
end PF

/-! PF20: lists of ints -/
namespace PF
abbrev tI (l : List Int) : D := .tup (l.map D.int)
abbrev lI (l : List Int) : D := .lst (l.map D.int)
@[simp] theorem goodL_ints (n : Nat) (l : List Int) : D.goodL n (l.map D.int) = true := by
  induction l with
  | nil => cases n <;> rfl
  | cons a r ih =>
    show (D.good n (.int a) && D.goodL n (r.map D.int)) = true
    rw [ih]
    cases n <;> rfl
@[simp] theorem good_int (n : Nat) (i : Int) : D.good n (.int i) = true := by cases n <;> rfl
@[simp] theorem good_bl (n : Nat) (i : Bool) : D.good n (.bl i) = true := by cases n <;> rfl
@[simp] theorem good_non (n : Nat) : D.good n .non = true := by cases n <;> rfl
@[simp] theorem goodL_nil (n : Nat) : D.goodL n [] = true := by cases n <;> rfl
@[simp] theorem goodL_cons' (n : Nat) (x : D) (l : List D) : D.goodL n (x :: l) = (D.good n x && D.goodL n l) := by cases n <;> rfl
@[simp] theorem good_tup' (n : Nat) (l : List D) : D.good (n + 1) (.tup l) = D.goodL n l := rfl
@[simp] theorem good_lst' (n : Nat) (l : List D) : D.good (n + 1) (.lst l) = D.goodL n l := rfl
@[simp] theorem eqv_int (i j : Int) : D.eqv (.int i) (.int j) = (i == j) := rfl
theorem eqvL_ints : ∀ a b : List Int, D.eqvL (a.map D.int) (b.map D.int) = decide (a = b)
  | [], [] => rfl
  | [], b :: r => rfl
  | a :: r, [] => rfl
  | a :: r, b :: s => by
    show (D.eqv (.int a) (.int b) && D.eqvL (r.map D.int) (s.map D.int)) = _
    rw [eqvL_ints r s, eqv_int]
    by_cases h : a = b
    · subst h
      simp
    · simp [h]
@[simp] theorem eqD_lI (a b : List Int) : eqD (lI a) (lI b) = some (decide (a = b)) := by
  unfold eqD
  rw [show D.good 50 (lI a) = true from goodL_ints 49 a, show D.good 50 (lI b) = true from goodL_ints 49 b]
  exact congrArg some (eqvL_ints a b)
@[simp] theorem eqD_tI (a b : List Int) : eqD (tI a) (tI b) = some (decide (a = b)) := by
  unfold eqD
  rw [show D.good 50 (tI a) = true from goodL_ints 49 a, show D.good 50 (tI b) = true from goodL_ints 49 b]
  exact congrArg some (eqvL_ints a b)
theorem szOk_of {n : Nat} (h : n ≤ 1000000) : szOk n = true := Nat.ble_eq_true_of_le h
@[simp] theorem anyEq_ints (x : Int) (l : List Int) : anyEq (.int x) (l.map D.int) = decide (x ∈ l) := by
  induction l with
  | nil => rfl
  | cons a r ih =>
    show ((a == x) || anyEq (.int x) (r.map D.int)) = _
    rw [ih]
    by_cases h : a = x
    · subst h
      simp
    · simp [h, Ne.symm h]
theorem inD_lI (x : Int) (l : List Int) : inD (.int x) (lI l) = some (decide (x ∈ l)) := by
  rw [in_L, goodL_ints, good_int, anyEq_ints]
  rfl
theorem inD_tI (x : Int) (l : List Int) : inD (.int x) (tI l) = some (decide (x ∈ l)) := by
  rw [in_T, goodL_ints, good_int, anyEq_ints]
  rfl
theorem findEq_ints (x : Int) : ∀ (l : List Int) (k : Nat), findEq (.int x) k (l.map D.int) = if x ∈ l then some (k + l.idxOf x) else none
  | [], k => rfl
  | a :: r, k => by
    show (if (a == x) then some k else findEq (.int x) (k + 1) (r.map D.int)) = _
    rw [findEq_ints x r (k + 1)]
    by_cases h : a = x
    · subst h
      simp
    · have h' : ¬ x = a := fun e => h e.symm
      by_cases hm : x ∈ r
      · simp only [beq_iff_eq, h, if_false, hm, if_true, List.mem_cons, or_true]
        rw [List.idxOf_cons, show (a == x) = false from beq_eq_false_iff_ne.mpr h]
        simp only [cond_false, Option.some.injEq]
        omega
      · simp [h, h', hm]
theorem countEq_ints (x : Int) (l : List Int) : countEq (.int x) (l.map D.int) = l.count x := by
  induction l with
  | nil => rfl
  | cons a r ih =>
    show (if (a == x) then countEq (.int x) (r.map D.int) + 1 else countEq (.int x) (r.map D.int)) = _
    rw [ih, List.count_cons]
    split <;> rfl
theorem index_tI (x : Int) (l : List Int) (h : x ∈ l) (hz : l.length ≤ 1000000) : b2D .index (tI l) (.int x) = some (.int (l.idxOf x : Nat)) := by
  show (if D.good 50 (.int x) && (D.goodL 50 (l.map D.int) && szOk (l.map D.int).length) then (findEq (.int x) 0 (l.map D.int)).map (fun k => D.int (k : Nat)) else none) = _
  rw [List.length_map, szOk_of hz, findEq_ints, if_pos h]
  simp
theorem index_lI (x : Int) (l : List Int) (h : x ∈ l) (hz : l.length ≤ 1000000) : b2D .index (lI l) (.int x) = some (.int (l.idxOf x : Nat)) := index_tI x l h hz
theorem count_tI (x : Int) (l : List Int) (hz : l.length ≤ 1000000) : b2D .count (tI l) (.int x) = some (.int (l.count x : Nat)) := by
  show (if D.good 50 (.int x) && (D.goodL 50 (l.map D.int) && szOk (l.map D.int).length) then some (D.int (countEq (.int x) (l.map D.int) : Nat)) else none) = _
  rw [List.length_map, szOk_of hz, countEq_ints]
  simp
/-- 0, 1, .. n - 1 -/
def upto (n : Nat) : List Int := (List.range n).map fun k : Nat => (k : Int)
theorem rangeI_map : ∀ (n : Nat) (a : Int), rangeI a n = ((List.range n).map fun k : Nat => a + (k : Int)).map D.int
  | 0, _ => rfl
  | n + 1, a => by
    show D.int a :: rangeI (a + 1) n = _
    rw [rangeI_map n (a + 1), List.range_succ_eq_map]
    simp only [List.map_cons, List.map_map]
    congr 1
    · simp
    · refine List.map_congr_left fun k _ => ?_
      show D.int (a + 1 + k) = D.int (a + ((k + 1 : Nat) : Int))
      congr 1
      omega
theorem rangeI0 (n : Nat) : rangeI 0 n = (upto n).map D.int := by
  rw [rangeI_map]
  unfold upto
  congr 1
  refine List.map_congr_left fun k _ => ?_
  omega
@[simp] theorem upto_len (n : Nat) : (upto n).length = n := by simp [upto]
theorem upto_get {n i : Nat} (h : i < n) : (upto n)[i]? = some (i : Int) := by simp [upto, h]
theorem mem_upto {n : Nat} {x : Int} : x ∈ upto n ↔ 0 ≤ x ∧ x < n := by
  unfold upto
  rw [List.mem_map]
  constructor
  · rintro ⟨k, h, rfl⟩
    have := List.mem_range.mp h
    omega
  · rintro ⟨h1, h2⟩
    exact ⟨x.toNat, List.mem_range.mpr (by omega), by omega⟩
theorem upto_nodup (n : Nat) : (upto n).Nodup := by
  unfold upto
  unfold List.Nodup
  rw [List.pairwise_map]
  refine List.Pairwise.imp (R := fun a b : Nat => a < b) (fun {a b} h e => ?_) List.pairwise_lt_range
  have e : (a : Int) = b := e
  omega
theorem rangeD1 (n : Nat) (h : n ≤ 1000000) : rangeD [.int (n : Int)] = some ((upto n).map D.int) := by
  have hb : b62 (n : Int) = true := by
    unfold b62
    rw [Bool.and_eq_true]
    exact ⟨decide_eq_true (by omega), decide_eq_true (by omega)⟩
  show (if b62 (n : Int) then some (rangeI 0 (n : Int).toNat) else none) = _
  rw [if_pos hb, Int.toNat_natCast, rangeI0]
theorem listR1 (n : Nat) (h : n ≤ 1000000) : b1D .listR (.tup [.int (n : Int)]) = some (lI (upto n)) := by
  rw [f_listR, rangeD1 n h]
  simp only [List.length_map, upto_len, szOk_of h, if_true]
theorem tupleR1 (n : Nat) (h : n ≤ 1000000) : b1D .tupleR (.tup [.int (n : Int)]) = some (tI (upto n)) := by
  rw [f_tupleR, rangeD1 n h]
  simp only [List.length_map, upto_len, szOk_of h, if_true]
/-- sorted -/
theorem insI_sorted {a : Int} : ∀ {l : List Int}, l.Pairwise (· ≤ ·) → (insI a l).Pairwise (· ≤ ·)
  | [], _ => by simp [insI]
  | b :: r, h => by
    unfold insI
    split
    · rename_i hab
      refine List.Pairwise.cons (fun x hx => ?_) h
      rcases List.mem_cons.mp hx with e | hx
      · exact e ▸ hab
      · exact Int.le_trans hab (List.rel_of_pairwise_cons h hx)
    · rename_i hab
      have hp : ∀ x ∈ insI a r, b ≤ x := by
        have hm : ∀ l : List Int, ∀ x ∈ insI a l, x = a ∨ x ∈ l := by
          intro l
          induction l with
          | nil => intro x hx; simpa [insI] using hx
          | cons c s ih =>
            intro x hx
            unfold insI at hx
            split at hx
            · rcases List.mem_cons.mp hx with e | hx
              · exact .inl e
              · exact .inr hx
            · rcases List.mem_cons.mp hx with e | hx
              · exact .inr (by simp [e])
              · rcases ih x hx with e | hx
                · exact .inl e
                · exact .inr (List.mem_cons_of_mem _ hx)
        intro x hx
        rcases hm r x hx with e | hx
        · rw [e]; omega
        · exact List.rel_of_pairwise_cons h hx
      exact List.Pairwise.cons hp (insI_sorted (List.Pairwise.of_cons h))
theorem insI_perm (a : Int) : ∀ l : List Int, (insI a l).Perm (a :: l)
  | [] => by simp [insI]
  | b :: r => by
    unfold insI
    split
    · exact List.Perm.refl _
    · exact (List.Perm.cons b (insI_perm a r)).trans (List.Perm.swap a b r)
theorem sortI_ok : ∀ l : List Int, (sortI l).Pairwise (· ≤ ·) ∧ (sortI l).Perm l
  | [] => ⟨.nil, .refl _⟩
  | a :: r => ⟨insI_sorted (sortI_ok r).1, (insI_perm a _).trans (List.Perm.cons a (sortI_ok r).2)⟩
theorem upto_sorted (n : Nat) : (upto n).Pairwise (· ≤ ·) := by
  unfold upto
  rw [List.pairwise_map]
  exact List.Pairwise.imp (fun {a b} (h : a < b) => by omega) List.pairwise_lt_range
theorem sortI_of {l m : List Int} (hp : l.Perm m) (hs : m.Pairwise (· ≤ ·)) : sortI l = m :=
  ((sortI_ok l).2.trans hp).eq_of_pairwise (fun a b _ _ h1 h2 => Int.le_antisymm h1 h2) (sortI_ok l).1 hs
theorem sorted_T (l : List Int) (h : l.length ≤ 1000000) : b1D .sorted (tI l) = some (lI (sortI l)) := by
  rw [f_sorted]
  simp only [s_T, ints_map, szOk_of h, if_true]
theorem sorted_L (l : List Int) (h : l.length ≤ 1000000) : b1D .sorted (lI l) = some (lI (sortI l)) := by
  rw [f_sorted]
  simp only [s_L, ints_map, szOk_of h, if_true]
/-- an order -/
def IsO (l : List Int) : Prop := l.Perm (upto l.length)
theorem IsO.mem {l : List Int} (h : IsO l) {x : Int} : x ∈ l ↔ 0 ≤ x ∧ x < l.length := (h.mem_iff).trans mem_upto
theorem IsO.nodup {l : List Int} (h : IsO l) : l.Nodup := h.nodup_iff.mpr (upto_nodup _)
theorem IsO.of {l : List Int} {n : Nat} (h : l.Perm (upto n)) : IsO l := by
  have e : l.length = n := by rw [h.length_eq, upto_len]
  unfold IsO
  rw [e]
  exact h
/-! slices -/
theorem cut_from {α : Type} (l : List α) (k : Nat) : cut l (some (k : Int)) none = l.drop k := by
  unfold cut clip
  simp only [show ¬ ((k : Int) < 0) by omega, if_false, Int.toNat_natCast, List.take_length]
  by_cases h : k ≤ l.length
  · rw [Nat.min_eq_left h]
  · rw [Nat.min_eq_right (by omega), List.drop_length, List.drop_eq_nil_of_le (by omega)]
theorem cut_to {α : Type} (l : List α) (k : Nat) : cut l none (some (k : Int)) = l.take k := by
  unfold cut clip
  simp only [show ¬ ((k : Int) < 0) by omega, if_false, Int.toNat_natCast, List.drop_zero]
  by_cases h : k ≤ l.length
  · rw [Nat.min_eq_left h]
  · rw [Nat.min_eq_right (by omega), List.take_length, List.take_of_length_le (by omega)]
theorem slc_fromT (l : List Int) (k : Nat) : slcD (tI l) (.int (k : Int)) .non = some (tI (l.drop k)) := by
  show some (D.tup (cut (l.map D.int) (some (k : Int)) none)) = _
  rw [cut_from, ← List.map_drop]
theorem slc_toT (l : List Int) (k : Nat) : slcD (tI l) .non (.int (k : Int)) = some (tI (l.take k)) := by
  show some (D.tup (cut (l.map D.int) none (some (k : Int)))) = _
  rw [cut_to, ← List.map_take]
theorem slc_fromL (l : List Int) (k : Nat) : slcD (lI l) (.int (k : Int)) .non = some (lI (l.drop k)) := by
  show some (D.lst (cut (l.map D.int) (some (k : Int)) none)) = _
  rw [cut_from, ← List.map_drop]
theorem slc_toL (l : List Int) (k : Nat) : slcD (lI l) .non (.int (k : Int)) = some (lI (l.take k)) := by
  show some (D.lst (cut (l.map D.int) none (some (k : Int)))) = _
  rw [cut_to, ← List.map_take]
theorem rev_lI (l : List Int) : revD (lI l) = some (lI l.reverse) := by
  show some (D.lst (l.map D.int).reverse) = _
  rw [← List.map_reverse]
theorem rev_tI (l : List Int) : revD (tI l) = some (tI l.reverse) := by
  show some (D.tup (l.map D.int).reverse) = _
  rw [← List.map_reverse]
theorem cat_tI (a b : List Int) (h : a.length + b.length ≤ 1000000) : op2D .add (tI a) (tI b) = some (tI (a ++ b)) := by
  rw [o_addT, List.length_map, List.length_map, szOk_of h, if_pos rfl, ← List.map_append]
theorem cat_lI (a b : List Int) (h : a.length + b.length ≤ 1000000) : op2D .add (lI a) (lI b) = some (lI (a ++ b)) := by
  rw [o_addL, List.length_map, List.length_map, szOk_of h, if_pos rfl, ← List.map_append]
theorem len_tI (l : List Int) : b1D .len (tI l) = some (.int l.length) := by rw [f_lenT, List.length_map]
theorem len_lI (l : List Int) : b1D .len (lI l) = some (.int l.length) := by rw [f_lenL, List.length_map]
/-! comprehensions of ints -/
theorem filter_map_int (l : List Int) (p : D → Bool) (q : Int → Bool) (g : D → D) (f : Int → Int) (hp : ∀ x ∈ l, p (.int x) = q x) (hg : ∀ x ∈ l, g (.int x) = .int (f x)) : ((l.map D.int).filter p).map g = ((l.filter q).map f).map D.int := by
  induction l with
  | nil => rfl
  | cons a r ih =>
    rw [List.map_cons, List.filter_cons, List.filter_cons, hp a (by simp)]
    have ih' := ih (fun x hx => hp x (List.mem_cons_of_mem _ hx)) (fun x hx => hg x (List.mem_cons_of_mem _ hx))
    cases q a with
    | true =>
      show g (.int a) :: _ = _
      rw [hg a (by simp)]
      exact congrArg (D.int (f a) :: ·) ih'
    | false => exact ih'
section
variable {C : Nat → List D → M D} {δ : Env} {c c1 : Cup} {it ic ie : Ex}
theorem e_compFI {i : Nat} (l : List Int) (q : Int → Bool) (f : Int → Int) (hit : evE C it δ c = .ok (.lst (l.map D.int)) c1) (h : ∀ x ∈ l, evE C ic (δ.set i (some (.int x))) c1 = .ok (.bl (q x)) c1 ∧ (q x = true → evE C ie (δ.set i (some (.int x))) c1 = .ok (.int (f x)) c1)) (hz : l.length ≤ 1000000) :
    evE C (.comp (.one i) it ic ie) δ c = .ok (lI ((l.filter q).map f)) c1 := by
  have e := e_compF (C := C) (δ := δ) (t := .one i) (it := it) (ic := ic) (ie := ie) (fun d => match d with | .int x => q x | _ => false) (fun d => match d with | .int x => .int (f x) | d => d) hit (fun d hd => by
    obtain ⟨x, hx, rfl⟩ := List.mem_map.mp hd
    exact ⟨_, rfl, h x hx⟩) (Nat.le_trans (List.length_filter_le _ _) (by rw [List.length_map]; exact hz))
  rw [filter_map_int l _ q _ f (fun _ _ => rfl) (fun _ _ => rfl)] at e
  exact e
theorem e_compMI {i : Nat} (l : List Int) (f : Int → Int) (hit : evE C it δ c = .ok (.lst (l.map D.int)) c1) (h : ∀ x ∈ l, evE C ie (δ.set i (some (.int x))) c1 = .ok (.int (f x)) c1) (hz : l.length ≤ 1000000) :
    evE C (.comp (.one i) it (.cB true) ie) δ c = .ok (lI (l.map f)) c1 := by
  have e := e_compFI (C := C) (δ := δ) (i := i) (ic := .cB true) (ie := ie) l (fun _ => true) f hit (fun x hx => ⟨rfl, fun _ => h x hx⟩) hz
  rw [List.filter_eq_self.mpr (fun _ _ => rfl)] at e
  exact e
theorem enum_mem {l : List Int} {d : D} : ∀ {k : Nat}, d ∈ enumD k (l.map D.int) → ∃ i : Nat, ∃ h : i < l.length, d = .tup [.int ((k + i : Nat) : Int), .int l[i]] := by
  induction l with
  | nil => intro k h; cases h
  | cons a r ih =>
    intro k h
    rcases List.mem_cons.mp (show d ∈ D.tup [.int (k : Int), .int a] :: enumD (k + 1) (r.map D.int) from h) with e | h
    · exact ⟨0, by simp, e⟩
    · obtain ⟨i, hi, e⟩ := ih (k := k + 1) (by exact_mod_cast h)
      exact ⟨i + 1, by simpa using hi, by rw [e, show k + 1 + i = k + (i + 1) by omega]; rfl⟩
end
theorem x_appI {C : Nat → List D → M D} {δ : Env} {c c' : Cup} {e : Ex} {i : Nat} {F : List Int} {a : Int} (h : evE C e δ c = .ok (.int a) c') (hl : δ[i]? = some (some (lI F))) (hz : F.length ≤ 1000000) : evS C (.app i e) δ c = .ok (.next (δ.set i (some (lI (F ++ [a]))))) c' := by
  have hl' : lstAt δ i = some (F.map D.int) := by
    unfold lstAt
    rw [hl]
    rfl
  have z := x_app (i := i) h hl' (szOk_of (by rw [List.length_map]; exact hz))
  rw [show lI (F ++ [a]) = .lst (F.map D.int ++ [.int a]) by simp [lI]]
  exact z
end PF

/-! PT0: typed code, and that the evaluator computes it -/
namespace PF
abbrev S (α : Type) := Cup → Option (α × Cup)
section
variable {α β γ σ ρ : Type}
def sp (a : α) : S α := fun c => some (a, c)
def sno : S α := fun _ => none
def sb (t : S α) (k : α → S β) : S β := fun c => match t c with
  | some (a, c') => k a c'
  | none => none
def so (o : Option α) (k : α → S β) : S β := match o with
  | some a => k a
  | none => sno
def gd (b : Bool) : Option Unit := if b then some () else none
def slet (v : α) (k : α → S β) : S β := k v
def sand (x y : S Bool) : S Bool := sb x fun b => if b then y else sp false
def sor (x y : S Bool) : S Bool := sb x fun b => if b then sp true else y
def sif (x : S Bool) (y z : S α) : S α := sb x fun b => if b then y else z
def smap (f : α → S β) : List α → S (List β)
  | [] => sp []
  | x :: r => sb (f x) fun y => sb (smap f r) fun l => sp (y :: l)
def sfm (g : α → S Bool) (f : α → S β) : List α → S (List β)
  | [] => sp []
  | x :: r => sb (g x) fun b => if b then sb (f x) fun y => sb (sfm g f r) fun l => sp (y :: l) else sfm g f r
inductive Lp (σ ρ : Type) where
  | next (s : σ) | brk (s : σ) | ret (v : ρ)
def sfold (f : σ → α → S σ) : List α → σ → S σ
  | [], s => sp s
  | x :: r, s => sb (f s x) fun s' => sfold f r s'
def sfoldR (f : σ → α → S (Lp σ ρ)) : List α → σ → S (Lp σ ρ)
  | [], s => sp (.next s)
  | x :: r, s => sb (f s x) fun o => match o with
    | .next s' => sfoldR f r s'
    | .brk s' => sp (.next s')
    | .ret v => sp (.ret v)
def swhile (t : σ → S Bool) (f : σ → S σ) : Nat → σ → S σ
  | 0, _ => sno
  | n + 1, s => sb (t s) fun b => if b then sb (f s) fun s' => swhile t f n s' else sp s
def swhileR (t : σ → S Bool) (f : σ → S (Lp σ ρ)) : Nat → σ → S (Lp σ ρ)
  | 0, _ => sno
  | n + 1, s => sb (t s) fun b => if b then sb (f s) fun o => match o with
    | .next s' => swhileR t f n s'
    | .brk s' => sp (.next s')
    | .ret v => sp (.ret v) else sp (.next s)
def slk (kr : ρ → S β) (k : σ → S β) (o : Lp σ ρ) : S β := match o with
  | .next s => k s
  | .brk s => k s
  | .ret v => kr v
end
/-! encodings -/
section
variable {α β γ : Type}
abbrev eD (d : D) : D := d
def eL (e : α → D) (l : List α) : D := .lst (l.map e)
def eT (e : α → D) (l : List α) : D := .tup (l.map e)
def eP (e : α → D) (f : β → D) (p : α × β) : D := .tup [e p.1, f p.2]
def eQ (e : α → D) (f : β → D) (g : γ → D) (p : α × β × γ) : D := .tup [e p.1, f p.2.1, g p.2.2]
def eN (_ : Unit) : D := .non
def eO (e : α → D) : Option α → D
  | some a => e a
  | none => .non
end
theorem ix_of {x y d : D} {c : Cup} (h : idxD x y = some d) : idxM x y c = .ok d c := by
  cases x with
  | lst l =>
    show (match idxD (.lst l) y with | some d => Res.ok d c | none => .no) = _
    rw [h]
  | tup l =>
    show (match idxD (.tup l) y with | some d => Res.ok d c | none => .no) = _
    rw [h]
  | _ => cases y <;> cases h
def unG {γ : Type} (f : List D → M γ) (d : D) : M γ := match d with
  | .tup l => f l
  | _ => no
/-! the relation -/
def Agr (Γ δ : Env) : Prop := Γ.length = δ.length ∧ ∀ (i : Nat) (d : D), Γ[i]? = some (some d) → δ[i]? = some (some d)
theorem Agr.refl (Γ : Env) : Agr Γ Γ := ⟨rfl, fun _ _ h => h⟩
theorem Agr.set {Γ δ : Env} (h : Agr Γ δ) (i : Nat) (d : D) : Agr (Γ.set i (some d)) (δ.set i (some d)) := by
  refine ⟨by rw [List.length_set, List.length_set]; exact h.1, fun j e q => ?_⟩
  rw [List.getElem?_set] at q ⊢
  split at q
  · rename_i z
    rw [if_pos z]
    rw [h.1] at q
    exact q
  · rename_i z
    rw [if_neg z]
    exact h.2 _ _ q
/-- the first knows no more -/
def Le (Γ' Γ : Env) : Prop := Γ'.length = Γ.length ∧ ∀ (i : Nat) (d : D), Γ'[i]? = some (some d) → Γ[i]? = some (some d)
theorem Le.nil : Le [] [] := ⟨rfl, fun _ _ h => h⟩
theorem Le.some (d : D) {Γ' Γ : Env} (h : Le Γ' Γ) : Le (some d :: Γ') (some d :: Γ) :=
  ⟨by rw [List.length_cons, List.length_cons, h.1], fun i => match i with | 0 => fun _ q => q | i + 1 => fun d q => h.2 i d q⟩
theorem Le.none (o : Option D) {Γ' Γ : Env} (h : Le Γ' Γ) : Le (none :: Γ') (o :: Γ) :=
  ⟨by rw [List.length_cons, List.length_cons, h.1], fun i => match i with | 0 => fun _ q => by cases q | i + 1 => fun d q => h.2 i d q⟩
theorem Le.agr {Γ' Γ δ : Env} (h : Le Γ' Γ) (a : Agr Γ δ) : Agr Γ' δ := ⟨h.1.trans a.1, fun i d q => a.2 i d (h.2 i d q)⟩
section
variable {α α' β γ σ ρ τ : Type}
def J (Γ : Env) (m : Env → M β) (t : S α) (R : α → β → Prop) : Prop := ∀ δ c a c', Agr Γ δ → t c = some (a, c') → ∃ r, m δ c = .ok r c' ∧ R a r
theorem J.cong {Γ : Env} {m m' : Env → M β} {t : S α} {R : α → β → Prop} (h : ∀ δ, m δ = m' δ) (j : J Γ m' t R) : J Γ m t R := by
  have : m = m' := funext h
  rw [this]
  exact j
theorem J.le {Γ Γ' : Env} {m : Env → M β} {t : S α} {R : α → β → Prop} (h : Le Γ' Γ) (j : J Γ' m t R) : J Γ m t R := fun δ c a c' A T => j δ c a c' (h.agr A) T
def eqr (e : α → β) (a : α) (r : β) : Prop := r = e a
abbrev RE (C : Nat → List D → M D) (e : Ex) (Γ : Env) (t : S α) (en : α → D) : Prop := J Γ (fun δ => evE C e δ) t (eqr en)
def RP (C : Nat → List D → M D) (e : Ex) (Γ : Env) (d : D) : Prop := ∀ δ c, Agr Γ δ → evE C e δ c = .ok d c
def FE (m : M D) (t : S α) (e : α → D) : Prop := ∀ c a c', t c = some (a, c') → m c = .ok (e a) c'
theorem sb_some {t : S α} {k : α → S β} {c c' : Cup} {b : β} (h : sb t k c = some (b, c')) : ∃ a c1, t c = some (a, c1) ∧ k a c1 = some (b, c') := by
  unfold sb at h
  split at h
  · rename_i a c1 q
    exact ⟨a, c1, q, h⟩
  · cases h
theorem so_some {o : Option α} {k : α → S β} {c c' : Cup} {b : β} (h : so o k c = some (b, c')) : ∃ a, o = some a ∧ k a c = some (b, c') := by
  cases o with
  | none => cases h
  | some a => exact ⟨a, rfl, h⟩
theorem gd_some {b : Bool} {u : Unit} (h : gd b = some u) : b = true := by
  cases b with
  | true => rfl
  | false => cases h
section
variable {C : Nat → List D → M D} {Γ : Env} {t : S β} {R : β → γ → Prop} {F : Env → D → M γ} {a b e k l lo hi it : Ex} {d d1 d2 : D} {i j n : Nat}
theorem j_ret {r : γ} {a : β} (h : R a r) : J Γ (fun _ => ret r) (sp a) R := fun δ c a' c' A T => by
  cases T
  exact ⟨r, rfl, h⟩
theorem re_of {α : Type} {t : S α} {en : α → D} (h : J Γ (fun δ => bnd (evE C e δ) (fun d => ret d)) t (eqr en)) : RE C e Γ t en := J.cong (fun δ => (bnd_ret (evE C e δ)).symm) h
theorem rp_of (h : J Γ (fun δ => bnd (evE C e δ) (fun d => ret d)) (sp ()) (fun (_ : Unit) r => r = d)) : RP C e Γ d := fun δ c A => by
  obtain ⟨r, h1, h2⟩ := h δ c () c A rfl
  have h1 : bnd (evE C e δ) ret c = .ok r c := h1
  rw [bnd_ret] at h1
  rw [h1, h2]
theorem RP.re {α : Type} {en : α → D} {v : α} (h : RP C e Γ (en v)) : RE C e Γ (sp v) en := fun δ c a c' A T => by
  cases T
  exact ⟨_, h δ c A, rfl⟩
theorem j_rp (h : RP C e Γ d) (q : J Γ (fun δ => F δ d) t R) : J Γ (fun δ => bnd (evE C e δ) (F δ)) t R := fun δ c a c' A T => by
  obtain ⟨r, h1, h2⟩ := q δ c a c' A T
  exact ⟨r, (bnd_app (h δ c A)).trans h1, h2⟩
theorem j_re {α : Type} {ta : S α} {en : α → D} {tk : α → S β} (h : RE C e Γ ta en) (q : ∀ x, J Γ (fun δ => F δ (en x)) (tk x) R) : J Γ (fun δ => bnd (evE C e δ) (F δ)) (sb ta tk) R := fun δ c a c' A T => by
  obtain ⟨x, c1, h1, h2⟩ := sb_some T
  obtain ⟨r, e1, e2⟩ := h δ c x c1 A h1
  obtain ⟨r', e3, e4⟩ := q x δ c1 a c' A h2
  have e2 : r = en x := e2
  subst e2
  exact ⟨r', (bnd_app e1).trans e3, e4⟩
theorem j_cN (q : J Γ (fun δ => F δ .non) t R) : J Γ (fun δ => bnd (evE C .cN δ) (F δ)) t R := q
theorem j_cB {k : Bool} (q : J Γ (fun δ => F δ (.bl k)) t R) : J Γ (fun δ => bnd (evE C (.cB k) δ) (F δ)) t R := q
theorem j_cI {k : Int} (q : J Γ (fun δ => F δ (.int k)) t R) : J Γ (fun δ => bnd (evE C (.cI k) δ) (F δ)) t R := q
theorem j_cS {k : Sx} (q : J Γ (fun δ => F δ (.str k)) t R) : J Γ (fun δ => bnd (evE C (.cS k) δ) (F δ)) t R := q
theorem j_var (h : Γ[i]? = some (some d)) (q : J Γ (fun δ => F δ d) t R) : J Γ (fun δ => bnd (evE C (.var i) δ) (F δ)) t R := j_rp (fun δ c A => by
  show lift (δ[i]?.getD none) c = _
  rw [A.2 _ _ h]
  rfl) q
theorem j_val (h : d1 = d) (q : J Γ (fun δ => F δ d) t R) : J Γ (fun δ => bnd (ret d1) (F δ)) t R := by
  subst h
  exact q
theorem j_op2 {o : O2} (q : J Γ (fun δ => bnd (evE C a δ) fun x => bnd (evE C b δ) fun y => bnd (lift (op2D o x y)) (F δ)) t R) : J Γ (fun δ => bnd (evE C (.op2 o a b) δ) (F δ)) t R :=
  J.cong (fun δ => (bnd_bnd _ _ _).trans (bnd_congr fun x => bnd_bnd _ _ _)) q
theorem j_b1 {f : B1} (q : J Γ (fun δ => bnd (evE C a δ) fun x => bnd (lift (b1D f x)) (F δ)) t R) : J Γ (fun δ => bnd (evE C (.b1 f a) δ) (F δ)) t R :=
  J.cong (fun δ => bnd_bnd _ _ _) q
theorem j_b2 {f : B2} (q : J Γ (fun δ => bnd (evE C a δ) fun x => bnd (evE C b δ) fun y => bnd (lift (b2D f x y)) (F δ)) t R) : J Γ (fun δ => bnd (evE C (.b2 f a b) δ) (F δ)) t R :=
  J.cong (fun δ => (bnd_bnd _ _ _).trans (bnd_congr fun x => bnd_bnd _ _ _)) q
def negO : D → Option D
  | .int i => some (.int (-i))
  | _ => none
theorem j_neg (q : J Γ (fun δ => bnd (evE C a δ) fun x => bnd (lift (negO x)) (F δ)) t R) : J Γ (fun δ => bnd (evE C (.neg a) δ) (F δ)) t R :=
  J.cong (fun δ => (bnd_bnd _ _ _).trans (bnd_congr fun x => by cases x <;> rfl)) q
def notO : D → Option D
  | .bl k => some (.bl (!k))
  | _ => none
theorem j_not (q : J Γ (fun δ => bnd (evE C a δ) fun x => bnd (lift (notO x)) (F δ)) t R) : J Γ (fun δ => bnd (evE C (.not a) δ) (F δ)) t R :=
  J.cong (fun δ => (bnd_bnd _ _ _).trans (bnd_congr fun x => by
    cases x with
    | bl k => cases k <;> rfl
    | _ => rfl)) q
theorem j_idx (q : J Γ (fun δ => bnd (evE C a δ) fun x => bnd (evE C b δ) fun y => bnd (idxM x y) (F δ)) t R) : J Γ (fun δ => bnd (evE C (.idx a b) δ) (F δ)) t R :=
  J.cong (fun δ => (bnd_bnd _ _ _).trans (bnd_congr fun x => bnd_bnd _ _ _)) q
theorem j_slc (q : J Γ (fun δ => bnd (evE C a δ) fun x => bnd (evE C lo δ) fun y => bnd (evE C hi δ) fun z => bnd (lift (slcD x y z)) (F δ)) t R) : J Γ (fun δ => bnd (evE C (.slc a lo hi) δ) (F δ)) t R :=
  J.cong (fun δ => (bnd_bnd _ _ _).trans (bnd_congr fun x => (bnd_bnd _ _ _).trans (bnd_congr fun y => bnd_bnd _ _ _))) q
theorem j_rev (q : J Γ (fun δ => bnd (evE C a δ) fun x => bnd (lift (revD x)) (F δ)) t R) : J Γ (fun δ => bnd (evE C (.rev a) δ) (F δ)) t R :=
  J.cong (fun δ => bnd_bnd _ _ _) q
theorem j_tup (q : J Γ (fun δ => bnd (evE C l δ) (unG fun ds => bnd (ret (.tup ds)) (F δ))) t R) : J Γ (fun δ => bnd (evE C (.tup l) δ) (F δ)) t R :=
  J.cong (fun δ => (bnd_bnd _ _ _).trans (bnd_congr fun x => by cases x <;> rfl)) q
theorem j_lst (q : J Γ (fun δ => bnd (evE C l δ) (unG fun ds => bnd (ret (.lst ds)) (F δ))) t R) : J Γ (fun δ => bnd (evE C (.lst l) δ) (F δ)) t R :=
  J.cong (fun δ => (bnd_bnd _ _ _).trans (bnd_congr fun x => by cases x <;> rfl)) q
theorem j_call {f : Nat} (q : J Γ (fun δ => bnd (evE C l δ) (unG fun ds => bnd (C f ds) (F δ))) t R) : J Γ (fun δ => bnd (evE C (.call f l) δ) (F δ)) t R :=
  J.cong (fun δ => (bnd_bnd _ _ _).trans (bnd_congr fun x => by cases x <;> rfl)) q
def noLM (d : D) : M D := if D.noL d then ret d else no
theorem j_callB {f : Nat} (q : J Γ (fun δ => bnd (evE C l δ) (unG fun ds => bnd (C f ds) fun d => bnd (noLM d) (F δ))) t R) : J Γ (fun δ => bnd (evE C (.callB f l) δ) (F δ)) t R :=
  J.cong (fun δ => (bnd_bnd _ _ _).trans (bnd_congr fun x => by
    cases x with
    | tup ds => exact bnd_bnd _ _ _
    | _ => rfl)) q
theorem j_itR (q : J Γ (fun δ => bnd (evE C l δ) (unG fun ds => bnd (lift ((rangeD ds).map D.lst)) (F δ))) t R) : J Γ (fun δ => bnd (evE C (.itR l) δ) (F δ)) t R :=
  J.cong (fun δ => (bnd_bnd _ _ _).trans (bnd_congr fun x => by cases x <;> rfl)) q
theorem j_itE (q : J Γ (fun δ => bnd (evE C a δ) fun x => bnd (lift ((seqD x).map fun ds => D.lst (enumD 0 ds))) (F δ)) t R) : J Γ (fun δ => bnd (evE C (.itE a) δ) (F δ)) t R :=
  J.cong (fun δ => bnd_bnd _ _ _) q
theorem j_itV (q : J Γ (fun δ => bnd (evE C a δ) fun x => bnd (lift ((seqD x).map D.lst)) (F δ)) t R) : J Γ (fun δ => bnd (evE C (.itV a) δ) (F δ)) t R :=
  J.cong (fun δ => bnd_bnd _ _ _) q
def zipO (x y : D) : Option D := match seqD x, seqD y with
  | some xs, some ys => some (.lst (zipD xs ys))
  | _, _ => none
theorem j_itZ (q : J Γ (fun δ => bnd (evE C a δ) fun x => bnd (evE C b δ) fun y => bnd (lift (zipO x y)) (F δ)) t R) : J Γ (fun δ => bnd (evE C (.itZ a b) δ) (F δ)) t R :=
  J.cong (fun δ => (bnd_bnd _ _ _).trans (bnd_congr fun x => (bnd_bnd _ _ _).trans (bnd_congr fun y => by
    unfold zipO
    cases seqD x <;> cases seqD y <;> rfl))) q
/-! lists of expressions -/
theorem jl_nil {G : Env → List D → M γ} (q : J Γ (fun δ => G δ []) t R) : J Γ (fun δ => bnd (evE C .nil δ) (unG (G δ))) t R := q
theorem jl_cons {G : Env → List D → M γ} (q : J Γ (fun δ => bnd (evE C a δ) fun x => bnd (evE C b δ) (unG fun l => G δ (x :: l))) t R) : J Γ (fun δ => bnd (evE C (.cons a b) δ) (unG (G δ))) t R :=
  J.cong (fun δ => (bnd_bnd _ _ _).trans (bnd_congr fun x => (bnd_bnd _ _ _).trans (bnd_congr fun y => by cases y <;> rfl))) q
/-! values -/
theorem j_lift {o : Option D} (h : o = some d) (q : J Γ (fun δ => F δ d) t R) : J Γ (fun δ => bnd (lift o) (F δ)) t R := by
  subst h
  exact q
theorem j_liftG {o : Option D} {g : Bool} (h : g = true → o = some d) (q : J Γ (fun δ => F δ d) t R) : J Γ (fun δ => bnd (lift o) (F δ)) (so (gd g) fun _ => t) R := fun δ c a c' A T => by
  obtain ⟨u, h1, h2⟩ := so_some T
  exact j_lift (h (gd_some h1)) q δ c a c' A h2
theorem j_liftO {α : Type} {o : Option D} {p : Option α} {en : α → D} {tk : α → S β} (h : ∀ x, p = some x → o = some (en x)) (q : ∀ x, J Γ (fun δ => F δ (en x)) (tk x) R) : J Γ (fun δ => bnd (lift o) (F δ)) (so p tk) R := fun δ c a c' A T => by
  obtain ⟨u, h1, h2⟩ := so_some T
  exact j_lift (h u h1) (q u) δ c a c' A h2
theorem j_ix {α : Type} {x y : D} {p : Option α} {en : α → D} {tk : α → S β} (h : ∀ x', p = some x' → idxD x y = some (en x')) (q : ∀ x, J Γ (fun δ => F δ (en x)) (tk x) R) : J Γ (fun δ => bnd (idxM x y) (F δ)) (so p tk) R := fun δ c a c' A T => by
  obtain ⟨u, h1, h2⟩ := so_some T
  obtain ⟨r, e1, e2⟩ := q u δ c a c' A h2
  refine ⟨r, (bnd_app (a := en u) (c1 := c) ?_).trans e1, e2⟩
  have := h u h1
  exact ix_of this
theorem j_ixP {x y : D} (h : idxD x y = some d) (q : J Γ (fun δ => F δ d) t R) : J Γ (fun δ => bnd (idxM x y) (F δ)) t R := fun δ c a c' A T => by
  obtain ⟨r, e1, e2⟩ := q δ c a c' A T
  refine ⟨r, (bnd_app (a := d) (c1 := c) ?_).trans e1, e2⟩
  exact ix_of h
theorem j_fe {α : Type} {m : M D} {t0 : S α} {en : α → D} {tk : α → S β} (h : FE m t0 en) (q : ∀ x, J Γ (fun δ => F δ (en x)) (tk x) R) : J Γ (fun δ => bnd m (F δ)) (sb t0 tk) R := fun δ c a c' A T => by
  obtain ⟨x, c1, h1, h2⟩ := sb_some T
  obtain ⟨r', e3, e4⟩ := q x δ c1 a c' A h2
  exact ⟨r', (bnd_app (h c x c1 h1)).trans e3, e4⟩
theorem j_cast {α : Type} {p : Option α} {en : α → D} {tk : α → S β} (h : ∀ x, p = some x → d = en x) (q : ∀ x, J Γ (fun δ => F δ (en x)) (tk x) R) : J Γ (fun δ => F δ d) (so p tk) R := fun δ c a c' A T => by
  obtain ⟨x, h1, h2⟩ := so_some T
  have e := h x h1
  subst e
  exact q x δ c a c' A h2
def mark {γ : Type} (F : D → M γ) : D → M γ := F
theorem j_mark (q : J Γ (fun δ => bnd (evE C e δ) (mark (F δ))) t R) : J Γ (fun δ => bnd (evE C e δ) (F δ)) t R := q
theorem j_castM {α : Type} {p : Option α} {en : α → D} {tk : α → S β} (h : ∀ x, p = some x → d = en x) (q : ∀ x, J Γ (fun δ => F δ (en x)) (tk x) R) : J Γ (fun δ => mark (F δ) d) (so p tk) R := j_cast h q
theorem j_noL (h : D.noL d = true) (q : J Γ (fun δ => F δ d) t R) : J Γ (fun δ => bnd (noLM d) (F δ)) t R := J.cong (fun δ => by unfold noLM; rw [if_pos h]; rfl) q
theorem j_if {m1 m2 : Env → M γ} {t1 t2 : S β} {k : Bool} (q1 : J Γ m1 t1 R) (q2 : J Γ m2 t2 R) : J Γ (fun δ => truth (.bl k) (m1 δ) (m2 δ)) (if k = true then t1 else t2) R := by
  cases k
  · exact q2
  · exact q1
theorem j_andP {x y : Bool} (ha : RP C a Γ (.bl x)) (hb : RP C b Γ (.bl y)) (q : J Γ (fun δ => F δ (.bl (x && y))) t R) : J Γ (fun δ => bnd (evE C (.and a b) δ) (F δ)) t R :=
  j_rp (fun δ c A => by
    cases x with
    | false => exact e_andF (ha δ c A)
    | true => exact e_andT (ha δ c A) (hb δ c A)) q
theorem j_orP {x y : Bool} (ha : RP C a Γ (.bl x)) (hb : RP C b Γ (.bl y)) (q : J Γ (fun δ => F δ (.bl (x || y))) t R) : J Γ (fun δ => bnd (evE C (.or a b) δ) (F δ)) t R :=
  j_rp (fun δ c A => by
    cases x with
    | true => exact e_orT (ha δ c A)
    | false => exact e_orF (ha δ c A) (hb δ c A)) q
theorem j_andE {ta tb : S Bool} {tk : Bool → S β} (ha : RE C a Γ ta D.bl) (hb : RE C b Γ tb D.bl) (q : ∀ z, J Γ (fun δ => F δ (.bl z)) (tk z) R) : J Γ (fun δ => bnd (evE C (.and a b) δ) (F δ)) (sb (sand ta tb) tk) R :=
  j_re (en := D.bl) (fun δ c z c' A T => by
    obtain ⟨x, c1, h1, h2⟩ := sb_some T
    obtain ⟨r, e1, e2⟩ := ha δ c x c1 A h1
    have e2 : r = .bl x := e2
    subst e2
    cases x with
    | false =>
      have h2 : sp false c1 = some (z, c') := h2
      cases h2
      exact ⟨_, e_andF e1, rfl⟩
    | true =>
      have h2 : tb c1 = some (z, c') := h2
      obtain ⟨r, e3, e4⟩ := hb δ c1 z c' A h2
      have e4 : r = .bl z := e4
      subst e4
      exact ⟨_, e_andT e1 e3, rfl⟩) q
theorem j_orE {ta tb : S Bool} {tk : Bool → S β} (ha : RE C a Γ ta D.bl) (hb : RE C b Γ tb D.bl) (q : ∀ z, J Γ (fun δ => F δ (.bl z)) (tk z) R) : J Γ (fun δ => bnd (evE C (.or a b) δ) (F δ)) (sb (sor ta tb) tk) R :=
  j_re (en := D.bl) (fun δ c z c' A T => by
    obtain ⟨x, c1, h1, h2⟩ := sb_some T
    obtain ⟨r, e1, e2⟩ := ha δ c x c1 A h1
    have e2 : r = .bl x := e2
    subst e2
    cases x with
    | true =>
      have h2 : sp true c1 = some (z, c') := h2
      cases h2
      exact ⟨_, e_orT e1, rfl⟩
    | false =>
      have h2 : tb c1 = some (z, c') := h2
      obtain ⟨r, e3, e4⟩ := hb δ c1 z c' A h2
      have e4 : r = .bl z := e4
      subst e4
      exact ⟨_, e_orF e1 e3, rfl⟩) q
theorem j_iteP {α : Type} {en : α → D} {x : Bool} {u v : α} (hk : RP C k Γ (.bl x)) (ha : RP C a Γ (en u)) (hb : RP C b Γ (en v)) (q : J Γ (fun δ => F δ (en (if x = true then u else v))) t R) : J Γ (fun δ => bnd (evE C (.ite k a b) δ) (F δ)) t R :=
  j_rp (fun δ c A => by
    cases x with
    | true => exact e_iteT (hk δ c A) (ha δ c A)
    | false => exact e_iteF (hk δ c A) (hb δ c A)) q
theorem j_iteE {α : Type} {en : α → D} {tc : S Bool} {ta tb : S α} {tk : α → S β} (hk : RE C k Γ tc D.bl) (ha : RE C a Γ ta en) (hb : RE C b Γ tb en) (q : ∀ z, J Γ (fun δ => F δ (en z)) (tk z) R) : J Γ (fun δ => bnd (evE C (.ite k a b) δ) (F δ)) (sb (sif tc ta tb) tk) R :=
  j_re (en := en) (fun δ c z c' A T => by
    obtain ⟨x, c1, h1, h2⟩ := sb_some T
    obtain ⟨r, e1, e2⟩ := hk δ c x c1 A h1
    have e2 : r = .bl x := e2
    subst e2
    cases x with
    | true =>
      obtain ⟨r, e3, e4⟩ := ha δ c1 z c' A h2
      have e4 : r = en z := e4
      subst e4
      exact ⟨_, e_iteT e1 e3, rfl⟩
    | false =>
      obtain ⟨r, e3, e4⟩ := hb δ c1 z c' A h2
      have e4 : r = en z := e4
      subst e4
      exact ⟨_, e_iteF e1 e3, rfl⟩) q
def chM (C : Nat → List D → M D) (o p : O2) (k : Ex) (x y : D) (δ : Env) : M D := bnd (lift (op2D o x y)) fun t => truth t (bnd (evE C k δ) fun z => lift (op2D p y z)) (ret (.bl false))
theorem j_chain {o p : O2} (q : J Γ (fun δ => bnd (evE C a δ) fun x => bnd (evE C b δ) fun y => bnd (chM C o p k x y δ) (F δ)) t R) : J Γ (fun δ => bnd (evE C (.chain o p a b k) δ) (F δ)) t R :=
  J.cong (fun δ => (bnd_bnd _ _ _).trans (bnd_congr fun x => bnd_bnd _ _ _)) q
theorem j_chV {o p : O2} {dx dy dz : D} {u v : Bool} (h1 : op2D o dx dy = some (.bl u)) (hk : RP C k Γ dz) (h2 : op2D p dy dz = some (.bl v)) (q : J Γ (fun δ => F δ (.bl (u && v))) t R) : J Γ (fun δ => bnd (chM C o p k dx dy δ) (F δ)) t R := fun δ c a c' A T => by
  obtain ⟨r, e1, e2⟩ := q δ c a c' A T
  refine ⟨r, (bnd_app (a := .bl (u && v)) (c1 := c) ?_).trans e1, e2⟩
  unfold chM
  rw [h1]
  cases u with
  | false => rfl
  | true =>
    refine (bnd_app (hk δ c A)).trans ?_
    rw [h2]
    rfl
/-- .. whose last part may do anything -/
theorem j_chG {α : Type} {o p : O2} {dx dy : D} {en : α → D} {tc : S α} {pu : Option Bool} {pv : α → Option Bool} {tk : Bool → S β} (h1 : ∀ u, pu = some u → op2D o dx dy = some (.bl u)) (hk : RE C k Γ tc en) (h2 : ∀ z v, pv z = some v → op2D p dy (en z) = some (.bl v)) (q : ∀ z, J Γ (fun δ => F δ (.bl z)) (tk z) R) :
    J Γ (fun δ => bnd (chM C o p k dx dy δ) (F δ)) (sb (so pu fun u => sand (sp u) (sb tc fun z => so (pv z) fun v => sp v)) tk) R := fun δ c a c' A T => by
  obtain ⟨b, c1, z1, z2⟩ := sb_some T
  obtain ⟨u, z3, z4⟩ := so_some z1
  obtain ⟨r, e1, e2⟩ := q b δ c1 a c' A z2
  refine ⟨r, (bnd_app (a := .bl b) (c1 := c1) ?_).trans e1, e2⟩
  unfold chM
  rw [h1 _ z3]
  cases u with
  | false =>
    have z4 : sp false c = some (b, c1) := z4
    cases z4
    rfl
  | true =>
    obtain ⟨z, c2, z5, z6⟩ := sb_some (show sb tc (fun z => so (pv z) fun v => sp v) c = some (b, c1) from z4)
    obtain ⟨v, z7, z8⟩ := so_some z6
    have z8 : sp v c2 = some (b, c1) := z8
    cases z8
    obtain ⟨r', e3, e4⟩ := hk δ c z _ A z5
    have e4 : r' = en z := e4
    subst e4
    refine (bnd_app e3).trans ?_
    rw [h2 z _ z7]
    rfl
theorem j_chE {α : Type} {o p : O2} {dx dy : D} {en : α → D} {tc : S α} {u : Bool} {v : α → Bool} {tk : Bool → S β} (h1 : op2D o dx dy = some (.bl u)) (hk : RE C k Γ tc en) (h2 : ∀ z, op2D p dy (en z) = some (.bl (v z))) (q : ∀ z, J Γ (fun δ => F δ (.bl z)) (tk z) R) :
    J Γ (fun δ => bnd (chM C o p k dx dy δ) (F δ)) (sb (sand (sp u) (sb tc fun z => sp (v z))) tk) R :=
  j_chG (pu := some u) (pv := fun z => some (v z)) (fun _ e => by cases e; exact h1) hk (fun z _ e => by cases e; exact h2 z) q
/-- .. of anything -/
theorem j_chO {o p : O2} {dx dy dz : D} {pu pv : Option Bool} {tk : Bool → S β} (h1 : ∀ u, pu = some u → op2D o dx dy = some (.bl u)) (hk : RP C k Γ dz) (h2 : ∀ v, pv = some v → op2D p dy dz = some (.bl v)) (q : ∀ z, J Γ (fun δ => F δ (.bl z)) (tk z) R) :
    J Γ (fun δ => bnd (chM C o p k dx dy δ) (F δ)) (so pu fun u => if u = true then so pv tk else tk false) R := fun δ c a c' A T => by
  obtain ⟨u, z1, z2⟩ := so_some T
  cases u with
  | false =>
    obtain ⟨r, e1, e2⟩ := q false δ c a c' A z2
    refine ⟨r, (bnd_app (a := .bl false) (c1 := c) ?_).trans e1, e2⟩
    unfold chM
    rw [h1 _ z1]
    rfl
  | true =>
    obtain ⟨v, z3, z4⟩ := so_some z2
    obtain ⟨r, e1, e2⟩ := q v δ c a c' A z4
    refine ⟨r, (bnd_app (a := .bl v) (c1 := c) ?_).trans e1, e2⟩
    unfold chM
    rw [h1 _ z1]
    refine (bnd_app (hk δ c A)).trans ?_
    rw [h2 _ z3]
    rfl
/-! comprehensions -/
def compB (C : Nat → List D → M D) (tg : Tg) (k e : Ex) (δ : Env) (x : D) : M D := match x with
    | .lst ds => bnd (compM (fun d => match setT tg d δ with
        | some δ' => bnd (evE C k δ') fun k => truth k (bnd (evE C e δ') fun y => ret (some y)) (ret none)
        | none => no) ds) fun l => if szOk l.length then ret (.lst l) else no
    | _ => no
theorem j_comp {tg : Tg} (q : J Γ (fun δ => bnd (evE C it δ) fun x => bnd (compB C tg k e δ x) (F δ)) t R) : J Γ (fun δ => bnd (evE C (.comp tg it k e) δ) (F δ)) t R :=
  J.cong (fun δ => (bnd_bnd _ _ _).trans (bnd_congr fun x => by cases x <;> rfl)) q
/-- a target takes an item -/
def TG {α : Type} (tg : Tg) (en : α → D) (Γ : Env) (Γx : α → Env) : Prop := ∀ δ x, Agr Γ δ → ∃ δ', setT tg (en x) δ = some δ' ∧ Agr (Γx x) δ'
theorem tg_one {α : Type} {en : α → D} : TG (.one i) en Γ fun x => Γ.set i (some (en x)) := fun δ x A => ⟨_, rfl, A.set _ _⟩
theorem tg_two {α α' : Type} {e1 : α → D} {e2 : α' → D} : TG (.two i j) (eP e1 e2) Γ fun x => (Γ.set i (some (e1 x.1))).set j (some (e2 x.2)) := fun δ x A => ⟨_, rfl, (A.set _ _).set _ _⟩
theorem tg_three {α α' α'' : Type} {e1 : α → D} {e2 : α' → D} {e3 : α'' → D} : TG (.three i j n) (eQ e1 e2 e3) Γ fun x => ((Γ.set i (some (e1 x.1))).set j (some (e2 x.2.1))).set n (some (e3 x.2.2)) := fun δ x A => ⟨_, rfl, ((A.set _ _).set _ _).set _ _⟩
theorem sz_le {m n : Nat} (h : m ≤ n) (g : szOk n = true) : szOk m = true := Nat.ble_eq_true_of_le (Nat.le_trans h (Nat.le_of_ble_eq_true g))
theorem comp_item {α α' : Type} {tg : Tg} {ea : α → D} {eb : α' → D} {Γx : α → Env} {tc : α → S Bool} {te : α → S α'} (ht : TG tg ea Γ Γx) (hc : ∀ x, RE C k (Γx x) (tc x) D.bl) (he : ∀ x, RE C e (Γx x) (te x) eb) {δ : Env} (A : Agr Γ δ) :
    ∀ (xs : List α) (c : Cup) (l : List α') (c' : Cup), sfm tc te xs c = some (l, c') → l.length ≤ xs.length ∧ compM (fun d => match setT tg d δ with
        | some δ' => bnd (evE C k δ') fun k => truth k (bnd (evE C e δ') fun y => ret (some y)) (ret none)
        | none => no) (xs.map ea) c = .ok (l.map eb) c'
  | [], c, l, c', h => by
    cases h
    exact ⟨Nat.le_refl _, rfl⟩
  | x :: r, c, l, c', h => by
    obtain ⟨b, c1, h1, h2⟩ := sb_some h
    obtain ⟨δ', s1, s2⟩ := ht δ x A
    obtain ⟨z, e1, e2⟩ := hc x δ' c b c1 s2 h1
    have e2 : z = .bl b := e2
    subst e2
    cases b with
    | false =>
      have h2 : sfm tc te r c1 = some (l, c') := h2
      obtain ⟨i1, i2⟩ := comp_item ht hc he A r c1 l c' h2
      refine ⟨Nat.le_succ_of_le i1, ?_⟩
      refine (bnd_app (a := none) (c1 := c1) ?_).trans ((bnd_app i2).trans rfl)
      show (match setT tg (ea x) δ with
        | some δ' => bnd (evE C k δ') fun k => truth k (bnd (evE C e δ') fun y => ret (some y)) (ret none)
        | none => no) c = _
      rw [s1]
      exact (bnd_app e1).trans rfl
    | true =>
      obtain ⟨y, c2, h3, h4⟩ := sb_some (show sb (te x) (fun y => sb (sfm tc te r) fun l => sp (y :: l)) c1 = some (l, c') from h2)
      obtain ⟨l', c3, h5, h6⟩ := sb_some h4
      cases h6
      obtain ⟨z, e3, e4⟩ := he x δ' c1 y c2 s2 h3
      have e4 : z = eb y := e4
      subst e4
      obtain ⟨i1, i2⟩ := comp_item ht hc he A r c2 l' c' h5
      refine ⟨Nat.succ_le_succ i1, ?_⟩
      refine (bnd_app (a := some (eb y)) (c1 := c2) ?_).trans ((bnd_app i2).trans rfl)
      show (match setT tg (ea x) δ with
        | some δ' => bnd (evE C k δ') fun k => truth k (bnd (evE C e δ') fun y => ret (some y)) (ret none)
        | none => no) c = _
      rw [s1]
      exact (bnd_app e1).trans (bnd_app e3)
theorem sfm_smap {α α' : Type} {te : α → S α'} : ∀ {xs : List α}, sfm (fun _ => sp true) te xs = smap te xs
  | [] => rfl
  | x :: r => by
    show sb (te x) (fun y => sb (sfm (fun _ => sp true) te r) fun l => sp (y :: l)) = sb (te x) fun y => sb (smap te r) fun l => sp (y :: l)
    rw [sfm_smap]
theorem sfm_pure {α α' : Type} {p : α → Bool} {f : α → α'} : ∀ {xs : List α}, sfm (fun x => sp (p x)) (fun x => sp (f x)) xs = sp ((xs.filter p).map f)
  | [] => rfl
  | x :: r => by
    show (if p x = true then sb (sfm (fun x => sp (p x)) (fun x => sp (f x)) r) fun l => sp (f x :: l) else sfm (fun x => sp (p x)) (fun x => sp (f x)) r) = _
    rw [sfm_pure, List.filter_cons]
    cases p x <;> rfl
theorem j_compE {α α' : Type} {tg : Tg} {ea : α → D} {eb : α' → D} {Γx : α → Env} {tc : α → S Bool} {te : α → S α'} {xs : List α} {tk : List α' → S β} (ht : TG tg ea Γ Γx) (hc : ∀ x, RE C k (Γx x) (tc x) D.bl) (he : ∀ x, RE C e (Γx x) (te x) eb)
    (q : ∀ l, J Γ (fun δ => F δ (eL eb l)) (tk l) R) : J Γ (fun δ => bnd (compB C tg k e δ (eL ea xs)) (F δ)) (so (gd (szOk xs.length)) fun _ => sb (sfm tc te xs) tk) R := fun δ c a c' A T => by
  obtain ⟨u, h1, h2⟩ := so_some T
  obtain ⟨l, c1, h3, h4⟩ := sb_some h2
  obtain ⟨r, e1, e2⟩ := q l δ c1 a c' A h4
  obtain ⟨i1, i2⟩ := comp_item ht hc he A xs c l c1 h3
  refine ⟨r, (bnd_app (a := eL eb l) (c1 := c1) ?_).trans e1, e2⟩
  refine (bnd_app i2).trans ?_
  rw [if_pos (sz_le (by rw [List.length_map]; exact i1) (gd_some h1))]
  rfl
theorem j_compEM {α α' : Type} {tg : Tg} {ea : α → D} {eb : α' → D} {Γx : α → Env} {te : α → S α'} {xs : List α} {tk : List α' → S β} (ht : TG tg ea Γ Γx) (he : ∀ x, RE C e (Γx x) (te x) eb)
    (q : ∀ l, J Γ (fun δ => F δ (eL eb l)) (tk l) R) : J Γ (fun δ => bnd (compB C tg (.cB true) e δ (eL ea xs)) (F δ)) (so (gd (szOk xs.length)) fun _ => sb (smap te xs) tk) R := by
  rw [show smap te xs = sfm (fun _ => sp true) te xs from sfm_smap.symm]
  exact j_compE ht (fun x => RP.re (en := D.bl) (v := true) fun δ c A => rfl) he q
theorem j_compP {α α' : Type} {tg : Tg} {ea : α → D} {eb : α' → D} {Γx : α → Env} {p : α → Bool} {f : α → α'} {xs : List α} (ht : TG tg ea Γ Γx) (hc : ∀ x, RP C k (Γx x) (.bl (p x))) (he : ∀ x, RP C e (Γx x) (eb (f x)))
    (q : J Γ (fun δ => F δ (eL eb ((xs.filter p).map f))) t R) : J Γ (fun δ => bnd (compB C tg k e δ (eL ea xs)) (F δ)) (so (gd (szOk xs.length)) fun _ => t) R := fun δ c a c' A T => by
  obtain ⟨u, h1, h2⟩ := so_some T
  obtain ⟨r, e1, e2⟩ := q δ c a c' A h2
  obtain ⟨i1, i2⟩ := comp_item ht (fun x => (hc x).re (en := D.bl)) (fun x => (he x).re (en := eb)) A xs c ((xs.filter p).map f) c (by rw [sfm_pure]; rfl)
  refine ⟨r, (bnd_app (a := eL eb ((xs.filter p).map f)) (c1 := c) ?_).trans e1, e2⟩
  refine (bnd_app i2).trans ?_
  rw [if_pos (sz_le (by rw [List.length_map]; exact i1) (gd_some h1))]
  rfl
theorem j_compPF {α : Type} {tg : Tg} {ea : α → D} {Γx : α → Env} {p : α → Bool} {xs : List α} (ht : TG tg ea Γ Γx) (hc : ∀ x, RP C k (Γx x) (.bl (p x))) (he : ∀ x, RP C e (Γx x) (ea x))
    (q : J Γ (fun δ => F δ (eL ea (xs.filter p))) t R) : J Γ (fun δ => bnd (compB C tg k e δ (eL ea xs)) (F δ)) (so (gd (szOk xs.length)) fun _ => t) R :=
  j_compP (eb := ea) (p := p) (f := fun x => x) ht hc he (by rw [show (xs.filter p).map (fun x => x) = xs.filter p from List.map_id _]; exact q)
theorem j_compPM {α α' : Type} {tg : Tg} {ea : α → D} {eb : α' → D} {Γx : α → Env} {f : α → α'} {xs : List α} (ht : TG tg ea Γ Γx) (he : ∀ x, RP C e (Γx x) (eb (f x)))
    (q : J Γ (fun δ => F δ (eL eb (xs.map f))) t R) : J Γ (fun δ => bnd (compB C tg (.cB true) e δ (eL ea xs)) (F δ)) (so (gd (szOk xs.length)) fun _ => t) R :=
  j_compP (p := fun _ => true) (f := f) ht (fun x δ c A => rfl) he (by rw [List.filter_eq_self.mpr (fun _ _ => rfl)]; exact q)
end
end
end PF

/-! PT1: statements -/
namespace PF
def evK (C : Nat → List D → M D) : List St → Env → M Flow
  | [], δ => ret (.next δ)
  | s :: r, δ => bnd (evS C s δ) fun fl => match fl with
    | .next δ' => evK C r δ'
    | .brk δ' => ret (.brk δ')
    | .ret d => ret (.ret d)
def behind (C : Nat → List D → M D) (r : List St) : Flow → M Flow
  | .next δ' => evK C r δ'
  | .brk δ' => ret (.brk δ')
  | .ret d => ret (.ret d)
section
variable {α β γ σ ρ τ : Type}
def RN (Γl : σ → Env) (s : σ) (fl : Flow) : Prop := ∃ δ', fl = .next δ' ∧ Agr (Γl s) δ'
def RL (Γl : σ → Env) (er : ρ → D) (o : Lp σ ρ) (fl : Flow) : Prop := match o with
  | .next s => ∃ δ', fl = .next δ' ∧ Agr (Γl s) δ'
  | .brk s => ∃ δ', fl = .brk δ' ∧ Agr (Γl s) δ'
  | .ret v => fl = .ret (er v)
def RF (er : ρ → D) (v : ρ) (fl : Flow) : Prop := fl = .ret (er v) ∨ (er v = .non ∧ ∃ δ', fl = .next δ')
/-- the rest behind a loop that may return -/
def srest (g : ρ → β) (k : σ → S β) (o : Lp σ ρ) : S β := match o with
  | .next s => k s
  | .brk s => k s
  | .ret v => sp (g v)
def stI (xs : List α) (k : Int) (v : α) : Option (List α) := if 0 ≤ k then (if k.toNat < xs.length then some (xs.set k.toNat v) else none) else if 0 ≤ k + xs.length then some (xs.set (k + xs.length).toNat v) else none
def popO (xs : List α) : Option (List α × α) := match xs.getLast? with
  | some y => some (xs.dropLast, y)
  | none => none
def popI (xs : List α) (k : Int) : Option (List α × α) := if decide (0 ≤ k) && decide (k < 2 ^ 62) then (match xs[k.toNat]? with
    | some d => some (xs.eraseIdx k.toNat, d)
    | none => none) else none
theorem setD_eL {en : α → D} {xs ys : List α} {k : Int} {v : α} (h : stI xs k v = some ys) : setD (xs.map en) (.int k) (en v) = some (ys.map en) := by
  unfold stI at h
  show (if 0 ≤ k then (if k.toNat < (xs.map en).length then some ((xs.map en).set k.toNat (en v)) else none) else if 0 ≤ k + ((xs.map en).length : Int) then some ((xs.map en).set (k + ((xs.map en).length : Int)).toNat (en v)) else none) = _
  rw [List.length_map]
  split at h
  · rename_i a
    rw [if_pos a]
    split at h
    · rename_i b
      cases h
      rw [if_pos b, List.map_set]
    · cases h
  · rename_i a
    rw [if_neg a]
    split at h
    · rename_i b
      cases h
      rw [if_pos b, List.map_set]
    · cases h
theorem popAt_eL {en : α → D} {xs : List α} {k : Int} {p : List α × α} (h : popI xs k = some p) : popAt (xs.map en) (.int k) = some (en p.2, p.1.map en) := by
  unfold popI at h
  show (if decide (0 ≤ k) && decide (k < 2 ^ 62) then (match (xs.map en)[k.toNat]? with
    | some d => some (d, (xs.map en).eraseIdx k.toNat)
    | none => none) else none) = _
  split at h
  · rename_i a
    rw [if_pos a, List.getElem?_map]
    split at h
    · rename_i d b
      cases h
      rw [b, erase_map]
      rfl
    · cases h
  · cases h
end
section
variable {α α' β γ σ ρ : Type} {C : Nat → List D → M D} {Γ : Env} {t : S β} {R : β → Flow → Prop} {a b : St} {e k l it : Ex} {d : D} {i j n : Nat} {r : List St}
theorem evK_one (s : St) (δ : Env) : evK C [s] δ = evS C s δ := by
  show bnd (evS C s δ) _ = _
  funext c
  unfold bnd
  cases evS C s δ c with
  | ok fl c' => cases fl <;> rfl
  | exc _ => rfl
  | no => rfl
theorem fe_run {Φ : Nat → Option Fn} {j n : Nat} {F : Fn} {ds : List D} {α : Type} {t : S α} {en : α → D} (h : Φ j = some F) (hj : Nat.beq j 0 = false) (hl : ds.length = F.ps.length) {Γ : Env} (hΓ : ds.map some ++ List.replicate (F.N.length - ds.length) none = Γ)
    (q : J Γ (fun δ => evK (callN Φ n) [F.body] δ) t (RF en)) : FE (callN Φ (n + 1) j ds) t en := fun c a c' T => by
  subst hΓ
  obtain ⟨fl, h1, h2⟩ := q _ c a c' (Agr.refl _) T
  have h1 : evK (callN Φ n) [F.body] _ c = .ok fl c' := h1
  rw [evK_one] at h1
  rw [callN_eq h hj]
  rcases h2 with h2 | ⟨h2, δ', h3⟩
  · subst h2
    exact x_run hl h1
  · subst h3
    rw [h2]
    exact x_run0 hl h1
theorem k_nilN {Γl : σ → Env} {s : σ} (h : Le (Γl s) Γ) : J Γ (fun δ => evK C [] δ) (sp s) (RN Γl) := fun δ c a c' A T => by
  cases T
  exact ⟨_, rfl, δ, rfl, h.agr A⟩
theorem k_nilL {Γl : σ → Env} {er : ρ → D} {s : σ} (h : Le (Γl s) Γ) : J Γ (fun δ => evK C [] δ) (sp (Lp.next s)) (RL Γl er) := fun δ c a c' A T => by
  cases T
  exact ⟨_, rfl, δ, rfl, h.agr A⟩
theorem k_brkL {Γl : σ → Env} {er : ρ → D} {s : σ} (h : Le (Γl s) Γ) : J Γ (fun δ => evK C (.brk :: r) δ) (sp (Lp.brk s)) (RL Γl er) := fun δ c a c' A T => by
  cases T
  exact ⟨_, rfl, δ, rfl, h.agr A⟩
theorem k_nilF : J Γ (fun δ => evK C [] δ) (sp ()) (RF eN) := fun δ c a c' A T => by
  cases T
  exact ⟨_, rfl, .inr ⟨rfl, δ, rfl⟩⟩
theorem k_raise {m : Nat} : J Γ (fun δ => evK C (.raise m :: r) δ) sno R := fun δ c a c' A T => by cases T
theorem k_seq (q : J Γ (fun δ => evK C (a :: b :: r) δ) t R) : J Γ (fun δ => evK C (.seq a b :: r) δ) t R := J.cong (fun δ => by
  show bnd (bnd (evS C a δ) fun fl => match fl with
    | .next δ' => evS C b δ'
    | .brk δ' => ret (.brk δ')
    | .ret d => ret (.ret d)) _ = _
  rw [bnd_bnd]
  refine bnd_congr fun fl => ?_
  cases fl <;> rfl) q
theorem k_skip (q : J Γ (fun δ => evK C r δ) t R) : J Γ (fun δ => evK C (.skip :: r) δ) t R := q
theorem k_frz (q : J Γ (fun δ => evK C r δ) t R) : J Γ (fun δ => evK C (.frz i :: r) δ) t R := q
theorem k_ret (q : J Γ (fun δ => bnd (evE C e δ) fun d => ret (.ret d)) t R) : J Γ (fun δ => evK C (.ret e :: r) δ) t R := J.cong (fun δ => bnd_bnd _ _ _) q
theorem k_retN (q : J Γ (fun δ => ret (.ret .non)) t R) : J Γ (fun δ => evK C (.retN :: r) δ) t R := q
theorem k_exp (q : J Γ (fun δ => bnd (evE C e δ) fun _ => evK C r δ) t R) : J Γ (fun δ => evK C (.exp e :: r) δ) t R := J.cong (fun δ => bnd_bnd _ _ _) q
theorem k_asg (q : J Γ (fun δ => bnd (evE C e δ) fun d => evK C r (δ.set i (some d))) t R) : J Γ (fun δ => evK C (.asg i e :: r) δ) t R := J.cong (fun δ => bnd_bnd _ _ _) q
theorem k_set (q : J (Γ.set i (some d)) (fun δ => evK C r δ) t R) : J Γ (fun δ => evK C r (δ.set i (some d))) t R := fun δ c a c' A T => q _ c a c' (A.set i d) T
theorem k_setL {en : α → D} {v : α} {tk : α → S β} (q : ∀ x, J (Γ.set i (some (en x))) (fun δ => evK C r δ) (tk x) R) : J Γ (fun δ => evK C r (δ.set i (some (en v)))) (slet v tk) R := fun δ c a c' A T => q v _ c a c' (A.set i _) T
def asgOM (C : Nat → List D → M D) (i : Nat) (r : List St) (δ : Env) : D → M Flow
  | .lst ds => evK C r (δ.set i (some (.lst ds)))
  | .dct ds => evK C r (δ.set i (some (.dct ds)))
  | _ => no
theorem k_asgO (q : J Γ (fun δ => bnd (evE C e δ) fun d => asgOM C i r δ d) t R) : J Γ (fun δ => evK C (.asgO i e :: r) δ) t R := J.cong (fun δ => (bnd_bnd _ _ _).trans (bnd_congr fun x => by cases x <;> rfl)) q
theorem k_setO {en : α → D} {xs : List α} (q : J (Γ.set i (some (eL en xs))) (fun δ => evK C r δ) t R) : J Γ (fun δ => asgOM C i r δ (eL en xs)) t R := fun δ c a c' A T => q _ c a c' (A.set i _) T
theorem k_setOL {en : α → D} {xs : List α} {tk : List α → S β} (q : ∀ xs, J (Γ.set i (some (eL en xs))) (fun δ => evK C r δ) (tk xs) R) : J Γ (fun δ => asgOM C i r δ (eL en xs)) (slet xs tk) R := fun δ c a c' A T => q xs _ c a c' (A.set i _) T
def parK (C : Nat → List D → M D) (is : List Nat) (os : List Bool) (r : List St) (δ : Env) (ds : List D) : M Flow := if okL os ds then optM (setAll is ds δ) fun δ' => evK C r δ' else no
theorem k_par {is : List Nat} {os : List Bool} (q : J Γ (fun δ => bnd (evE C l δ) (unG fun ds => parK C is os r δ ds)) t R) : J Γ (fun δ => evK C (.par is os l :: r) δ) t R := J.cong (fun δ => (bnd_bnd _ _ _).trans (bnd_congr fun x => by
  cases x with
  | tup ds =>
    show bnd (if okL os ds then optM (setAll is ds δ) fun δ' => ret (Flow.next δ') else no) _ = parK C is os r δ ds
    unfold parK
    split
    · cases setAll is ds δ <;> rfl
    · rfl
  | _ => rfl)) q
theorem k_par2 {os : List Bool} {e1 : α → D} {e2 : α' → D} {v1 : α} {v2 : α'} {tk : α → α' → S β} (ho : okL os [e1 v1, e2 v2] = true) (q : ∀ x y, J ((Γ.set i (some (e1 x))).set j (some (e2 y))) (fun δ => evK C r δ) (tk x y) R) :
    J Γ (fun δ => parK C [i, j] os r δ [e1 v1, e2 v2]) (slet v1 fun x => slet v2 fun y => tk x y) R := fun δ c a c' A T => by
  obtain ⟨z, h1, h2⟩ := q v1 v2 _ c a c' ((A.set i _).set j _) T
  refine ⟨z, ?_, h2⟩
  dsimp only
  unfold parK
  rw [if_pos ho]
  exact h1
theorem k_par3 {α'' : Type} {os : List Bool} {e1 : α → D} {e2 : α' → D} {e3 : α'' → D} {v1 : α} {v2 : α'} {v3 : α''} {tk : α → α' → α'' → S β} (ho : okL os [e1 v1, e2 v2, e3 v3] = true) (q : ∀ x y z, J (((Γ.set i (some (e1 x))).set j (some (e2 y))).set n (some (e3 z))) (fun δ => evK C r δ) (tk x y z) R) :
    J Γ (fun δ => parK C [i, j, n] os r δ [e1 v1, e2 v2, e3 v3]) (slet v1 fun x => slet v2 fun y => slet v3 fun z => tk x y z) R := fun δ c a c' A T => by
  obtain ⟨z, h1, h2⟩ := q v1 v2 v3 _ c a c' (((A.set i _).set j _).set n _) T
  refine ⟨z, ?_, h2⟩
  dsimp only
  unfold parK
  rw [if_pos ho]
  exact h1
def tgK (C : Nat → List D → M D) (tg : Tg) (r : List St) (δ : Env) (d : D) : M Flow := optM (setT tg d δ) fun δ' => evK C r δ'
theorem k_asgT {tg : Tg} (q : J Γ (fun δ => bnd (evE C e δ) fun d => tgK C tg r δ d) t R) : J Γ (fun δ => evK C (.asgT tg e :: r) δ) t R := J.cong (fun δ => (bnd_bnd _ _ _).trans (bnd_congr fun x => by
  show bnd (optM (setT tg x δ) fun δ' => ret (Flow.next δ')) _ = tgK C tg r δ x
  unfold tgK
  cases setT tg x δ <;> rfl)) q
theorem k_tg {tg : Tg} {en : α → D} {Γx : α → Env} {v : α} {tk : α → S β} (ht : TG tg en Γ Γx) (q : ∀ x, J (Γx x) (fun δ => evK C r δ) (tk x) R) : J Γ (fun δ => tgK C tg r δ (en v)) (slet v tk) R := fun δ c a c' A T => by
  obtain ⟨δ', h1, h2⟩ := ht δ v A
  obtain ⟨z, h3, h4⟩ := q v δ' c a c' h2 T
  exact ⟨z, by dsimp only; unfold tgK; rw [h1]; exact h3, h4⟩
def appK (C : Nat → List D → M D) (i : Nat) (r : List St) (δ : Env) (d : D) : M Flow := optM (lstAt δ i) fun ds => if szOk ds.length then evK C r (δ.set i (some (.lst (ds ++ [d])))) else no
theorem lstAt_tr {δ : Env} {en : α → D} {xs : List α} (A : Agr Γ δ) (h : Γ[i]? = some (some (eL en xs))) : lstAt δ i = some (xs.map en) := by
  unfold lstAt
  rw [A.2 _ _ h]
  rfl
theorem k_app (q : J Γ (fun δ => bnd (evE C e δ) fun d => appK C i r δ d) t R) : J Γ (fun δ => evK C (.app i e :: r) δ) t R := J.cong (fun δ => (bnd_bnd _ _ _).trans (bnd_congr fun x => by
  show bnd (optM (lstAt δ i) fun ds => if szOk ds.length then ret (Flow.next (δ.set i (some (.lst (ds ++ [x]))))) else no) _ = appK C i r δ x
  unfold appK
  cases lstAt δ i with
  | none => rfl
  | some ds =>
    show bnd (if szOk ds.length then ret (Flow.next (δ.set i (some (.lst (ds ++ [x]))))) else no) _ = if szOk ds.length then evK C r (δ.set i (some (.lst (ds ++ [x])))) else no
    split <;> rfl)) q
theorem k_appV {en : α → D} {xs : List α} {v : α} {tk : List α → S β} (h : Γ[i]? = some (some (eL en xs))) (q : ∀ y, J (Γ.set i (some (eL en y))) (fun δ => evK C r δ) (tk y) R) : J Γ (fun δ => appK C i r δ (en v)) (so (gd (szOk xs.length)) fun _ => slet (xs ++ [v]) tk) R := fun δ c a c' A T => by
  obtain ⟨u, h1, h2⟩ := so_some T
  obtain ⟨z, h3, h4⟩ := q (xs ++ [v]) (δ.set i (some (eL en (xs ++ [v])))) c a c' (A.set i _) h2
  refine ⟨z, ?_, h4⟩
  dsimp only
  unfold appK
  rw [lstAt_tr A h]
  show (if szOk (xs.map en).length then evK C r (δ.set i (some (.lst (xs.map en ++ [en v])))) else no) c = _
  rw [List.length_map, if_pos (gd_some h1)]
  unfold eL at h3
  rw [List.map_append] at h3
  exact h3
def setK (C : Nat → List D → M D) (i : Nat) (r : List St) (δ : Env) (kd d : D) : M Flow := optM (lstAt δ i) fun ds => optM (setD ds kd d) fun ds' => evK C r (δ.set i (some (.lst ds')))
theorem k_setI (q : J Γ (fun δ => bnd (evE C e δ) fun d => bnd (evE C k δ) fun kd => setK C i r δ kd d) t R) : J Γ (fun δ => evK C (.setI i k e :: r) δ) t R := J.cong (fun δ => (bnd_bnd _ _ _).trans (bnd_congr fun x => (bnd_bnd _ _ _).trans (bnd_congr fun kd => by
  show bnd (optM (lstAt δ i) fun ds => optM (setD ds kd x) fun ds' => ret (Flow.next (δ.set i (some (.lst ds'))))) _ = setK C i r δ kd x
  unfold setK
  cases lstAt δ i with
  | none => rfl
  | some ds =>
    show bnd (optM (setD ds kd x) fun ds' => ret (Flow.next (δ.set i (some (.lst ds'))))) _ = optM (setD ds kd x) _
    cases setD ds kd x <;> rfl))) q
theorem k_setV {en : α → D} {xs : List α} {v : α} {kd : Int} {tk : List α → S β} (h : Γ[i]? = some (some (eL en xs))) (q : ∀ y, J (Γ.set i (some (eL en y))) (fun δ => evK C r δ) (tk y) R) : J Γ (fun δ => setK C i r δ (.int kd) (en v)) (so (stI xs kd v) tk) R := fun δ c a c' A T => by
  obtain ⟨u, h1, h2⟩ := so_some T
  obtain ⟨z, h3, h4⟩ := q u (δ.set i (some (eL en u))) c a c' (A.set i _) h2
  refine ⟨z, ?_, h4⟩
  dsimp only
  unfold setK
  rw [lstAt_tr A h]
  show optM (setD (xs.map en) (.int kd) (en v)) _ c = _
  rw [setD_eL h1]
  exact h3
def manK (C : Nat → List D → M D) (is : List Nat) (r : List St) (δ : Env) (ds : List D) : M Flow := optM (setAll is ds δ) fun δ' => evK C r δ'
theorem k_asgTm {is : List Nat} (q : J Γ (fun δ => bnd (evE C l δ) (unG fun ds => manK C is r δ ds)) t R) : J Γ (fun δ => evK C (.asgT (.many is) (.tup l) :: r) δ) t R :=
  k_asgT (J.cong (fun δ => (bnd_bnd _ _ _).trans (bnd_congr fun x => by
    cases x <;> rfl)) q)
theorem k_man0 (q : J Γ (fun δ => evK C r δ) t R) : J Γ (fun δ => manK C [] r δ []) t R := q
theorem k_man1 {is : List Nat} {en : α → D} {v : α} {ds : List D} {tk : α → S β} (q : ∀ x, J (Γ.set i (some (en x))) (fun δ => manK C is r δ ds) (tk x) R) : J Γ (fun δ => manK C (i :: is) r δ (en v :: ds)) (slet v tk) R := fun δ c a c' A T => q v _ c a c' (A.set i _) T
def swp1 (C : Nat → List D → M D) (i : Nat) (k' : Ex) (r : List St) (δ : Env) (d1 d2 kd : D) : M Flow := optM (lstAt δ i) fun ds => optM (setD ds kd d1) fun es => bnd (evE C k' (δ.set i (some (.lst es)))) fun kd' => setK C i r (δ.set i (some (.lst es))) kd' d2
def swpK (C : Nat → List D → M D) (i : Nat) (k k' : Ex) (r : List St) (δ : Env) : List D → M Flow
  | [d1, d2] => bnd (evE C k δ) fun kd => swp1 C i k' r δ d1 d2 kd
  | _ => no
theorem lstAt_set {δ : Env} {ds es : List D} (h : lstAt δ i = some ds) : lstAt (δ.set i (some (.lst es))) i = some es := by
  have hl : i < δ.length := by
    unfold lstAt at h
    cases q : δ[i]? with
    | none => rw [q] at h; cases h
    | some d => exact (List.getElem?_eq_some_iff.mp q).1
  unfold lstAt
  rw [List.getElem?_set_self hl]
  rfl
theorem swp_bnd {k' : Ex} {δ : Env} {d1 d2 : D} (g : Flow → M Flow) (hg : ∀ δ', g (.next δ') = evK C r δ') : bnd (bnd (evE C k δ) fun kd => optM (lstAt δ i) fun ds => optM (setD ds kd d1) fun es => bnd (evE C k' (δ.set i (some (.lst es)))) fun kd' => optM (setD es kd' d2) fun fs => ret (Flow.next ((δ.set i (some (.lst es))).set i (some (.lst fs))))) g
    = bnd (evE C k δ) fun kd => swp1 C i k' r δ d1 d2 kd := by
  refine (bnd_bnd _ _ _).trans (bnd_congr fun kd => ?_)
  unfold swp1
  cases hl : lstAt δ i with
  | none => rfl
  | some ds =>
    show bnd (optM (setD ds kd d1) fun es => bnd (evE C k' (δ.set i (some (.lst es)))) fun kd' => optM (setD es kd' d2) fun fs => ret (Flow.next ((δ.set i (some (.lst es))).set i (some (.lst fs))))) g = optM (setD ds kd d1) _
    cases setD ds kd d1 with
    | none => rfl
    | some es =>
      show bnd (bnd (evE C k' (δ.set i (some (.lst es)))) fun kd' => optM (setD es kd' d2) fun fs => ret (Flow.next ((δ.set i (some (.lst es))).set i (some (.lst fs))))) g = bnd (evE C k' (δ.set i (some (.lst es)))) fun kd' => setK C i r (δ.set i (some (.lst es))) kd' d2
      refine (bnd_bnd _ _ _).trans (bnd_congr fun kd' => ?_)
      unfold setK
      rw [lstAt_set hl]
      show bnd (optM (setD es kd' d2) _) g = optM (setD es kd' d2) _
      cases setD es kd' d2 with
      | none => rfl
      | some fs => exact hg _
theorem k_swp {k' : Ex} (q : J Γ (fun δ => bnd (evE C l δ) (unG fun ds => swpK C i k k' r δ ds)) t R) : J Γ (fun δ => evK C (.swp i k k' l :: r) δ) t R := J.cong (fun δ => by
  refine (congrArg (fun m => bnd m _) (bnd_bnd _ _ _)).trans ((bnd_bnd _ _ _).trans (bnd_congr fun x => ?_))
  cases x with
  | tup ds =>
    match ds with
    | [d1, d2] => exact swp_bnd _ fun _ => rfl
    | [] => rfl
    | [_] => rfl
    | _ :: _ :: _ :: _ => rfl
  | _ => rfl) q
theorem k_swpK {k' : Ex} {d1 d2 : D} (q : J Γ (fun δ => bnd (evE C k δ) fun kd => swp1 C i k' r δ d1 d2 kd) t R) : J Γ (fun δ => swpK C i k k' r δ [d1, d2]) t R := q
theorem k_swpV {k' : Ex} {d2 : D} {en : α → D} {xs : List α} {v : α} {kd : Int} {tk : List α → S β} (h : Γ[i]? = some (some (eL en xs))) (q : ∀ y, J (Γ.set i (some (eL en y))) (fun δ => bnd (evE C k' δ) fun kd' => setK C i r δ kd' d2) (tk y) R) : J Γ (fun δ => swp1 C i k' r δ (en v) d2 (.int kd)) (so (stI xs kd v) tk) R := fun δ c a c' A T => by
  obtain ⟨u, h1, h2⟩ := so_some T
  obtain ⟨z, h3, h4⟩ := q u (δ.set i (some (eL en u))) c a c' (A.set i _) h2
  refine ⟨z, ?_, h4⟩
  dsimp only
  unfold swp1
  rw [lstAt_tr A h]
  show optM (setD (xs.map en) (.int kd) (en v)) _ c = _
  rw [setD_eL h1]
  exact h3
theorem k_pop {tg : Tg} {en : α → D} {xs : List α} {Γx : List α → α → Env} {tk : List α × α → S β} (h : Γ[i]? = some (some (eL en xs))) (ht : ∀ l, TG tg en (Γ.set i (some (eL en l))) (Γx l)) (q : ∀ p, J (Γx p.1 p.2) (fun δ => evK C r δ) (tk p) R) : J Γ (fun δ => evK C (.pop tg i :: r) δ) (so (popO xs) tk) R := fun δ c a c' A T => by
  obtain ⟨p, h1, h2⟩ := so_some T
  obtain ⟨δ', s1, s2⟩ := ht p.1 _ p.2 (A.set i (eL en p.1))
  obtain ⟨z, h3, h4⟩ := q p δ' c a c' s2 h2
  refine ⟨z, ?_, h4⟩
  refine (bnd_app (a := Flow.next δ') (c1 := c) ?_).trans h3
  show (optM (lstAt δ i) fun ds => optM ds.getLast? fun d => optM (setT tg d (δ.set i (some (.lst ds.dropLast)))) fun δ' => ret (Flow.next δ')) c = _
  rw [lstAt_tr A h]
  show (optM (xs.map en).getLast? fun d => optM (setT tg d (δ.set i (some (.lst (xs.map en).dropLast)))) fun δ' => ret (Flow.next δ')) c = _
  unfold popO at h1
  rw [List.getLast?_map]
  split at h1
  · rename_i y hy
    cases h1
    rw [hy]
    show (optM (setT tg (en y) (δ.set i (some (.lst (xs.map en).dropLast)))) fun δ' => ret (Flow.next δ')) c = _
    rw [show (xs.map en).dropLast = xs.dropLast.map en from (List.map_dropLast).symm]
    have s1 : setT tg (en y) (δ.set i (some (.lst (xs.dropLast.map en)))) = some δ' := s1
    rw [s1]
    rfl
  · cases h1
def popKK (C : Nat → List D → M D) (tg : Tg) (i : Nat) (r : List St) (δ : Env) (kd : D) : M Flow := optM (lstAt δ i) fun ds => optM (popAt ds kd) fun p => optM (setT tg p.1 (δ.set i (some (.lst p.2)))) fun δ' => evK C r δ'
theorem k_popKE {tg : Tg} (q : J Γ (fun δ => bnd (evE C k δ) fun kd => popKK C tg i r δ kd) t R) : J Γ (fun δ => evK C (.popK tg i k :: r) δ) t R := J.cong (fun δ => (bnd_bnd _ _ _).trans (bnd_congr fun kd => by
  show bnd (optM (lstAt δ i) fun ds => optM (popAt ds kd) fun p => optM (setT tg p.1 (δ.set i (some (.lst p.2)))) fun δ' => ret (Flow.next δ')) _ = popKK C tg i r δ kd
  unfold popKK
  cases lstAt δ i with
  | none => rfl
  | some ds =>
    show bnd (optM (popAt ds kd) fun p => optM (setT tg p.1 (δ.set i (some (.lst p.2)))) fun δ' => ret (Flow.next δ')) _ = optM (popAt ds kd) _
    cases popAt ds kd with
    | none => rfl
    | some p =>
      show bnd (optM (setT tg p.1 (δ.set i (some (.lst p.2)))) fun δ' => ret (Flow.next δ')) _ = optM (setT tg p.1 (δ.set i (some (.lst p.2)))) _
      cases setT tg p.1 (δ.set i (some (.lst p.2))) <;> rfl)) q
theorem k_popKV {tg : Tg} {en : α → D} {xs : List α} {Γx : List α → α → Env} {kd : Int} {tk : List α × α → S β} (h : Γ[i]? = some (some (eL en xs))) (ht : ∀ l, TG tg en (Γ.set i (some (eL en l))) (Γx l)) (q : ∀ p, J (Γx p.1 p.2) (fun δ => evK C r δ) (tk p) R) : J Γ (fun δ => popKK C tg i r δ (.int kd)) (so (popI xs kd) tk) R := fun δ c a c' A T => by
  obtain ⟨p, h1, h2⟩ := so_some T
  obtain ⟨δ', s1, s2⟩ := ht p.1 _ p.2 (A.set i (eL en p.1))
  obtain ⟨z, h3, h4⟩ := q p δ' c a c' s2 h2
  refine ⟨z, ?_, h4⟩
  dsimp only
  unfold popKK
  rw [lstAt_tr A h]
  show optM (popAt (xs.map en) (.int kd)) _ c = _
  rw [popAt_eL h1]
  show optM (setT tg (en p.2) (δ.set i (some (eL en p.1)))) _ c = _
  rw [s1]
  exact h3
def popAK (C : Nat → List D → M D) (j i : Nat) (r : List St) (δ : Env) (kd : D) : M Flow := optM (lstAt δ i) fun ds => optM (popAt ds kd) fun p => optM (lstAt δ j) fun es =>
  if szOk es.length then evK C r ((δ.set i (some (.lst p.2))).set j (some (.lst (es ++ [p.1])))) else no
theorem k_popAE (q : J Γ (fun δ => bnd (evE C k δ) fun kd => popAK C j i r δ kd) t R) : J Γ (fun δ => evK C (.popA j i k :: r) δ) t R := J.cong (fun δ => (bnd_bnd _ _ _).trans (bnd_congr fun kd => by
  show bnd (optM (lstAt δ i) fun ds => optM (popAt ds kd) fun p => optM (lstAt δ j) fun es => if szOk es.length then ret (Flow.next ((δ.set i (some (.lst p.2))).set j (some (.lst (es ++ [p.1]))))) else no) _ = popAK C j i r δ kd
  unfold popAK
  cases lstAt δ i with
  | none => rfl
  | some ds =>
    show bnd (optM (popAt ds kd) fun p => optM (lstAt δ j) fun es => if szOk es.length then ret (Flow.next ((δ.set i (some (.lst p.2))).set j (some (.lst (es ++ [p.1]))))) else no) _ = optM (popAt ds kd) _
    cases popAt ds kd with
    | none => rfl
    | some p =>
      show bnd (optM (lstAt δ j) fun es => if szOk es.length then ret (Flow.next ((δ.set i (some (.lst p.2))).set j (some (.lst (es ++ [p.1]))))) else no) _ = optM (lstAt δ j) _
      cases lstAt δ j with
      | none => rfl
      | some es =>
        show bnd (if szOk es.length then ret (Flow.next ((δ.set i (some (.lst p.2))).set j (some (.lst (es ++ [p.1]))))) else no) _ = if szOk es.length then _ else no
        split <;> rfl)) q
theorem k_popAV {en : α → D} {xs ys : List α} {kd : Int} {tk : List α → List α → S β} (h : Γ[i]? = some (some (eL en xs))) (h' : Γ[j]? = some (some (eL en ys))) (q : ∀ u v, J ((Γ.set i (some (eL en u))).set j (some (eL en v))) (fun δ => evK C r δ) (tk u v) R) :
    J Γ (fun δ => popAK C j i r δ (.int kd)) (so (popI xs kd) fun p => so (gd (szOk ys.length)) fun _ => slet p.1 fun u => slet (ys ++ [p.2]) fun v => tk u v) R := fun δ c a c' A T => by
  obtain ⟨p, h1, h2⟩ := so_some T
  obtain ⟨_, h5, h6⟩ := so_some h2
  obtain ⟨z, h3, h4⟩ := q p.1 (ys ++ [p.2]) _ c a c' ((A.set i _).set j _) h6
  refine ⟨z, ?_, h4⟩
  dsimp only
  unfold popAK
  rw [lstAt_tr A h, lstAt_tr A h']
  show optM (popAt (xs.map en) (.int kd)) _ c = _
  rw [popAt_eL h1]
  show (if szOk (ys.map en).length then evK C r ((δ.set i (some (.lst (p.1.map en)))).set j (some (.lst (ys.map en ++ [en p.2])))) else no) c = _
  rw [List.length_map, if_pos (gd_some h5)]
  unfold eL at h3
  rw [List.map_append] at h3
  exact h3
def iteK (C : Nat → List D → M D) (a b : St) (r : List St) (δ : Env) (x : D) : M Flow := truth x (evK C (a :: r) δ) (evK C (b :: r) δ)
theorem k_ite (q : J Γ (fun δ => bnd (evE C e δ) fun x => iteK C a b r δ x) t R) : J Γ (fun δ => evK C (.ite e a b :: r) δ) t R := J.cong (fun δ => (bnd_bnd _ _ _).trans (bnd_congr fun x => by
  cases x with
  | bl k => cases k <;> rfl
  | _ => rfl)) q
theorem k_iteV {k : Bool} {t1 t2 : S β} (q1 : J Γ (fun δ => evK C (a :: r) δ) t1 R) (q2 : J Γ (fun δ => evK C (b :: r) δ) t2 R) : J Γ (fun δ => iteK C a b r δ (.bl k)) (if k = true then t1 else t2) R := by
  cases k
  · exact q2
  · exact q1
theorem k_iteJ {k : Bool} {Γl : σ → Env} {t1 t2 : S σ} {tk : σ → S β} (q1 : J Γ (fun δ => evK C [a] δ) t1 (RN Γl)) (q2 : J Γ (fun δ => evK C [b] δ) t2 (RN Γl)) (q : ∀ s, J (Γl s) (fun δ => evK C r δ) (tk s) R) : J Γ (fun δ => iteK C a b r δ (.bl k)) (sb (if k = true then t1 else t2) tk) R := fun δ c z c' A T => by
  obtain ⟨s, c1, h1, h2⟩ := sb_some T
  have key : ∀ x : St, (∃ fl, evK C [x] δ c = .ok fl c1 ∧ RN Γl s fl) → ∃ r', evK C (x :: r) δ c = .ok r' c' ∧ R z r' := fun x hx => by
    obtain ⟨fl, e1, δ', e2, e3⟩ := hx
    subst e2
    rw [evK_one] at e1
    obtain ⟨y, e4, e5⟩ := q s δ' c1 z c' e3 h2
    exact ⟨y, (bnd_app e1).trans e4, e5⟩
  cases k
  · exact key b (q2 δ c s c1 A h1)
  · exact key a (q1 δ c s c1 A h1)
def forK (C : Nat → List D → M D) (tg : Tg) (b : St) (r : List St) (δ : Env) (x : D) : M Flow := match x with
  | .lst ds => bnd (forM (fun d δ => optM (setT tg d δ) fun δ' => evS C b δ') ds δ) (behind C r)
  | _ => no
theorem k_for {inv : List Nat} {tg : Tg} (q : J Γ (fun δ => bnd (evE C it δ) fun x => forK C tg b r δ x) t R) : J Γ (fun δ => evK C (.for_ inv tg it b :: r) δ) t R := J.cong (fun δ => (bnd_bnd _ _ _).trans (bnd_congr fun x => by
  cases x with
  | lst ds => exact bnd_congr fun fl => by cases fl <;> rfl
  | _ => rfl)) q
theorem forM_fold {tg : Tg} {en : α → D} {Γl : σ → Env} {Γx : σ → α → Env} {f : σ → α → S σ} (ht : ∀ s, TG tg en (Γl s) (Γx s)) (hb : ∀ s x, J (Γx s x) (fun δ => evK C [b] δ) (f s x) (RN Γl)) :
    ∀ (xs : List α) (s : σ) (δ : Env) (c : Cup) (s' : σ) (c' : Cup), Agr (Γl s) δ → sfold f xs s c = some (s', c') → ∃ δ', forM (fun d δ => optM (setT tg d δ) fun δ' => evS C b δ') (xs.map en) δ c = .ok (.next δ') c' ∧ Agr (Γl s') δ'
  | [], s, δ, c, s', c', A, h => by
    cases h
    exact ⟨δ, rfl, A⟩
  | x :: r, s, δ, c, s', c', A, h => by
    obtain ⟨s1, c1, h1, h2⟩ := sb_some h
    obtain ⟨δ1, e1, e2⟩ := ht s δ x A
    obtain ⟨fl, e3, δ2, e4, e5⟩ := hb s x δ1 c s1 c1 e2 h1
    subst e4
    have e3 := (congrFun (evK_one b _) _).symm.trans e3
    obtain ⟨δ', e6, e7⟩ := forM_fold ht hb r s1 δ2 c1 s' c' e5 h2
    exact ⟨δ', x_forS δ1 e1 e3 e6, e7⟩
theorem k_forV {tg : Tg} {en : α → D} {xs : List α} {s0 : σ} {Γl : σ → Env} {Γx : σ → α → Env} {f : σ → α → S σ} {tk : σ → S β} (hl : Le (Γl s0) Γ) (ht : ∀ s, TG tg en (Γl s) (Γx s)) (hb : ∀ s x, J (Γx s x) (fun δ => evK C [b] δ) (f s x) (RN Γl)) (q : ∀ s, J (Γl s) (fun δ => evK C r δ) (tk s) R) :
    J Γ (fun δ => forK C tg b r δ (eL en xs)) (sb (sfold f xs s0) tk) R := fun δ c z c' A T => by
  obtain ⟨s, c1, h1, h2⟩ := sb_some T
  obtain ⟨δ', e1, e2⟩ := forM_fold ht hb xs s0 δ c s c1 (hl.agr A) h1
  obtain ⟨y, e3, e4⟩ := q s δ' c1 z c' e2 h2
  exact ⟨y, (bnd_app e1).trans e3, e4⟩
theorem x_forB {tg : Tg} {x : D} {ds : List D} {δ δ1 δ' : Env} {c c1 : Cup} (hs : setT tg x δ = some δ1) (h1 : evS C b δ1 c = .ok (.brk δ') c1) :
    forM (fun d δ => optM (setT tg d δ) fun δ' => evS C b δ') (x :: ds) δ c = .ok (.next δ') c1 := by
  rw [forM_cons]
  refine (bnd_app (a := Flow.brk δ') (c1 := c1) ?_).trans rfl
  show optM (setT tg x δ) _ c = _
  rw [hs]
  exact h1
theorem forM_foldR {tg : Tg} {en : α → D} {er : ρ → D} {Γl : σ → Env} {Γx : σ → α → Env} {f : σ → α → S (Lp σ ρ)} (ht : ∀ s, TG tg en (Γl s) (Γx s)) (hb : ∀ s x, J (Γx s x) (fun δ => evK C [b] δ) (f s x) (RL Γl er)) :
    ∀ (xs : List α) (s : σ) (δ : Env) (c : Cup) (o : Lp σ ρ) (c' : Cup), Agr (Γl s) δ → sfoldR f xs s c = some (o, c') → ∃ fl, forM (fun d δ => optM (setT tg d δ) fun δ' => evS C b δ') (xs.map en) δ c = .ok fl c' ∧ (match o with | .next s => ∃ δ', fl = .next δ' ∧ Agr (Γl s) δ' | .brk s => False | .ret v => fl = .ret (er v))
  | [], s, δ, c, o, c', A, h => by
    cases h
    exact ⟨_, rfl, δ, rfl, A⟩
  | x :: r, s, δ, c, o, c', A, h => by
    obtain ⟨o1, c1, h1, h2⟩ := sb_some h
    obtain ⟨δ1, e1, e2⟩ := ht s δ x A
    obtain ⟨fl, e3, e4⟩ := hb s x δ1 c o1 c1 e2 h1
    have e3 : evK C [b] δ1 c = .ok fl c1 := e3
    have e3 := (congrFun (evK_one b _) _).symm.trans e3
    cases o1 with
    | next s1 =>
      obtain ⟨δ2, e5, e6⟩ := e4
      subst e5
      obtain ⟨fl, e7, e8⟩ := forM_foldR ht hb r s1 δ2 c1 o c' e6 h2
      exact ⟨fl, x_forS δ1 e1 e3 e7, e8⟩
    | brk s1 =>
      obtain ⟨δ2, e5, e6⟩ := e4
      subst e5
      have h2 : sp (Lp.next s1) c1 = some (o, c') := h2
      cases h2
      exact ⟨_, x_forB e1 e3, δ2, rfl, e6⟩
    | ret v =>
      have e4 : fl = .ret (er v) := e4
      subst e4
      have h2 : sp (Lp.ret v) c1 = some (o, c') := h2
      cases h2
      exact ⟨_, x_forR δ1 e1 e3, rfl⟩
theorem k_forR {tg : Tg} {en : α → D} {er : ρ → D} {xs : List α} {s0 : σ} {Γl : σ → Env} {Γx : σ → α → Env} {f : σ → α → S (Lp σ ρ)} {g : ρ → β} {tk : σ → S β} (hl : Le (Γl s0) Γ) (ht : ∀ s, TG tg en (Γl s) (Γx s)) (hb : ∀ s x, J (Γx s x) (fun δ => evK C [b] δ) (f s x) (RL Γl er)) (hg : ∀ v, R (g v) (.ret (er v))) (q : ∀ s, J (Γl s) (fun δ => evK C r δ) (tk s) R) :
    J Γ (fun δ => forK C tg b r δ (eL en xs)) (sb (sfoldR f xs s0) (srest g tk)) R := fun δ c z c' A T => by
  obtain ⟨o, c1, h1, h2⟩ := sb_some T
  obtain ⟨fl, e1, e2⟩ := forM_foldR ht hb xs s0 δ c o c1 (hl.agr A) h1
  cases o with
  | next s =>
    obtain ⟨δ', e5, e6⟩ := e2
    subst e5
    obtain ⟨y, e3, e4⟩ := q s δ' c1 z c' e6 h2
    exact ⟨y, (bnd_app e1).trans e3, e4⟩
  | brk s => exact e2.elim
  | ret v =>
    have e2 : fl = .ret (er v) := e2
    subst e2
    have h2 : sp (g v) c1 = some (z, c') := h2
    cases h2
    exact ⟨_, (bnd_app e1).trans rfl, hg v⟩
theorem whileM_fold {Γl : σ → Env} {tc : σ → S Bool} {f : σ → S σ} (hc : ∀ s, RE C e (Γl s) (tc s) D.bl) (hb : ∀ s, J (Γl s) (fun δ => evK C [b] δ) (f s) (RN Γl)) :
    ∀ (n : Nat) (s : σ) (δ : Env) (c : Cup) (s' : σ) (c' : Cup), Agr (Γl s) δ → swhile tc f n s c = some (s', c') → ∃ δ', whileM (fun δ => evE C e δ) (fun δ => evS C b δ) n δ c = .ok (.next δ') c' ∧ Agr (Γl s') δ'
  | 0, s, δ, c, s', c', A, h => by cases h
  | n + 1, s, δ, c, s', c', A, h => by
    obtain ⟨k, c1, h1, h2⟩ := sb_some h
    obtain ⟨x, e1, e2⟩ := hc s δ c k c1 A h1
    have e2 : x = .bl k := e2
    subst e2
    cases k with
    | false =>
      have h2 : sp s c1 = some (s', c') := h2
      cases h2
      exact ⟨δ, (bnd_app e1).trans rfl, A⟩
    | true =>
      obtain ⟨s1, c2, h3, h4⟩ := sb_some (show sb (f s) (fun s' => swhile tc f n s') c1 = some (s', c') from h2)
      obtain ⟨fl, e3, δ2, e4, e5⟩ := hb s δ c1 s1 c2 A h3
      subst e4
      have e3 := (congrFun (evK_one b _) _).symm.trans e3
      obtain ⟨δ', e6, e7⟩ := whileM_fold hc hb n s1 δ2 c2 s' c' e5 h4
      refine ⟨δ', (bnd_app e1).trans ?_, e7⟩
      exact (bnd_app e3).trans e6
theorem k_while {inv : List Nat} {s0 : σ} {Γl : σ → Env} {tc : σ → S Bool} {f : σ → S σ} {tk : σ → S β} (hl : Le (Γl s0) Γ) (hc : ∀ s, RE C e (Γl s) (tc s) D.bl) (hb : ∀ s, J (Γl s) (fun δ => evK C [b] δ) (f s) (RN Γl)) (q : ∀ s, J (Γl s) (fun δ => evK C r δ) (tk s) R) :
    J Γ (fun δ => evK C (.while_ inv e b :: r) δ) (sb (swhile tc f wfuel s0) tk) R := fun δ c z c' A T => by
  obtain ⟨s, c1, h1, h2⟩ := sb_some T
  obtain ⟨δ', e1, e2⟩ := whileM_fold hc hb wfuel s0 δ c s c1 (hl.agr A) h1
  obtain ⟨y, e3, e4⟩ := q s δ' c1 z c' e2 h2
  exact ⟨y, (bnd_app (x_while e1)).trans e3, e4⟩
theorem whileM_foldR {er : ρ → D} {Γl : σ → Env} {tc : σ → S Bool} {f : σ → S (Lp σ ρ)} (hc : ∀ s, RE C e (Γl s) (tc s) D.bl) (hb : ∀ s, J (Γl s) (fun δ => evK C [b] δ) (f s) (RL Γl er)) :
    ∀ (n : Nat) (s : σ) (δ : Env) (c : Cup) (o : Lp σ ρ) (c' : Cup), Agr (Γl s) δ → swhileR tc f n s c = some (o, c') → ∃ fl, whileM (fun δ => evE C e δ) (fun δ => evS C b δ) n δ c = .ok fl c' ∧ (match o with | .next s => ∃ δ', fl = .next δ' ∧ Agr (Γl s) δ' | .brk s => False | .ret v => fl = .ret (er v))
  | 0, s, δ, c, o, c', A, h => by cases h
  | n + 1, s, δ, c, o, c', A, h => by
    obtain ⟨k, c1, h1, h2⟩ := sb_some h
    obtain ⟨x, e1, e2⟩ := hc s δ c k c1 A h1
    have e2 : x = .bl k := e2
    subst e2
    cases k with
    | false =>
      have h2 : sp (Lp.next s) c1 = some (o, c') := h2
      cases h2
      exact ⟨_, (bnd_app e1).trans rfl, δ, rfl, A⟩
    | true =>
      obtain ⟨o1, c2, h3, h4⟩ := sb_some (show sb (f s) (fun o => match o with
    | .next s' => swhileR tc f n s'
    | .brk s' => sp (.next s')
    | .ret v => sp (.ret v)) c1 = some (o, c') from h2)
      obtain ⟨fl, e3, e4⟩ := hb s δ c1 o1 c2 A h3
      have e3 : evK C [b] δ c1 = .ok fl c2 := e3
      have e3 := (congrFun (evK_one b _) _).symm.trans e3
      cases o1 with
      | next s1 =>
        obtain ⟨δ2, e5, e6⟩ := e4
        subst e5
        obtain ⟨fl, e7, e8⟩ := whileM_foldR hc hb n s1 δ2 c2 o c' e6 h4
        exact ⟨fl, (bnd_app e1).trans ((bnd_app e3).trans e7), e8⟩
      | brk s1 =>
        obtain ⟨δ2, e5, e6⟩ := e4
        subst e5
        have h4 : sp (Lp.next s1) c2 = some (o, c') := h4
        cases h4
        exact ⟨_, (bnd_app e1).trans ((bnd_app e3).trans rfl), δ2, rfl, e6⟩
      | ret v =>
        have e4 : fl = .ret (er v) := e4
        subst e4
        have h4 : sp (Lp.ret v) c2 = some (o, c') := h4
        cases h4
        exact ⟨_, (bnd_app e1).trans ((bnd_app e3).trans rfl), rfl⟩
theorem k_whileR {inv : List Nat} {er : ρ → D} {s0 : σ} {Γl : σ → Env} {tc : σ → S Bool} {f : σ → S (Lp σ ρ)} {g : ρ → β} {tk : σ → S β} (hl : Le (Γl s0) Γ) (hc : ∀ s, RE C e (Γl s) (tc s) D.bl) (hb : ∀ s, J (Γl s) (fun δ => evK C [b] δ) (f s) (RL Γl er)) (hg : ∀ v, R (g v) (.ret (er v))) (q : ∀ s, J (Γl s) (fun δ => evK C r δ) (tk s) R) :
    J Γ (fun δ => evK C (.while_ inv e b :: r) δ) (sb (swhileR tc f wfuel s0) (srest g tk)) R := fun δ c z c' A T => by
  obtain ⟨o, c1, h1, h2⟩ := sb_some T
  obtain ⟨fl, e1, e2⟩ := whileM_foldR hc hb wfuel s0 δ c o c1 (hl.agr A) h1
  cases o with
  | next s =>
    obtain ⟨δ', e5, e6⟩ := e2
    subst e5
    obtain ⟨y, e3, e4⟩ := q s δ' c1 z c' e6 h2
    exact ⟨y, (bnd_app (x_while e1)).trans e3, e4⟩
  | brk s => exact e2.elim
  | ret v =>
    have e2 : fl = .ret (er v) := e2
    subst e2
    have h2 : sp (g v) c1 = some (z, c') := h2
    cases h2
    exact ⟨_, (bnd_app (x_while e1)).trans rfl, hg v⟩
end
end PF

/-! PT2: operations on typed values -/
namespace PF
section
variable {α β : Type}
/-- an encoding by which == tells what is like -/
class Fa [BEq α] (e : α → D) : Prop where
  eq : ∀ x y, D.eqv (e x) (e y) = (x == y)
class Go (n : Nat) (e : α → D) : Prop where
  good : ∀ x, D.good n (e x) = true
/-- never None -/
class NN (e : α → D) : Prop where
  nn : ∀ x, isNone (e x) = false
class NL (e : α → D) : Prop where
  nl : ∀ x, D.noL (e x) = true
instance : Fa D.int := ⟨fun _ _ => rfl⟩
instance : Fa D.bl := ⟨fun a b => by cases a <;> cases b <;> rfl⟩
theorem eqvL_map [BEq α] {e : α → D} [h : Fa e] : ∀ xs ys : List α, D.eqvL (xs.map e) (ys.map e) = (xs == ys)
  | [], [] => rfl
  | [], _ :: _ => rfl
  | _ :: _, [] => rfl
  | x :: xs, y :: ys => by
    show (D.eqv (e x) (e y) && D.eqvL (xs.map e) (ys.map e)) = (x == y && xs == ys)
    rw [h.eq, eqvL_map xs ys]
instance [BEq α] {e : α → D} [Fa e] : Fa (eL e) := ⟨eqvL_map⟩
instance [BEq α] {e : α → D} [Fa e] : Fa (eT e) := ⟨eqvL_map⟩
instance [BEq α] [BEq β] {e : α → D} {f : β → D} [h : Fa e] [h' : Fa f] : Fa (eP e f) := ⟨fun x y => by
  show (D.eqv (e x.1) (e y.1) && (D.eqv (f x.2) (f y.2) && true)) = (x.1 == y.1 && x.2 == y.2)
  rw [h.eq, h'.eq, Bool.and_true]⟩
instance (n : Nat) : Go n D.int := ⟨fun _ => by cases n <;> rfl⟩
instance (n : Nat) : Go n D.bl := ⟨fun _ => by cases n <;> rfl⟩
instance (n : Nat) : Go n eN := ⟨fun _ => by cases n <;> rfl⟩
theorem goodL_mapG {n : Nat} {e : α → D} [h : Go n e] : ∀ xs : List α, D.goodL n (xs.map e) = true
  | [] => by cases n <;> rfl
  | x :: xs => by
    rw [List.map_cons, goodL_cons', h.good, goodL_mapG xs]
    rfl
instance {n : Nat} {e : α → D} [Go n e] : Go (n + 1) (eL e) := ⟨goodL_mapG⟩
instance {n : Nat} {e : α → D} [Go n e] : Go (n + 1) (eT e) := ⟨goodL_mapG⟩
instance {n : Nat} {e : α → D} {f : β → D} [h : Go n e] [h' : Go n f] : Go (n + 1) (eP e f) := ⟨fun x => by
  show D.goodL n [e x.1, f x.2] = true
  rw [goodL_cons', goodL_cons', h.good, h'.good]
  simp⟩
instance : NN D.int := ⟨fun _ => rfl⟩
instance : NN D.bl := ⟨fun _ => rfl⟩
instance {e : α → D} : NN (eL e) := ⟨fun _ => rfl⟩
instance {e : α → D} : NN (eT e) := ⟨fun _ => rfl⟩
instance {e : α → D} {f : β → D} : NN (eP e f) := ⟨fun _ => rfl⟩
instance : NL D.int := ⟨fun _ => rfl⟩
instance : NL D.bl := ⟨fun _ => rfl⟩
instance : NL eN := ⟨fun _ => rfl⟩
theorem noLL_map {e : α → D} [h : NL e] : ∀ xs : List α, D.noLL (xs.map e) = true
  | [] => rfl
  | x :: xs => by
    show (D.noL (e x) && D.noLL (xs.map e)) = true
    rw [h.nl, noLL_map xs]
    rfl
instance {e : α → D} [NL e] : NL (eT e) := ⟨noLL_map⟩
instance {e : α → D} {f : β → D} [h : NL e] [h' : NL f] : NL (eP e f) := ⟨fun x => by
  show (D.noL (e x.1) && (D.noL (f x.2) && true)) = true
  rw [h.nl, h'.nl]
  rfl⟩
/-! two of them -/
theorem w_eq [BEq α] {e : α → D} [h : Fa e] [g : Go 50 e] {x y : α} : op2D .eq (e x) (e y) = some (.bl (x == y)) := by
  rw [o_eq]
  unfold eqD
  rw [g.good, g.good]
  exact congrArg (fun b => some (D.bl b)) (h.eq x y)
theorem w_ne [BEq α] {e : α → D} [h : Fa e] [g : Go 50 e] {x y : α} : op2D .ne (e x) (e y) = some (.bl (!(x == y))) := by
  rw [o_ne]
  unfold eqD
  rw [g.good, g.good]
  exact congrArg (fun b => some (D.bl (!b))) (h.eq x y)
theorem w_eqD {x y : D} (g : (D.good 50 x && D.good 50 y) = true) : op2D .eq x y = some (.bl (D.eqv x y)) := by
  rw [o_eq]
  unfold eqD
  rw [g]
  rfl
theorem w_neD {x y : D} (g : (D.good 50 x && D.good 50 y) = true) : op2D .ne x y = some (.bl (!(D.eqv x y))) := by
  rw [o_ne]
  unfold eqD
  rw [g]
  rfl
def memB [BEq α] (xs : List α) (x : α) : Bool := xs.any fun y => y == x
theorem anyEq_map [BEq α] {e : α → D} [h : Fa e] (x : α) : ∀ xs : List α, anyEq (e x) (xs.map e) = memB xs x
  | [] => rfl
  | y :: ys => by
    show (D.eqv (e y) (e x) || anyEq (e x) (ys.map e)) = _
    rw [h.eq, anyEq_map x ys]
    rfl
theorem w_inL [BEq α] {e : α → D} [h : Fa e] [g : Go 50 e] {x : α} {xs : List α} : op2D .isIn (e x) (eL e xs) = some (.bl (memB xs x)) := by
  rw [o_in]
  unfold eL
  rw [in_L, g.good, goodL_mapG, anyEq_map]
  rfl
theorem w_inT [BEq α] {e : α → D} [h : Fa e] [g : Go 50 e] {x : α} {xs : List α} : op2D .isIn (e x) (eT e xs) = some (.bl (memB xs x)) := by
  rw [o_in]
  unfold eT
  rw [in_T, g.good, goodL_mapG, anyEq_map]
  rfl
theorem w_notInL [BEq α] {e : α → D} [h : Fa e] [g : Go 50 e] {x : α} {xs : List α} : op2D .notIn (e x) (eL e xs) = some (.bl (!memB xs x)) := by
  rw [o_notIn]
  unfold eL
  rw [in_L, g.good, goodL_mapG, anyEq_map]
  rfl
theorem w_notInT [BEq α] {e : α → D} [h : Fa e] [g : Go 50 e] {x : α} {xs : List α} : op2D .notIn (e x) (eT e xs) = some (.bl (!memB xs x)) := by
  rw [o_notIn]
  unfold eT
  rw [in_T, g.good, goodL_mapG, anyEq_map]
  rfl
theorem w_inDL {e : α → D} {x : D} {xs : List α} (g : (D.good 50 x && D.goodL 50 (xs.map e)) = true) : op2D .isIn x (eL e xs) = some (.bl (anyEq x (xs.map e))) := by
  rw [o_in]
  unfold eL
  rw [in_L, g]
  rfl
theorem w_ltT {x y : List Int} : op2D .lt (eT D.int x) (eT D.int y) = some (.bl (lexI x y)) := by
  show ((match ints? (x.map D.int), ints? (y.map D.int) with
    | some a, some b => some (lexI a b)
    | _, _ => none).map D.bl) = _
  rw [ints_map, ints_map]
  rfl
theorem w_catL {e : α → D} {x y : List α} (g : szOk (x.length + y.length) = true) : op2D .add (eL e x) (eL e y) = some (eL e (x ++ y)) := by
  unfold eL
  rw [o_addL, List.length_map, List.length_map, if_pos g, List.map_append]
theorem w_catT {e : α → D} {x y : List α} (g : szOk (x.length + y.length) = true) : op2D .add (eT e x) (eT e y) = some (eT e (x ++ y)) := by
  unfold eT
  rw [o_addT, List.length_map, List.length_map, if_pos g, List.map_append]
theorem w_mul {i j : Int} (g : mulOk i j = true) : op2D .mul (.int i) (.int j) = some (.int (i * j)) := by rw [o_mul, if_pos g]
theorem mulOk_l {i j : Int} (g : (decide (-(2 ^ 64) < i) && decide (i < 2 ^ 64)) = true) : mulOk i j = true := by
  unfold mulOk
  rw [g]
  rfl
theorem mulOk_r {i j : Int} (g : (decide (-(2 ^ 64) < j) && decide (j < 2 ^ 64)) = true) : mulOk i j = true := by
  unfold mulOk
  rw [g]
  simp
def repOk (n : Nat) (k : Int) : Bool := (decide (-1000000 < k) && decide (k < 1000000)) && szOk (n * k.toNat)
theorem map_rep {e : α → D} (k : Nat) (x : List α) : (List.replicate k (x.map e)).flatten = ((List.replicate k x).flatten).map e := by
  rw [List.map_flatten, List.map_replicate]
theorem w_repL {e : α → D} {x : List α} {k : Int} (g : repOk x.length k = true) : op2D .mul (eL e x) (.int k) = some (eL e (List.replicate k.toNat x).flatten) := by
  unfold eL
  rw [o_mulL]
  unfold repD
  rw [List.length_map, show ((decide (-1000000 < k) && decide (k < 1000000)) && szOk (x.length * k.toNat)) = true from g, map_rep]
  rfl
theorem w_repT {e : α → D} {x : List α} {k : Int} (g : repOk x.length k = true) : op2D .mul (eT e x) (.int k) = some (eT e (List.replicate k.toNat x).flatten) := by
  unfold eT
  rw [o_mulT]
  unfold repD
  rw [List.length_map, show ((decide (-1000000 < k) && decide (k < 1000000)) && szOk (x.length * k.toNat)) = true from g, map_rep]
  rfl
theorem flat1 (k : Nat) (x : α) : (List.replicate k [x]).flatten = List.replicate k x := by
  induction k with
  | zero => rfl
  | succ k ih => rw [List.replicate_succ, List.flatten_cons, ih]; rfl
theorem w_rep1L {e : α → D} {x : α} {k : Int} (g : repOk 1 k = true) : op2D .mul (eL e [x]) (.int k) = some (eL e (List.replicate k.toNat x)) := by rw [w_repL (x := [x]) g, flat1]
theorem w_rep1T {e : α → D} {x : α} {k : Int} (g : repOk 1 k = true) : op2D .mul (eT e [x]) (.int k) = some (eT e (List.replicate k.toNat x)) := by rw [w_repT (x := [x]) g, flat1]
def divOk (j : Int) : Bool := decide (0 < j) && decide (j.natAbs.log2 < 9000)
theorem w_fdiv {i j : Int} (g : divOk j = true) : op2D .fdiv (.int i) (.int j) = some (.int (i / j)) := by
  unfold divOk at g
  rw [o_fdiv, if_pos g]
theorem w_mod {i j : Int} (g : decide (0 < j) = true) : op2D .mod (.int i) (.int j) = some (.int (i % j)) := by
  rw [o_mod, if_pos (of_decide_eq_true g)]
def powOk (i j : Int) : Bool := decide (0 ≤ j) && (decide (j ≤ 1000000) && decide (i.natAbs < 2 ^ 64))
theorem w_pow {i j : Int} (g : powOk i j = true) : op2D .pow (.int i) (.int j) = some (.int (i ^ j.toNat)) := by unfold powOk at g; rw [o_pow, if_pos g]
theorem w_shl {i j : Int} (g : powOk i j = true) : op2D .shl (.int i) (.int j) = some (.int (i * 2 ^ j.toNat)) := by
  show (if powOk i j = true then some (D.int (i * 2 ^ j.toNat)) else none) = _
  rw [if_pos g]
/-! one -/
theorem w_lenL {e : α → D} {x : List α} : b1D .len (eL e x) = some (.int (x.length : Int)) := by unfold eL; rw [f_lenL, List.length_map]
theorem w_lenT {e : α → D} {x : List α} : b1D .len (eT e x) = some (.int (x.length : Int)) := by unfold eT; rw [f_lenT, List.length_map]
theorem w_sortL {x : List Int} (g : szOk x.length = true) : b1D .sorted (eL D.int x) = some (eL D.int (sortI x)) := sorted_L x (Nat.le_of_ble_eq_true g)
theorem w_sortT {x : List Int} (g : szOk x.length = true) : b1D .sorted (eT D.int x) = some (eL D.int (sortI x)) := sorted_T x (Nat.le_of_ble_eq_true g)
/-- pairs in order -/
def lexP (p q : Int × Int) : Bool := if p.1 = q.1 then decide (p.2 < q.2) else decide (p.1 < q.1)
def insP (a : Int × Int) : List (Int × Int) → List (Int × Int)
  | [] => [a]
  | b :: r => if lexP b a then b :: insP a r else a :: b :: r
def sortP : List (Int × Int) → List (Int × Int)
  | [] => []
  | a :: r => insP a (sortP r)
def prL (p : Int × Int) : List Int := [p.1, p.2]
theorem lexP_I (p q : Int × Int) : lexI (prL p) (prL q) = lexP p q := by
  show (if p.1 = q.1 then (if p.2 = q.2 then false else decide (p.2 < q.2)) else decide (p.1 < q.1)) = lexP p q
  unfold lexP
  by_cases h : p.1 = q.1
  · rw [if_pos h, if_pos h]
    by_cases h2 : p.2 = q.2
    · rw [if_pos h2, h2]
      exact (decide_eq_false (Int.lt_irrefl _)).symm
    · rw [if_neg h2]
  · rw [if_neg h, if_neg h]
theorem insP_T (a : Int × Int) : ∀ x : List (Int × Int), insT (prL a) (x.map prL) = (insP a x).map prL
  | [] => rfl
  | b :: r => by
    show (if lexI (prL b) (prL a) then prL b :: insT (prL a) (r.map prL) else prL a :: prL b :: r.map prL) = (if lexP b a then b :: insP a r else a :: b :: r).map prL
    rw [lexP_I, insP_T a r]
    cases lexP b a <;> rfl
theorem sortP_T : ∀ x : List (Int × Int), sortT (x.map prL) = (sortP x).map prL
  | [] => rfl
  | a :: r => by
    show insT (prL a) (sortT (r.map prL)) = (insP a (sortP r)).map prL
    rw [sortP_T r, insP_T]
theorem tIs_map : ∀ x : List (List Int), (x.all fun l => !l.isEmpty) = true → tIs? (x.map (eT D.int)) = some x
  | [], _ => rfl
  | [] :: r, h => by simp at h
  | (a :: l) :: r, h => by
    have h2 : (r.all fun l => !l.isEmpty) = true := by simpa using h
    have e : tI? (eT D.int (a :: l)) = some (a :: l) := by
      show (match ints? ((a :: l).map D.int) with | some (a :: l) => some (a :: l) | _ => none) = _
      rw [ints_map]
    show (match tI? (eT D.int (a :: l)) with | some l => (match tIs? (r.map (eT D.int)) with | some m => some (l :: m) | none => none) | none => none) = _
    rw [e, tIs_map r h2]
theorem w_sortTT {x : List (List Int)} (g : (szOk x.length && x.all fun l => !l.isEmpty) = true) : b1D .sorted (eL (eT D.int) x) = some (eL (eT D.int) (sortT x)) := by
  rw [Bool.and_eq_true] at g
  cases x with
  | nil => rfl
  | cons a r =>
    show sortedT (.lst ((a :: r).map (eT D.int))) = _
    unfold sortedT
    dsimp only
    rw [tIs_map (a :: r) g.2]
    dsimp only
    rw [if_pos g.1]
    rfl
theorem w_sortP {x : List (Int × Int)} (g : szOk x.length = true) : b1D .sorted (eL (eP D.int D.int) x) = some (eL (eP D.int D.int) (sortP x)) := by
  have e : ∀ l : List (Int × Int), eL (eP D.int D.int) l = eL (eT D.int) (l.map prL) := fun l => by
    show D.lst (l.map _) = D.lst ((l.map prL).map _)
    rw [List.map_map]
    rfl
  rw [e, e, ← sortP_T, w_sortTT]
  rw [Bool.and_eq_true, List.length_map]
  exact ⟨g, by simp [prL]⟩
theorem w_sumL {x : List Int} : b1D .sum (eL D.int x) = some (.int x.sum) := by unfold eL; rw [f_sumL, ints_map]; rfl
theorem w_sumT {x : List Int} : b1D .sum (eT D.int x) = some (.int x.sum) := by
  show (ints? (x.map D.int)).map _ = _
  rw [ints_map]
  rfl
theorem w_all {x : List Bool} : b1D .all (eL D.bl x) = some (.bl (x.all id)) := by unfold eL; rw [f_allL, bools_map]; rfl
theorem w_any {x : List Bool} : b1D .any (eL D.bl x) = some (.bl (x.any id)) := by unfold eL; rw [f_anyL, bools_map]; rfl
def maxO : List Int → Option Int
  | [] => none
  | a :: l => some (maxI a l)
def minO : List Int → Option Int
  | [] => none
  | a :: l => some (minI a l)
theorem w_maxL {x : List Int} (m : Int) (h : maxO x = some m) : b1D .max (eL D.int x) = some (.int m) := by
  show (match ints? (x.map D.int) with | some (a :: l) => some (D.int (maxI a l)) | _ => none) = _
  rw [ints_map]
  cases x <;> cases h
  rfl
theorem w_maxT {x : List Int} (m : Int) (h : maxO x = some m) : b1D .max (eT D.int x) = some (.int m) := w_maxL m h
theorem w_minL {x : List Int} (m : Int) (h : minO x = some m) : b1D .min (eL D.int x) = some (.int m) := by
  show (match ints? (x.map D.int) with | some (a :: l) => some (D.int (minI a l)) | _ => none) = _
  rw [ints_map]
  cases x <;> cases h
  rfl
theorem w_minT {x : List Int} (m : Int) (h : minO x = some m) : b1D .min (eT D.int x) = some (.int m) := w_minL m h
def absI (i : Int) : Int := if i < 0 then -i else i
theorem w_isNoneO {e : α → D} [h : NN e] {v : Option α} : b1D .isNone (eO e v) = some (.bl v.isNone) := by
  rw [f_non]
  cases v with
  | none => rfl
  | some a => exact congrArg (fun b => some (D.bl b)) (h.nn a)
theorem w_isNone {e : α → D} [h : NN e] {v : α} : b1D .isNone (e v) = some (.bl false) := by
  rw [f_non]
  exact congrArg (fun b => some (D.bl b)) (h.nn v)
def rgI (a : Int) : Nat → List Int
  | 0 => []
  | n + 1 => a :: rgI (a + 1) n
theorem rangeI_rg : ∀ (n : Nat) (a : Int), rangeI a n = (rgI a n).map D.int
  | 0, _ => rfl
  | n + 1, a => by
    show D.int a :: rangeI (a + 1) n = _
    rw [rangeI_rg n (a + 1)]
    rfl
def rgS (a c : Int) : Nat → List Int
  | 0 => []
  | n + 1 => a :: rgS (a + c) c n
theorem rangeS_rg (c : Int) : ∀ (n : Nat) (a : Int), rangeS a c n = (rgS a c n).map D.int
  | 0, _ => rfl
  | n + 1, a => by
    show D.int a :: rangeS (a + c) c n = _
    rw [rangeS_rg c n (a + c)]
    rfl
@[simp] theorem rgI_len : ∀ (n : Nat) (a : Int), (rgI a n).length = n
  | 0, _ => rfl
  | n + 1, a => congrArg Nat.succ (rgI_len n (a + 1))
@[simp] theorem rgS_len (c : Int) : ∀ (n : Nat) (a : Int), (rgS a c n).length = n
  | 0, _ => rfl
  | n + 1, a => congrArg Nat.succ (rgS_len c n (a + c))
theorem w_range1 {b : Int} (g : b62 b = true) : (rangeD [.int b]).map D.lst = some (eL D.int (rgI 0 b.toNat)) := by
  show (if b62 b then some (rangeI 0 b.toNat) else none).map D.lst = _
  rw [if_pos g, rangeI_rg]
  rfl
theorem w_range2 {a b : Int} (g : (b62 a && b62 b) = true) : (rangeD [.int a, .int b]).map D.lst = some (eL D.int (rgI a (b - a).toNat)) := by
  show (if b62 a && b62 b then some (rangeI a (b - a).toNat) else none).map D.lst = _
  rw [if_pos g, rangeI_rg]
  rfl
def rg3Ok (a b c : Int) : Bool := b62 a && (b62 b && (decide (-1000000 < c) && (decide (c < 1000000) && !decide (c = 0))))
theorem w_range3 {a b c : Int} (g : rg3Ok a b c = true) : (rangeD [.int a, .int b, .int c]).map D.lst = some (eL D.int (rgS a c (rgN a b c).toNat)) := by
  show (if rg3Ok a b c = true then some (rangeS a c (rgN a b c).toNat) else none).map D.lst = _
  rw [if_pos g, rangeS_rg]
  rfl
theorem w_listR1 {b : Int} (g : (b62 b && szOk b.toNat) = true) : b1D .listR (.tup [.int b]) = some (eL D.int (rgI 0 b.toNat)) := by
  rw [Bool.and_eq_true] at g
  rw [f_listR]
  show (match (if b62 b then some (rangeI 0 b.toNat) else none) with | some ds => if szOk ds.length then some (D.lst ds) else none | none => none) = _
  rw [if_pos g.1, rangeI_rg]
  show (if szOk ((rgI 0 b.toNat).map D.int).length then some (D.lst ((rgI 0 b.toNat).map D.int)) else none) = _
  rw [List.length_map, rgI_len, if_pos g.2]
  rfl
theorem w_tupleR1 {b : Int} (g : (b62 b && szOk b.toNat) = true) : b1D .tupleR (.tup [.int b]) = some (eT D.int (rgI 0 b.toNat)) := by
  rw [Bool.and_eq_true] at g
  rw [f_tupleR]
  show (match (if b62 b then some (rangeI 0 b.toNat) else none) with | some ds => if szOk ds.length then some (D.tup ds) else none | none => none) = _
  rw [if_pos g.1, rangeI_rg]
  show (if szOk ((rgI 0 b.toNat).map D.int).length then some (D.tup ((rgI 0 b.toNat).map D.int)) else none) = _
  rw [List.length_map, rgI_len, if_pos g.2]
  rfl
def rg2Ok (a b : Int) : Bool := (b62 a && b62 b) && szOk (b - a).toNat
theorem w_listR2 {a b : Int} (g : rg2Ok a b = true) : b1D .listR (.tup [.int a, .int b]) = some (eL D.int (rgI a (b - a).toNat)) := by
  unfold rg2Ok at g
  rw [Bool.and_eq_true] at g
  rw [f_listR]
  show (match (if b62 a && b62 b then some (rangeI a (b - a).toNat) else none) with | some ds => if szOk ds.length then some (D.lst ds) else none | none => none) = _
  rw [if_pos g.1, rangeI_rg]
  show (if szOk ((rgI a (b - a).toNat).map D.int).length then some (D.lst ((rgI a (b - a).toNat).map D.int)) else none) = _
  rw [List.length_map, rgI_len, if_pos g.2]
  rfl
theorem w_tupleR2 {a b : Int} (g : rg2Ok a b = true) : b1D .tupleR (.tup [.int a, .int b]) = some (eT D.int (rgI a (b - a).toNat)) := by
  unfold rg2Ok at g
  rw [Bool.and_eq_true] at g
  rw [f_tupleR]
  show (match (if b62 a && b62 b then some (rangeI a (b - a).toNat) else none) with | some ds => if szOk ds.length then some (D.tup ds) else none | none => none) = _
  rw [if_pos g.1, rangeI_rg]
  show (if szOk ((rgI a (b - a).toNat).map D.int).length then some (D.tup ((rgI a (b - a).toNat).map D.int)) else none) = _
  rw [List.length_map, rgI_len, if_pos g.2]
  rfl
def rg3Ok' (a b c : Int) : Bool := rg3Ok a b c && szOk (rgN a b c).toNat
theorem w_listR3 {a b c : Int} (g : rg3Ok' a b c = true) : b1D .listR (.tup [.int a, .int b, .int c]) = some (eL D.int (rgS a c (rgN a b c).toNat)) := by
  unfold rg3Ok' at g
  rw [Bool.and_eq_true] at g
  rw [f_listR]
  show (match (if rg3Ok a b c then some (rangeS a c (rgN a b c).toNat) else none) with | some ds => if szOk ds.length then some (D.lst ds) else none | none => none) = _
  rw [if_pos g.1, rangeS_rg]
  show (if szOk ((rgS a c (rgN a b c).toNat).map D.int).length then some (D.lst ((rgS a c (rgN a b c).toNat).map D.int)) else none) = _
  rw [List.length_map, rgS_len, if_pos g.2]
  rfl
theorem w_tupleR3 {a b c : Int} (g : rg3Ok' a b c = true) : b1D .tupleR (.tup [.int a, .int b, .int c]) = some (eT D.int (rgS a c (rgN a b c).toNat)) := by
  unfold rg3Ok' at g
  rw [Bool.and_eq_true] at g
  rw [f_tupleR]
  show (match (if rg3Ok a b c then some (rangeS a c (rgN a b c).toNat) else none) with | some ds => if szOk ds.length then some (D.tup ds) else none | none => none) = _
  rw [if_pos g.1, rangeS_rg]
  show (if szOk ((rgS a c (rgN a b c).toNat).map D.int).length then some (D.tup ((rgS a c (rgN a b c).toNat).map D.int)) else none) = _
  rw [List.length_map, rgS_len, if_pos g.2]
  rfl
def mx2 (i j : Int) : Int := if i < j then j else i
def mn2 (i j : Int) : Int := if j < i then j else i
def idxO [BEq α] (xs : List α) (x : α) : Option Int := if szOk xs.length then (xs.findIdx? fun y => y == x).map fun k => (k : Int) else none
theorem findEq_map [BEq α] {e : α → D} [h : Fa e] (x : α) : ∀ (xs : List α) (k : Nat), findEq (e x) k (xs.map e) = (xs.findIdx? fun y => y == x).map (· + k)
  | [], _ => rfl
  | y :: ys, k => by
    show (if D.eqv (e y) (e x) then some k else findEq (e x) (k + 1) (ys.map e)) = _
    rw [h.eq, findEq_map x ys (k + 1), List.findIdx?_cons]
    split
    · simp
    · cases ys.findIdx? fun y => y == x with
      | none => rfl
      | some z =>
        show some (z + (k + 1)) = some (z + 1 + k)
        rw [Nat.add_assoc, Nat.add_comm k 1]
theorem w_indexL [BEq α] {e : α → D} [h : Fa e] [g : Go 50 e] {x : α} {xs : List α} (i : Int) (hi : idxO xs x = some i) : b2D .index (eL e xs) (e x) = some (.int i) := by
  show (if D.good 50 (e x) && (D.goodL 50 (xs.map e) && szOk (xs.map e).length) then (findEq (e x) 0 (xs.map e)).map fun k => D.int (k : Nat) else none) = _
  unfold idxO at hi
  rw [g.good, goodL_mapG, List.length_map, findEq_map]
  split at hi
  · rename_i z
    rw [z]
    cases q : xs.findIdx? fun y => y == x with
    | none => rw [q] at hi; cases hi
    | some k =>
      rw [q] at hi
      cases hi
      rfl
  · cases hi
theorem w_indexT [BEq α] {e : α → D} [h : Fa e] [g : Go 50 e] {x : α} {xs : List α} (i : Int) (hi : idxO xs x = some i) : b2D .index (eT e xs) (e x) = some (.int i) := w_indexL i hi
theorem countEq_map [BEq α] {e : α → D} [h : Fa e] (x : α) : ∀ xs : List α, countEq (e x) (xs.map e) = xs.count x
  | [] => rfl
  | y :: ys => by
    show (if D.eqv (e y) (e x) then countEq (e x) (ys.map e) + 1 else countEq (e x) (ys.map e)) = _
    rw [h.eq, countEq_map x ys, List.count_cons]
    split <;> rfl
theorem w_countL [BEq α] {e : α → D} [h : Fa e] [g : Go 50 e] {x : α} {xs : List α} (hz : szOk xs.length = true) : b2D .count (eL e xs) (e x) = some (.int (xs.count x : Nat)) := by
  show (if D.good 50 (e x) && (D.goodL 50 (xs.map e) && szOk (xs.map e).length) then some (D.int (countEq (e x) (xs.map e) : Nat)) else none) = _
  rw [g.good, goodL_mapG, List.length_map, hz, countEq_map]
  rfl
theorem w_countT [BEq α] {e : α → D} [h : Fa e] [g : Go 50 e] {x : α} {xs : List α} (hz : szOk xs.length = true) : b2D .count (eT e xs) (e x) = some (.int (xs.count x : Nat)) := w_countL hz
def atI (xs : List α) (i : Int) : Option α := if 0 ≤ i then xs[i.toNat]? else if 0 ≤ i + xs.length then xs[(i + xs.length).toNat]? else none
theorem atD_map {e : α → D} {xs : List α} {i : Int} : atD (xs.map e) i = (atI xs i).map e := by
  unfold atD atI
  rw [List.length_map]
  split
  · exact List.getElem?_map ..
  · split
    · exact List.getElem?_map ..
    · rfl
theorem w_idxL {e : α → D} {xs : List α} {i : Int} (v : α) (h : atI xs i = some v) : idxD (eL e xs) (.int i) = some (e v) := by
  show atD (xs.map e) i = _
  rw [atD_map, h]
  rfl
theorem w_idxT {e : α → D} {xs : List α} {i : Int} (v : α) (h : atI xs i = some v) : idxD (eT e xs) (.int i) = some (e v) := w_idxL v h
theorem cut_map {e : α → D} (xs : List α) (lo hi : Option Int) : cut (xs.map e) lo hi = (cut xs lo hi).map e := by
  unfold cut
  rw [List.length_map, List.map_drop, List.map_take]
def cutDD {α : Type} (xs : List α) (lo hi : D) : Option (List α) := match part lo, part hi with
  | some l, some h => some (cut xs l h)
  | _, _ => none
theorem w_slcDL {α : Type} {e : α → D} {x l : List α} {lo hi : D} (g : cutDD x lo hi = some l) : slcD (eL e x) lo hi = some (eL e l) := by
  unfold cutDD at g
  unfold slcD
  cases h1 : part lo with
  | none => rw [h1] at g; cases g
  | some a =>
    cases h2 : part hi with
    | none => rw [h1, h2] at g; cases g
    | some b =>
      rw [h1, h2] at g
      cases g
      show some (D.lst (cut (x.map e) a b)) = some (D.lst ((cut x a b).map e))
      unfold cut
      rw [List.map_drop, List.map_take, List.length_map]
theorem w_slcDT {α : Type} {e : α → D} {x l : List α} {lo hi : D} (g : cutDD x lo hi = some l) : slcD (eT e x) lo hi = some (eT e l) := by
  unfold cutDD at g
  unfold slcD
  cases h1 : part lo with
  | none => rw [h1] at g; cases g
  | some a =>
    cases h2 : part hi with
    | none => rw [h1, h2] at g; cases g
    | some b =>
      rw [h1, h2] at g
      cases g
      show some (D.tup (cut (x.map e) a b)) = some (D.tup ((cut x a b).map e))
      unfold cut
      rw [List.map_drop, List.map_take, List.length_map]
theorem w_slcL {e : α → D} {xs : List α} {l h : D} {lo hi : Option Int} (h1 : PF.part l = some lo) (h2 : PF.part h = some hi) : slcD (eL e xs) l h = some (eL e (cut xs lo hi)) := by
  unfold slcD
  rw [h1, h2]
  show some (D.lst (cut (xs.map e) lo hi)) = _
  rw [cut_map]
  rfl
theorem w_slcT {e : α → D} {xs : List α} {l h : D} {lo hi : Option Int} (h1 : PF.part l = some lo) (h2 : PF.part h = some hi) : slcD (eT e xs) l h = some (eT e (cut xs lo hi)) := by
  unfold slcD
  rw [h1, h2]
  show some (D.tup (cut (xs.map e) lo hi)) = _
  rw [cut_map]
  rfl
theorem w_revL {e : α → D} {xs : List α} : revD (eL e xs) = some (eL e xs.reverse) := by
  show some (D.lst (xs.map e).reverse) = _
  rw [← List.map_reverse]
  rfl
theorem w_revT {e : α → D} {xs : List α} : revD (eT e xs) = some (eT e xs.reverse) := by
  show some (D.tup (xs.map e).reverse) = _
  rw [← List.map_reverse]
  rfl
def enI : Int → List α → List (Int × α)
  | _, [] => []
  | i, a :: r => (i, a) :: enI (i + 1) r
theorem enumD_map {e : α → D} : ∀ (xs : List α) (i : Int), enumD i (xs.map e) = (enI i xs).map (eP D.int e)
  | [], _ => rfl
  | x :: r, i => congrArg (D.tup [.int i, e x] :: ·) (enumD_map r (i + 1))
theorem w_enumL {e : α → D} {xs : List α} : ((seqD (eL e xs)).map fun ds => D.lst (enumD 0 ds)) = some (eL (eP D.int e) (enI 0 xs)) := by
  show some (D.lst (enumD 0 (xs.map e))) = _
  rw [enumD_map]
  rfl
theorem w_enumT {e : α → D} {xs : List α} : ((seqD (eT e xs)).map fun ds => D.lst (enumD 0 ds)) = some (eL (eP D.int e) (enI 0 xs)) := w_enumL
theorem zipD_map {e : α → D} {f : β → D} : ∀ (xs : List α) (ys : List β), zipD (xs.map e) (ys.map f) = (xs.zip ys).map (eP e f)
  | [], _ => rfl
  | _ :: _, [] => rfl
  | x :: xs, y :: ys => congrArg (D.tup [e x, f y] :: ·) (zipD_map xs ys)
theorem w_zip {e : α → D} {f : β → D} {xs : List α} {ys : List β} {a b : D} (h1 : seqD a = some (xs.map e)) (h2 : seqD b = some (ys.map f)) : zipO a b = some (eL (eP e f) (xs.zip ys)) := by
  unfold zipO
  rw [h1, h2]
  show some (D.lst (zipD (xs.map e) (ys.map f))) = _
  rw [zipD_map]
  rfl
/-! anything -/
def isIntQ : D → Bool
  | .int _ => true
  | .bl _ => true
  | _ => false
def isBoolQ : D → Bool
  | .bl _ => true
  | _ => false
def isTupleQ : D → Bool
  | .tup _ => true
  | _ => false
def isStrQ : D → Bool
  | .str _ => true
  | _ => false
def isListQ : D → Bool
  | .lst _ => true
  | .cup => true
  | .scr _ => true
  | _ => false
theorem w_isInt {d : D} : b1D .isInt d = some (.bl (isIntQ d)) := by cases d <;> rfl
theorem w_isBool {d : D} : b1D .isBool d = some (.bl (isBoolQ d)) := by cases d <;> rfl
theorem w_isTuple {d : D} : b1D .isTuple d = some (.bl (isTupleQ d)) := by cases d <;> rfl
theorem w_isStr {d : D} : b1D .isStr d = some (.bl (isStrQ d)) := by cases d <;> rfl
theorem w_isList {d : D} : b1D .isList d = some (.bl (isListQ d)) := by cases d <;> rfl
theorem w_id {o : Option D} (x : D) (h : o = some x) : o = some (eD x) := h
def intOf : Option D → Option Int
  | some (.int i) => some i
  | _ => none
def blOf : Option D → Option Bool
  | some (.bl b) => some b
  | _ => none
def lstOf : Option D → Option (List D)
  | some (.lst l) => some l
  | _ => none
def intsOf : Option D → Option (List Int)
  | some (.lst l) => ints? l
  | _ => none
theorem w_int {o : Option D} (i : Int) (h : intOf o = some i) : o = some (.int i) := by
  cases o with
  | none => cases h
  | some d => cases d <;> cases h; rfl
theorem w_bl {o : Option D} (i : Bool) (h : blOf o = some i) : o = some (.bl i) := by
  cases o with
  | none => cases h
  | some d => cases d <;> cases h; rfl
theorem ints_of : ∀ {l : List D} {x : List Int}, ints? l = some x → l = x.map D.int
  | [], x, h => by cases h; rfl
  | d :: r, x, h => by
    cases d with
    | int i =>
      have h : (match ints? r with | some l => some (i :: l) | none => none) = some x := h
      cases q : ints? r with
      | none => rw [q] at h; cases h
      | some l =>
        rw [q] at h
        cases h
        rw [ints_of q]
        rfl
    | _ => cases h
theorem w_ints {o : Option D} (x : List Int) (h : intsOf o = some x) : o = some (eL D.int x) := by
  cases o with
  | none => cases h
  | some d =>
    cases d with
    | lst l => exact congrArg (fun z => some (D.lst z)) (ints_of h)
    | _ => cases h
theorem w_seqV {x : D} (l : List D) (h : seqD x = some l) : (seqD x).map D.lst = some (eL eD l) := by
  rw [h]
  show some (D.lst l) = some (D.lst (l.map id))
  rw [List.map_id]
end
def tOf : D → Option (List Int)
  | .tup ds => ints? ds
  | _ => none
def lOf : D → Option (List Int)
  | .lst ds => ints? ds
  | _ => none
theorem w_tOf {d : D} {l : List Int} (h : tOf d = some l) : d = eT D.int l := by
  cases d with
  | tup ds => exact congrArg D.tup (ints_of h)
  | _ => cases h
theorem w_lOf {d : D} {l : List Int} (h : lOf d = some l) : d = eL D.int l := by
  cases d with
  | lst ds => exact congrArg D.lst (ints_of h)
  | _ => cases h
def iOf : D → Option Int
  | .int i => some i
  | _ => none
theorem w_iOf {d : D} {i : Int} (h : iOf d = some i) : d = D.int i := by
  cases d with
  | int j => cases h; rfl
  | _ => cases h
theorem w_oOf {α : Type} {e : α → D} {v : Option α} {x : α} (h : v = some x) : eO e v = e x := by
  subst h
  rfl
/-- pairs of anything -/
def prsD : List D → Option (List (D × D))
  | [] => some []
  | .tup [a, b] :: r => (prsD r).map fun l => (a, b) :: l
  | _ => none
theorem prsD_map : ∀ {l : List D} {m : List (D × D)}, prsD l = some m → l = m.map (eP eD eD)
  | [], m, h => by cases h; rfl
  | d :: r, m, h => by
    match d, h with
    | .tup [a, b], h =>
      have h : (prsD r).map (fun l => (a, b) :: l) = some m := h
      cases hr : prsD r with
      | none => rw [hr] at h; cases h
      | some l =>
        rw [hr] at h
        cases h
        rw [List.map_cons, ← prsD_map hr]
        rfl
def prsO (d : D) : Option (List (D × D)) := match seqD d with
  | some l => prsD l
  | none => none
theorem w_prsV {x : D} (l : List (D × D)) (h : prsO x = some l) : (seqD x).map D.lst = some (eL (eP eD eD) l) := by
  unfold prsO at h
  cases e : seqD x with
  | none => rw [e] at h; cases h
  | some m =>
    rw [e] at h
    show some (D.lst m) = _
    rw [prsD_map h]
    rfl
end PF

namespace PF
section
variable {α β : Type} {C : Nat → List D → M D} {Γ : Env} {t : S β} {R : β → Flow → Prop} {i : Nat} {r : List St} {k e : Ex} {F : Env → D → M Flow}
/-! dicts of one's own, by ints -/
def eM (en : α → D) (m : List (Int × α)) : D := .dct (m.map fun p => (.int p.1, en p.2))
def lkM : List (Int × α) → Int → Option α
  | [], _ => none
  | p :: r, k => if p.1 = k then some p.2 else lkM r k
def putM (m : List (Int × α)) (k : Int) (v : α) : List (Int × α) := if (lkM m k).isSome then m.map fun p => if p.1 = k then (p.1, v) else p else m ++ [(k, v)]
theorem lkD_eM {en : α → D} : ∀ {m : List (Int × α)} {k : Int}, lkD (m.map fun p => (.int p.1, en p.2)) k = (lkM m k).map en
  | [], _ => rfl
  | p :: r, k => by
    show (if p.1 = k then some (en p.2) else lkD (r.map fun p => (.int p.1, en p.2)) k) = (if p.1 = k then some p.2 else lkM r k).map en
    rw [lkD_eM]
    split <;> rfl
theorem putD_eM {en : α → D} {m : List (Int × α)} {k : Int} {v : α} : putD (m.map fun p => (.int p.1, en p.2)) k (en v) = (putM m k v).map fun p => (.int p.1, en p.2) := by
  unfold putD putM
  rw [lkD_eM, Option.isSome_map]
  split
  · rw [List.map_map, List.map_map]
    apply List.map_congr_left
    intro p _
    show (if decide (p.1 = k) = true then (D.int p.1, en v) else (D.int p.1, en p.2)) = _
    by_cases h : p.1 = k
    · simp [h]
    · simp [h]
  · simp
theorem j_dNew {en : α → D} (q : J Γ (fun δ => F δ (eM en [])) t R) : J Γ (fun δ => bnd (evE C .dNew δ) (F δ)) t R := q
theorem w_inM {en : α → D} {x : Int} {m : List (Int × α)} : op2D .isIn (.int x) (eM en m) = some (.bl (lkM m x).isSome) := by
  show (match inD (.int x) (eM en m) with | some b => some (D.bl b) | none => none) = _
  show (match some (lkD (m.map fun p => (.int p.1, en p.2)) x).isSome with | some b => some (D.bl b) | none => none) = _
  rw [lkD_eM, Option.isSome_map]
theorem w_notInM {en : α → D} {x : Int} {m : List (Int × α)} : op2D .notIn (.int x) (eM en m) = some (.bl (!(lkM m x).isSome)) := by
  show (match some (lkD (m.map fun p => (.int p.1, en p.2)) x).isSome with | some b => some (D.bl (!b)) | none => none) = _
  rw [lkD_eM, Option.isSome_map]
def putKK (C : Nat → List D → M D) (i : Nat) (r : List St) (δ : Env) (kd d : D) : M Flow := optM (dctAt δ i) fun kvs => match kd with
  | .int n => if szOk kvs.length then evK C r (δ.set i (some (.dct (putD kvs n d)))) else no
  | _ => no
theorem k_putK (q : J Γ (fun δ => bnd (evE C e δ) fun d => bnd (evE C k δ) fun kd => putKK C i r δ kd d) t R) : J Γ (fun δ => evK C (.putK i k e :: r) δ) t R := J.cong (fun δ => (bnd_bnd _ _ _).trans (bnd_congr fun x => (bnd_bnd _ _ _).trans (bnd_congr fun kd => by
  show bnd (optM (dctAt δ i) fun kvs => match kd with
    | .int n => if szOk kvs.length then ret (Flow.next (δ.set i (some (.dct (putD kvs n x))))) else no
    | _ => no) _ = putKK C i r δ kd x
  unfold putKK
  cases dctAt δ i with
  | none => rfl
  | some ds =>
    cases kd with
    | int n =>
      show bnd (if szOk ds.length then _ else _) _ = if szOk ds.length then _ else _
      split <;> rfl
    | _ => rfl))) q
theorem dctAt_tr {δ : Env} {kvs : List (D × D)} (A : Agr Γ δ) (h : Γ[i]? = some (some (.dct kvs))) : dctAt δ i = some kvs := by
  unfold dctAt
  rw [A.2 _ _ h]
  rfl
theorem k_putV {en : α → D} {m : List (Int × α)} {v : α} {kd : Int} {tk : List (Int × α) → S β} (h : Γ[i]? = some (some (eM en m))) (q : ∀ y, J (Γ.set i (some (eM en y))) (fun δ => evK C r δ) (tk y) R) : J Γ (fun δ => putKK C i r δ (.int kd) (en v)) (so (gd (szOk m.length)) fun _ => slet (putM m kd v) tk) R := fun δ c a c' A T => by
  obtain ⟨u, h1, h2⟩ := so_some T
  obtain ⟨z, h3, h4⟩ := q (putM m kd v) (δ.set i (some (eM en (putM m kd v)))) c a c' (A.set i _) h2
  refine ⟨z, ?_, h4⟩
  dsimp only
  unfold putKK
  rw [dctAt_tr A h]
  show (if szOk (m.map fun p : Int × α => (D.int p.1, en p.2)).length then evK C r (δ.set i (some (.dct (putD (m.map fun p : Int × α => (D.int p.1, en p.2)) kd (en v))))) else no) c = _
  rw [List.length_map, if_pos (gd_some h1), putD_eM]
  exact h3
/-! anything, where a tuple or a list of pairs of ints is wanted -/
def ips? : List D → Option (List (Int × Int))
  | [] => some []
  | .tup [.int i, .int j] :: r => match ips? r with
    | some l => some ((i, j) :: l)
    | none => none
  | _ :: _ => none
theorem ips_of : ∀ {ds : List D} {l : List (Int × Int)}, ips? ds = some l → ds = l.map (eP D.int D.int)
  | [], l, h => by cases h; rfl
  | d :: r, l, h => by
    unfold ips? at h
    split at h
    · cases h
      rename_i q
      cases q
    · rename_i i j r' q
      cases q
      cases e : ips? r with
      | none => rw [e] at h; cases h
      | some m =>
        rw [e] at h
        cases h
        rw [ips_of e]
        rfl
    · cases h
def tpOf : D → Option (List (Int × Int))
  | .tup ds => ips? ds
  | _ => none
def lpOf : D → Option (List (Int × Int))
  | .lst ds => ips? ds
  | _ => none
theorem w_tpOf {d : D} {l : List (Int × Int)} (h : tpOf d = some l) : d = eT (eP D.int D.int) l := by
  cases d with
  | tup ds => exact congrArg D.tup (ips_of h)
  | _ => cases h
theorem w_lpOf {d : D} {l : List (Int × Int)} (h : lpOf d = some l) : d = eL (eP D.int D.int) l := by
  cases d with
  | lst ds => exact congrArg D.lst (ips_of h)
  | _ => cases h
/-- a list or a tuple of ints -/
def siO (x : D) : Option (List Int) := match seqD x with
  | some ds => ints? ds
  | none => none
def seO (x : D) : Option (List (Int × Int)) := match siO x with
  | some l => some (enI 0 l)
  | none => none
theorem w_enumV {x : D} (l : List (Int × Int)) (h : seO x = some l) : ((seqD x).map fun ds => D.lst (enumD 0 ds)) = some (eL (eP D.int D.int) l) := by
  unfold seO siO at h
  cases e : seqD x with
  | none => rw [e] at h; cases h
  | some ds =>
    rw [e] at h
    dsimp only at h
    cases e' : ints? ds with
    | none => rw [e'] at h; cases h
    | some m =>
      rw [e'] at h
      cases h
      show some (D.lst (enumD 0 ds)) = _
      rw [ints_of e', enumD_map]
      rfl
end
end PF

/-! PTS: sets of ints, dicts of pairs, d[k] -/
namespace PF
section
variable {α β : Type} {C : Nat → List D → M D} {Γ : Env} {t : S β} {ω : Type} {R : β → ω → Prop} {a b : Ex} {F : Env → D → M ω}
theorem ints_m (l : List Int) : ints? (l.map D.int) = some l := by
  induction l with
  | nil => rfl
  | cons a r ih =>
    show (match ints? (r.map D.int) with | some l => some (a :: l) | none => none) = _
    rw [ih]
theorem w_lenSetL {x : List Int} (g : Nat.ble x.length 4000 = true) : b1D .lenSet (eL D.int x) = some (.int ((ddI [] x).length : Int)) := by
  show (match ints? (x.map D.int) with
      | some l => if Nat.ble l.length 4000 then some (D.int (ddI [] l).length) else none
      | none => none) = _
  rw [ints_m]
  show (if Nat.ble x.length 4000 then some (D.int (ddI [] x).length) else none) = _
  rw [if_pos g]
theorem w_lenSetT {x : List Int} (g : Nat.ble x.length 4000 = true) : b1D .lenSet (eT D.int x) = some (.int ((ddI [] x).length : Int)) := w_lenSetL g
theorem w_sortSetT {x : List Int} (g : Nat.ble x.length 60 = true) : b1D .sortSet (eT D.int x) = some (eL D.int (sortI (ddI [] x))) := by
  show (match ints? (x.map D.int) with
      | some l => if Nat.ble l.length 60 then some (D.lst ((sortI (ddI [] l)).map .int)) else none
      | none => none) = _
  rw [ints_m]
  show (if Nat.ble x.length 60 then some (D.lst ((sortI (ddI [] x)).map .int)) else none) = _
  rw [if_pos g]
  rfl
def mrgM (acc l : List (Int × α)) : List (Int × α) := l.foldl (fun acc p => putM acc p.1 p.2) acc
theorem mrg_eM {en : α → D} : ∀ (l acc : List (Int × α)), mrgD (acc.map fun p => (.int p.1, en p.2)) (l.map fun p => (p.1, en p.2)) = (mrgM acc l).map fun p => (.int p.1, en p.2)
  | [], _ => rfl
  | p :: r, acc => by
    show mrgD (putD (acc.map fun p => (.int p.1, en p.2)) p.1 (en p.2)) (r.map fun p => (p.1, en p.2)) = _
    rw [putD_eM, mrg_eM r]
    rfl
theorem prsK_map {en : α → D} : ∀ l : List (Int × α), prsK (l.map (eP D.int en)) = some (l.map fun p => (p.1, en p.2))
  | [] => rfl
  | p :: r => by
    show (match prsK (r.map (eP D.int en)) with | some l => some ((p.1, en p.2) :: l) | none => none) = _
    rw [prsK_map r]
    rfl
theorem w_dict {en : α → D} {l : List (Int × α)} (g : szOk l.length = true) : b1D .dict (eL (eP D.int en) l) = some (eM en (mrgM [] l)) := by
  show (match prsK (l.map (eP D.int en)) with
    | some m => if szOk (l.map (eP D.int en)).length then some (D.dct (mrgD [] m)) else none
    | none => none) = _
  rw [prsK_map]
  show (if szOk (l.map (eP D.int en)).length then some (D.dct (mrgD [] (l.map fun p => (p.1, en p.2)))) else none) = _
  rw [List.length_map, if_pos g]
  have := mrg_eM (en := en) l []
  exact congrArg (fun z => some (D.dct z)) this
def dIdxM (x k : D) : M D := match x, k with
  | .dct kvs, .int n => lift (lkD kvs n)
  | _, _ => no
theorem j_dIdx (q : J Γ (fun δ => bnd (evE C a δ) fun x => bnd (evE C b δ) fun y => bnd (dIdxM x y) (F δ)) t R) : J Γ (fun δ => bnd (evE C (.dIdx a b) δ) (F δ)) t R :=
  J.cong (fun δ => (bnd_bnd _ _ _).trans (bnd_congr fun x => bnd_bnd _ _ _)) q
theorem j_dIx {en : α → D} {m : List (Int × α)} {k : Int} {tk : α → S β} (q : ∀ x, J Γ (fun δ => F δ (en x)) (tk x) R) : J Γ (fun δ => bnd (dIdxM (eM en m) (.int k)) (F δ)) (so (lkM m k) tk) R := by
  have h : ∀ x, lkM m k = some x → lkD (m.map fun p => (.int p.1, en p.2)) k = some (en x) := fun x h => by rw [lkD_eM, h]; rfl
  exact j_liftO (o := lkD (m.map fun p => (.int p.1, en p.2)) k) (p := lkM m k) (en := en) h q
/-! anything, where rows of rows of ints are wanted -/
def its? : List D → Option (List (List Int))
  | [] => some []
  | .tup ds :: r => match ints? ds, its? r with
    | some a, some l => some (a :: l)
    | _, _ => none
  | _ :: _ => none
theorem its_of : ∀ {ds : List D} {l : List (List Int)}, its? ds = some l → ds = l.map (eT D.int)
  | [], l, h => by cases h; rfl
  | d :: r, l, h => by
    cases d with
    | tup es =>
      have h : (match ints? es, its? r with
        | some a, some l => some (a :: l)
        | _, _ => none) = some l := h
      cases e1 : ints? es with
      | none => rw [e1] at h; cases h
      | some a =>
        cases e2 : its? r with
        | none => rw [e1, e2] at h; cases h
        | some m =>
          rw [e1, e2] at h
          cases h
          rw [its_of e2, ints_of e1]
          rfl
    | _ => cases h
theorem its_map : ∀ l : List (List Int), its? (l.map (eT D.int)) = some l
  | [] => rfl
  | a :: r => by
    show (match ints? (a.map D.int), its? (r.map (eT D.int)) with
        | some a, some l => some (a :: l)
        | _, _ => none) = _
    rw [its_map r, ints_m]
def ttOf : D → Option (List (List Int))
  | .tup ds => its? ds
  | _ => none
def ltOf : D → Option (List (List Int))
  | .lst ds => its? ds
  | _ => none
theorem w_ttOf {d : D} {l : List (List Int)} (h : ttOf d = some l) : d = eT (eT D.int) l := by
  cases d with
  | tup ds => exact congrArg D.tup (its_of h)
  | _ => cases h
theorem w_ltOf {d : D} {l : List (List Int)} (h : ltOf d = some l) : d = eL (eT D.int) l := by
  cases d with
  | lst ds => exact congrArg D.lst (its_of h)
  | _ => cases h
theorem w_lst {o : Option D} (x : List D) (h : lstOf o = some x) : o = some (eL eD x) := by
  cases o with
  | none => cases h
  | some d =>
    cases d with
    | lst l =>
      cases h
      show some (D.lst x) = some (D.lst (x.map id))
      rw [List.map_id]
    | _ => cases h
def zpO (a b : D) : Option (List (D × D)) := match seqD a, seqD b with
  | some xs, some ys => some (xs.zip ys)
  | _, _ => none
theorem w_zpV {a b : D} (l : List (D × D)) (h : zpO a b = some l) : zipO a b = some (eL (eP eD eD) l) := by
  unfold zpO at h
  cases h1 : seqD a with
  | none => rw [h1] at h; cases h
  | some xs =>
    cases h2 : seqD b with
    | none => rw [h1, h2] at h; cases h
    | some ys =>
      rw [h1, h2] at h
      cases h
      exact w_zip (e := eD) (f := eD) (by rw [h1]; exact congrArg some (List.map_id _).symm) (by rw [h2]; exact congrArg some (List.map_id _).symm)
theorem w_sortTTT {x : List (List Int)} (g : (szOk x.length && x.all fun l => !l.isEmpty) = true) : b1D .sorted (eT (eT D.int) x) = some (eL (eT D.int) (sortT x)) := by
  rw [Bool.and_eq_true] at g
  cases x with
  | nil => rfl
  | cons a r =>
    show sortedT (.tup ((a :: r).map (eT D.int))) = _
    unfold sortedT
    dsimp only
    rw [tIs_map (a :: r) g.2]
    dsimp only
    rw [if_pos g.1]
    rfl
/-! xs.remove(k) -/
def remI (x : List Int) (k : Int) : Option (List Int) := if x.idxOf k < x.length then some (x.eraseIdx (x.idxOf k)) else none
def remK (C : Nat → List D → M D) (i : Nat) (r : List St) (δ : Env) (d : D) : M Flow := optM (lstAt δ i) fun ds => optM (remD ds d) fun es => evK C r (δ.set i (some (.lst es)))
theorem k_rem {i : Nat} {r : List St} {e : Ex} {R' : β → Flow → Prop} (q : J Γ (fun δ => bnd (evE C e δ) fun d => remK C i r δ d) t R') : J Γ (fun δ => evK C (.rem i e :: r) δ) t R' := J.cong (fun δ => (bnd_bnd _ _ _).trans (bnd_congr fun x => by
  show bnd (optM (lstAt δ i) fun ds => optM (remD ds x) fun es => ret (Flow.next (δ.set i (some (.lst es))))) _ = remK C i r δ x
  unfold remK
  cases lstAt δ i with
  | none => rfl
  | some ds =>
    show bnd (optM (remD ds x) fun es => ret (Flow.next (δ.set i (some (.lst es))))) _ = optM (remD ds x) _
    cases remD ds x <;> rfl)) q
theorem k_remV {i : Nat} {r : List St} {R' : β → Flow → Prop} {xs : List Int} {k : Int} {tk : List Int → S β} (h : Γ[i]? = some (some (eL D.int xs))) (q : ∀ y, J (Γ.set i (some (eL D.int y))) (fun δ => evK C r δ) (tk y) R') : J Γ (fun δ => remK C i r δ (.int k)) (so (remI xs k) tk) R' := fun δ c a c' A T => by
  obtain ⟨u, h1, h2⟩ := so_some T
  obtain ⟨z, h3, h4⟩ := q u (δ.set i (some (eL D.int u))) c a c' (A.set i _) h2
  refine ⟨z, ?_, h4⟩
  dsimp only
  unfold remK
  rw [lstAt_tr A h]
  have e : remD (xs.map D.int) (.int k) = some (u.map D.int) := by
    show (match ints? (xs.map D.int) with
      | some l => if l.idxOf k < l.length then some ((l.eraseIdx (l.idxOf k)).map D.int) else none
      | none => none) = _
    rw [ints_m]
    unfold remI at h1
    show (if xs.idxOf k < xs.length then some ((xs.eraseIdx (xs.idxOf k)).map D.int) else none) = _
    split at h1
    · rename_i z
      cases h1
      rw [if_pos z]
    · cases h1
  show optM (remD (xs.map D.int) (.int k)) _ c = _
  rw [e]
  exact h3
/-! a callee that answers with a new list -/
def noL1M (d : D) : M D := if D.noL1 d then ret d else no
theorem j_callF {l : Ex} {f : Nat} (q : J Γ (fun δ => bnd (evE C l δ) (unG fun ds => bnd (C f ds) fun d => bnd (noL1M d) (F δ))) t R) : J Γ (fun δ => bnd (evE C (.callF f l) δ) (F δ)) t R :=
  J.cong (fun δ => (bnd_bnd _ _ _).trans (bnd_congr fun x => by
    cases x with
    | tup ds => exact bnd_bnd _ _ _
    | _ => rfl)) q
theorem j_noL1 {d : D} (h : D.noL1 d = true) (q : J Γ (fun δ => F δ d) t R) : J Γ (fun δ => bnd (noL1M d) (F δ)) t R := J.cong (fun δ => by unfold noL1M; rw [if_pos h]; rfl) q
theorem noL1_eL {e : α → D} [h : NL e] (x : List α) : D.noL1 (eL e x) = true := noLL_map x
end
end PF

/-! PT3: what is common to the laws' own defs, free of their numbers -/
namespace PF
def isIntB : D → Bool
  | .int _ => true
  | _ => false
def tupB (d : D) (lo hi : Int) : Bool := match d with
  | .tup l => decide (lo ≤ (l.length : Int)) && decide ((l.length : Int) ≤ hi)
  | _ => false
def wholeB (d : D) (lo hi : Int) : Bool := match d with
  | .int i => decide (lo ≤ i) && decide (i ≤ hi)
  | _ => false
def sortD : D → Int
  | .non => 0
  | .bl _ => 1
  | .int _ => 2
  | .str _ => 3
  | .tup _ => 4
  | .lst _ => 5
  | .cup => 5
  | .scr _ => 5
  | .dct _ => 6
def rollI (p : Int × Int) (many : Int) : Int × (Int × Int) :=
  if 0 < p.1 then (p.1 % many, (p.1 / many, p.2)) else
    let a := (p.2 * 31051 + 7993) % 2147483543
    ((a * (a + 229)) % 2147483587 / 821 % many, (p.1, a))
theorem mul_small (a b : Int) (h1 : -(2 ^ 64) < a) (h2 : a < 2 ^ 64) : mulOk a b = true := by
  unfold mulOk
  rw [decide_eq_true h1, decide_eq_true h2]
  rfl
theorem mul_smallR (a b : Int) (h1 : -(2 ^ 64) < b) (h2 : b < 2 ^ 64) : mulOk a b = true := by
  unfold mulOk
  rw [decide_eq_true h1, decide_eq_true h2]
  simp
theorem log_big {m : Int} (h : 0 < m) (h2 : m < 2 ^ 200) : m.natAbs.log2 < 9000 := by
  have h3 : m.natAbs < 2 ^ 200 := by omega
  exact Nat.lt_of_lt_of_le ((Nat.log2_lt (by omega)).mpr h3) (by decide)
theorem log_small {m : Int} (h : 0 < m) (h2 : m < 2 ^ 64) : m.natAbs.log2 < 9000 := by
  have : m.natAbs.log2 < 64 := (Nat.log2_lt (by omega)).mpr (by omega)
  omega
theorem roll_lt (p : Int × Int) {many : Int} (h : 0 < many) : 0 ≤ (rollI p many).1 ∧ (rollI p many).1 < many := by
  unfold rollI
  split
  · exact ⟨Int.emod_nonneg _ (by omega), Int.emod_lt_of_pos _ h⟩
  · exact ⟨Int.emod_nonneg _ (by omega), Int.emod_lt_of_pos _ h⟩
theorem zip_self : ∀ {l : List D} {d : D}, d ∈ zipD l l → ∃ x ∈ l, d = .tup [x, x]
  | a :: r, d, h => by
    rcases List.mem_cons.mp (show d ∈ D.tup [a, a] :: zipD r r from h) with e | h
    · exact ⟨a, by simp, e⟩
    · obtain ⟨x, h1, h2⟩ := zip_self h
      exact ⟨x, List.mem_cons_of_mem _ h1, h2⟩
theorem goodL_mem {n : Nat} : ∀ {l : List D}, D.goodL n l = true → ∀ x ∈ l, D.good n x = true
  | a :: r, h, x, hx => by
    rw [goodL_cons', Bool.and_eq_true] at h
    rcases List.mem_cons.mp hx with e | hx
    · exact e ▸ h.1
    · exact goodL_mem h.2 x hx
theorem good_up : ∀ (n m : Nat) (d : D), n ≤ m → D.good n d = true → D.good m d = true
  | 0, m, d, _, h => by
    cases d <;> first | (cases m <;> exact h) | cases h
  | n + 1, m + 1, .tup l, hm, h => good_upL n m l (by omega) h
  | n + 1, m + 1, .lst l, hm, h => good_upL n m l (by omega) h
  | n + 1, m, .non, _, h => by cases m <;> rfl
  | n + 1, m, .bl _, _, h => by cases m <;> rfl
  | n + 1, m, .int _, _, h => by cases m <;> rfl
  | n + 1, m, .str _, _, h => by cases m <;> exact h
  | n + 1, m, .cup, _, h => by cases h
  | n + 1, m, .scr _, _, h => by cases h
  | n + 1, m, .dct _, _, h => by cases h
where
  good_upL (n m : Nat) : ∀ (l : List D), n ≤ m → D.goodL n l = true → D.goodL m l = true
    | [], _, _ => by simp
    | a :: r, hm, h => by
      rw [goodL_cons', Bool.and_eq_true] at h ⊢
      exact ⟨good_up n m a hm h.1, good_upL n m r hm h.2⟩
mutual
theorem eqv_self : ∀ (n : Nat) (d : D), D.good n d = true → D.eqv d d = true
  | n, .non, _ => rfl
  | n, .bl b, _ => by cases b <;> rfl
  | n, .int i, _ => by simp
  | n, .str x, _ => by
    show (x == x) = true
    exact beq_self_eq_true x
  | n + 1, .tup l, h => eqvL_self n l h
  | n + 1, .lst l, h => eqvL_self n l h
  | 0, .tup l, h => by cases h
  | 0, .lst l, h => by cases h
  | n, .cup, h => by cases n <;> cases h
  | n, .scr _, h => by cases n <;> cases h
  | n, .dct _, h => by cases n <;> cases h
theorem eqvL_self : ∀ (n : Nat) (l : List D), D.goodL n l = true → D.eqvL l l = true
  | n, [], _ => rfl
  | n, a :: r, h => by
    rw [goodL_cons', Bool.and_eq_true] at h
    show (D.eqv a a && D.eqvL r r) = true
    rw [eqv_self n a h.1, eqvL_self n r h.2]
    rfl
end
theorem filter_no {α : Type} (l : List α) : l.filter (fun _ => false) = [] := by
  induction l with
  | nil => rfl
  | cons a r ih => exact ih
theorem ne_self (i : Int) : op2D .ne (.int i) (.int i) = some (.bl false) := by
  rw [o_neI]
  simp
theorem call_of {m : M D} {d : D} (h : m = ret d) (c : Cup) : m c = .ok d c := by rw [h]; rfl
noncomputable section
open Classical in
def likeB (a b : D) : Bool := decide (a = b) && D.good 10 b
def p__law_cup (script : List Int) : S Unit := fun c => match c with
  | none => if szOk (script.length + 1) then some ((), some (cupOf script)) else none
  | some _ => none
def p__law_roll (many : Int) : S Int := fun c => match c with
  | some p => if 0 < many ∧ many < 2 ^ 200 then some ((rollI p many).1, some (rollI p many).2) else none
  | none => none
def p__law_some {α : Type} (things : List α) : S α := sb (p__law_roll (things.length : Int)) fun r => so (atI things r) fun x => sp x
def p__law_sort (value : D) : S Int := sp (sortD value)
def p__law_like (one other : D) : S Bool := so (gd (likeB one other)) fun _ => sp true
def p_is_integer (value : D) : S Bool := sp (isIntB value)
def p_is_whole (value : D) (low high : Int) : S Bool := sp (wholeB value low high)
def p_is_tuple_of (value : D) (low high : Int) : S Bool := sp (tupB value low high)
end
theorem fe_sp {α : Type} {m : M D} {e : α → D} {v : α} (h : m = ret (e v)) : FE m (sp v) e := fun c a c' T => by
  cases T
  rw [h]
  rfl
end PF

/-! PT4: reckoning with typed code -/
namespace PF
section
variable {α β γ σ ρ : Type}
@[simp] theorem sb_sp (a : α) (k : α → S β) : sb (sp a) k = k a := rfl
@[simp] theorem sb_r (t : S α) : sb t (fun a => sp a) = t := by
  funext c
  unfold sb sp
  cases t c with
  | none => rfl
  | some p => rfl
theorem sb_sb (t : S α) (k : α → S β) (l : β → S γ) : sb (sb t k) l = sb t fun a => sb (k a) l := by
  funext c
  unfold sb
  cases t c with
  | none => rfl
  | some p => rfl
@[simp] theorem so_some' (a : α) (k : α → S β) : so (some a) k = k a := rfl
theorem so_of {o : Option α} {a : α} (h : o = some a) (k : α → S β) : so o k = k a := by rw [h]; rfl
theorem gd_of {b : Bool} (h : b = true) (k : Unit → S β) : so (gd b) k = k () := by rw [h]; rfl
@[simp] theorem gd_true (k : Unit → S β) : so (gd true) k = k () := rfl
@[simp] theorem slet_eq (v : α) (k : α → S β) : slet v k = k v := rfl
@[simp] theorem sand_sp (a b : Bool) : sand (sp a) (sp b) = sp (a && b) := by cases a <;> rfl
@[simp] theorem sor_sp (a b : Bool) : sor (sp a) (sp b) = sp (a || b) := by cases a <;> rfl
@[simp] theorem sand_t (y : S Bool) : sand (sp true) y = y := rfl
@[simp] theorem sand_f (y : S Bool) : sand (sp false) y = sp false := rfl
@[simp] theorem sor_t (y : S Bool) : sor (sp true) y = sp true := rfl
@[simp] theorem sor_f (y : S Bool) : sor (sp false) y = y := rfl
@[simp] theorem sif_sp (b : Bool) (y z : S α) : sif (sp b) y z = if b then y else z := rfl
@[simp] theorem srest_next (g : ρ → β) (k : σ → S β) (s : σ) : srest g k (.next s) = k s := rfl
@[simp] theorem srest_brk (g : ρ → β) (k : σ → S β) (s : σ) : srest g k (.brk s) = k s := rfl
@[simp] theorem srest_ret (g : ρ → β) (k : σ → S β) (v : ρ) : srest g k (.ret v) = sp (g v) := rfl
theorem smap_pure {f : α → S β} {g : α → β} : ∀ {xs : List α}, (∀ x ∈ xs, f x = sp (g x)) → smap f xs = sp (xs.map g)
  | [], _ => rfl
  | x :: r, h => by
    show sb (f x) (fun y => sb (smap f r) fun l => sp (y :: l)) = _
    rw [h x (by simp), sb_sp, smap_pure (fun y hy => h y (List.mem_cons_of_mem _ hy)), sb_sp]
    rfl
theorem sfm_pure' {c : α → S Bool} {f : α → S β} {p : α → Bool} {g : α → β} : ∀ {xs : List α}, (∀ x ∈ xs, c x = sp (p x)) → (∀ x ∈ xs, p x = true → f x = sp (g x)) → sfm c f xs = sp ((xs.filter p).map g)
  | [], _, _ => rfl
  | x :: r, h, h' => by
    have ih := sfm_pure' (c := c) (f := f) (p := p) (g := g) (xs := r) (fun y hy => h y (List.mem_cons_of_mem _ hy)) (fun y hy => h' y (List.mem_cons_of_mem _ hy))
    show sb (c x) (fun b => if b then sb (f x) fun y => sb (sfm c f r) fun l => sp (y :: l) else sfm c f r) = _
    rw [h x (by simp), sb_sp, ih]
    cases hp : p x with
    | false => simp [List.filter_cons, hp]
    | true => simp [List.filter_cons, hp, h' x (by simp) hp]
/-- none passes -/
theorem sfm_none {c : α → S Bool} {f : α → S β} {xs : List α} (h : ∀ x ∈ xs, c x = sp false) : sfm c f xs = sp [] := by
  induction xs with
  | nil => rfl
  | cons x r ih =>
    show sb (c x) (fun b => if b then sb (f x) fun y => sb (sfm c f r) fun l => sp (y :: l) else sfm c f r) = _
    rw [h x (by simp), sb_sp, ih (fun y hy => h y (List.mem_cons_of_mem _ hy))]
    rfl
theorem sfold_pure {f : σ → α → S σ} {g : σ → α → σ} {I : σ → Prop} : ∀ {xs : List α} {s : σ}, I s → (∀ s, ∀ x ∈ xs, I s → f s x = sp (g s x) ∧ I (g s x)) → sfold f xs s = sp (xs.foldl g s) ∧ I (xs.foldl g s)
  | [], s, h0, _ => ⟨rfl, h0⟩
  | x :: r, s, h0, h => by
    obtain ⟨h1, h2⟩ := h s x (by simp) h0
    have ih := sfold_pure (f := f) (g := g) (I := I) (xs := r) h2 (fun s y hy => h s y (List.mem_cons_of_mem _ hy))
    refine ⟨?_, ih.2⟩
    show sb (f s x) (fun s' => sfold f r s') = _
    rw [h1, sb_sp, ih.1]
    rfl
theorem sfold_pure0 {f : σ → α → S σ} {g : σ → α → σ} {xs : List α} {s : σ} (h : ∀ s, ∀ x ∈ xs, f s x = sp (g s x)) : sfold f xs s = sp (xs.foldl g s) :=
  (sfold_pure (I := fun _ => True) trivial fun s x hx _ => ⟨h s x hx, trivial⟩).1
theorem sfold_app (f : σ → α → S σ) : ∀ (xs ys : List α) (s : σ), sfold f (xs ++ ys) s = sb (sfold f xs s) fun s' => sfold f ys s'
  | [], ys, s => rfl
  | x :: r, ys, s => by
    show sb (f s x) (fun s' => sfold f (r ++ ys) s') = sb (sb (f s x) fun s' => sfold f r s') _
    rw [sb_sb]
    congr 1
    funext s'
    exact sfold_app f r ys s'
@[simp] theorem sfold_nil (f : σ → α → S σ) (s : σ) : sfold f [] s = sp s := rfl
@[simp] theorem sfold_cons (f : σ → α → S σ) (x : α) (r : List α) (s : σ) : sfold f (x :: r) s = sb (f s x) fun s' => sfold f r s' := rfl
@[simp] theorem sfoldR_nil (f : σ → α → S (Lp σ ρ)) (s : σ) : sfoldR f [] s = sp (.next s) := rfl
/-- a loop that goes through -/
theorem sfoldR_next {f : σ → α → S (Lp σ ρ)} {g : σ → α → σ} {I : σ → Prop} : ∀ {xs : List α} {s : σ}, I s → (∀ s, ∀ x ∈ xs, I s → f s x = sp (.next (g s x)) ∧ I (g s x)) → sfoldR f xs s = sp (.next (xs.foldl g s)) ∧ I (xs.foldl g s)
  | [], s, h0, _ => ⟨rfl, h0⟩
  | x :: r, s, h0, h => by
    obtain ⟨h1, h2⟩ := h s x (by simp) h0
    have ih := sfoldR_next (f := f) (g := g) (I := I) (xs := r) h2 (fun s y hy => h s y (List.mem_cons_of_mem _ hy))
    refine ⟨?_, ih.2⟩
    show sb (f s x) (fun o => match o with
    | .next s' => sfoldR f r s'
    | .brk s' => sp (.next s')
    | .ret v => sp (.ret v)) = _
    rw [h1, sb_sp]
    exact ih.1
/-- whatever is drawn -/
def Ok (t : S α) (P : α → Prop) : Prop := ∀ p : Int × Int, ∃ a p', t (some p) = some (a, some p') ∧ P a
theorem ok_sp {a : α} {P : α → Prop} (h : P a) : Ok (sp a) P := fun p => ⟨a, p, rfl, h⟩
theorem ok_sb {t : S α} {k : α → S β} {Q : α → Prop} {P : β → Prop} (h : Ok t Q) (h' : ∀ a, Q a → Ok (k a) P) : Ok (sb t k) P := fun p => by
  obtain ⟨a, p1, h1, h2⟩ := h p
  obtain ⟨b, p2, h3, h4⟩ := h' a h2 p1
  exact ⟨b, p2, by unfold sb; rw [h1]; exact h3, h4⟩
theorem ok_of {t : S α} {a : α} {P : α → Prop} (e : t = sp a) (h : P a) : Ok t P := by rw [e]; exact ok_sp h
theorem ok_pure {t : S α} {a : α} {k : α → S β} {P : β → Prop} (e : t = sp a) (h : Ok (k a) P) : Ok (sb t k) P := by rw [e]; exact h
theorem ok_so {o : Option α} {a : α} {k : α → S β} {P : β → Prop} (e : o = some a) (h : Ok (k a) P) : Ok (so o k) P := by rw [e]; exact h
theorem ok_gd {b : Bool} {k : Unit → S β} {P : β → Prop} (e : b = true) (h : Ok (k ()) P) : Ok (so (gd b) k) P := by rw [e]; exact h
theorem ok_slet {v : α} {k : α → S β} {P : β → Prop} (h : Ok (k v) P) : Ok (slet v k) P := h
theorem ok_if {b : Bool} {t e : S α} {P : α → Prop} (h : b = true → Ok t P) (h' : b = false → Ok e P) : Ok (if b = true then t else e) P := by
  cases b
  · exact h' rfl
  · exact h rfl
theorem ok_mono {t : S α} {P Q : α → Prop} (h : Ok t P) (i : ∀ a, P a → Q a) : Ok t Q := fun p => by
  obtain ⟨a, p', h1, h2⟩ := h p
  exact ⟨a, p', h1, i a h2⟩
theorem ok_sfold {f : σ → α → S σ} {I : σ → Prop} : ∀ {xs : List α} {s : σ}, I s → (∀ s, ∀ x ∈ xs, I s → Ok (f s x) I) → Ok (sfold f xs s) I
  | [], s, h0, _ => ok_sp h0
  | x :: r, s, h0, h => ok_sb (h s x (by simp) h0) fun s' h' => ok_sfold h' fun s y hy => h s y (List.mem_cons_of_mem _ hy)
/-- a loop over which nothing is returned -/
theorem ok_sfoldR {f : σ → α → S (Lp σ ρ)} {I : σ → Prop} : ∀ {xs : List α} {s : σ}, I s → (∀ s, ∀ x ∈ xs, I s → Ok (f s x) fun o => ∃ s', o = .next s' ∧ I s') → Ok (sfoldR f xs s) fun o => ∃ s', o = .next s' ∧ I s'
  | [], s, h0, _ => ok_sp ⟨s, rfl, h0⟩
  | x :: r, s, h0, h => ok_sb (h s x (by simp) h0) fun o ⟨s', e, h'⟩ => by
    subst e
    exact ok_sfoldR h' fun s y hy => h s y (List.mem_cons_of_mem _ hy)
theorem ok_smap {f : α → S β} {Q : β → Prop} : ∀ {xs : List α}, (∀ x ∈ xs, Ok (f x) Q) → Ok (smap f xs) fun l => l.length = xs.length ∧ ∀ y ∈ l, Q y
  | [], _ => ok_sp ⟨rfl, by simp⟩
  | x :: r, h => ok_sb (h x (by simp)) fun y hy => ok_sb (ok_smap fun z hz => h z (List.mem_cons_of_mem _ hz)) fun l ⟨h1, h2⟩ => ok_sp ⟨congrArg Nat.succ h1, fun z hz => by
    rcases List.mem_cons.mp hz with e | hz
    · exact e ▸ hy
    · exact h2 z hz⟩
theorem ok_swhile {t : σ → S Bool} {f : σ → S σ} {I : σ → Prop} {b : σ → Bool} (μ : σ → Nat) (ht : ∀ s, I s → t s = sp (b s)) (hf : ∀ s, I s → b s = true → Ok (f s) fun s' => I s' ∧ μ s' < μ s) :
    ∀ (n : Nat) (s : σ), I s → μ s < n → Ok (swhile t f n s) fun s' => I s' ∧ b s' = false
  | 0, s, _, h => absurd h (Nat.not_lt_zero _)
  | n + 1, s, h0, h => by
    show Ok (sb (t s) fun b => if b then sb (f s) fun s' => swhile t f n s' else sp s) _
    rw [ht s h0, sb_sp]
    cases hb : b s with
    | false => exact ok_sp ⟨h0, hb⟩
    | true => exact ok_sb (hf s h0 hb) fun s' ⟨h1, h2⟩ => ok_swhile μ ht hf n s' h1 (by omega)
/-- a while that is reckoned -/
theorem swhile_pure {t : σ → S Bool} {f : σ → S σ} {I : σ → Prop} {b : σ → Bool} {g : σ → σ} (μ : σ → Nat) (ht : ∀ s, I s → t s = sp (b s)) (hf : ∀ s, I s → b s = true → f s = sp (g s) ∧ I (g s) ∧ μ (g s) < μ s) :
    ∀ (n : Nat) (s : σ), I s → μ s < n → ∃ s', swhile t f n s = sp s' ∧ I s' ∧ b s' = false
  | 0, s, _, h => absurd h (Nat.not_lt_zero _)
  | n + 1, s, h0, h => by
    have e : swhile t f (n + 1) s = sb (t s) fun b => if b then sb (f s) fun s' => swhile t f n s' else sp s := rfl
    rw [e, ht s h0, sb_sp]
    cases hb : b s with
    | false => exact ⟨s, rfl, h0, hb⟩
    | true =>
      obtain ⟨h1, h2, h3⟩ := hf s h0 hb
      obtain ⟨s', h4, h5⟩ := swhile_pure μ ht hf n (g s) h2 (by omega)
      exact ⟨s', by rw [h1]; exact h4, h5⟩
end
/-! draws -/
theorem ok_roll {many : Int} (h : 0 < many) (h2 : many < 2 ^ 200) : Ok (p__law_roll many) fun r => 0 ≤ r ∧ r < many := fun p => by
  refine ⟨(rollI p many).1, (rollI p many).2, ?_, roll_lt p h⟩
  unfold p__law_roll
  show (if 0 < many ∧ many < 2 ^ 200 then some ((rollI p many).1, some (rollI p many).2) else none) = _
  rw [if_pos ⟨h, h2⟩]
theorem atI_nat {α : Type} (xs : List α) (n : Nat) : atI xs (n : Int) = xs[n]? := by
  unfold atI
  rw [if_pos (Int.natCast_nonneg n)]
  rfl
theorem ok_some {α : Type} {things : List α} (h : things ≠ []) (h2 : things.length < 2 ^ 62) : Ok (p__law_some things) fun x => x ∈ things := by
  have hl : 0 < things.length := List.length_pos_iff.mpr h
  refine ok_sb (ok_roll (by omega) (by omega)) fun r ⟨h3, h4⟩ => ?_
  obtain ⟨k, rfl⟩ := Int.eq_ofNat_of_zero_le h3
  have hk : k < things.length := by omega
  have e : atI things (k : Int) = some things[k] := by rw [atI_nat, List.getElem?_eq_getElem hk]
  exact ok_so e (ok_sp (List.getElem_mem hk))
theorem like_self {a : D} (h : D.good 10 a = true) : p__law_like a a = sp true := by
  unfold p__law_like likeB
  rw [h, Bool.and_true]
  have : @decide (a = a) (Classical.propDecidable _) = true := @decide_eq_true _ (Classical.propDecidable _) rfl
  rw [this]
  rfl
theorem like_of {a b : D} (e : a = b) (h : D.good 10 a = true) : p__law_like a b = sp true := by
  subst e
  exact like_self h
/-- the law's answer, as the evaluator gives it -/
theorem law_of {m : M D} {t : S Bool} (h : FE m t D.bl) {ns : List Int} {k : Unit → S Bool} (ht : t = sb (p__law_cup ns) k) (hn : ns.length ≤ 63) (hk : Ok (k ()) fun b => b = true) : ∃ c, m none = .ok (.bl true) c := by
  obtain ⟨b, p, h1, h2⟩ := hk (cupOf ns)
  subst h2
  refine ⟨_, h none true (some p) ?_⟩
  rw [ht]
  have hz : szOk (ns.length + 1) = true := szOk_of (by omega)
  have e : p__law_cup ns none = some ((), some (cupOf ns)) := by
    unfold p__law_cup
    show (if szOk (ns.length + 1) then some ((), some (cupOf ns)) else none) = _
    rw [if_pos hz]
  unfold sb
  rw [e]
  exact h1
end PF

namespace PF
namespace K
noncomputable section
def p_need_whole (value : D) (low : Int) (high : Int) : S Unit :=
sb (p_is_whole value low high) fun r1 =>
if (!r1) then (sno) else
sp ()
def p_ends_by_b1 (size : Int) (places : (List Int)) (s2 : (List (List Int))) (place_3 : Int) : S (List (List Int)) :=
so (atI s2 (-(1 : Int))) fun v4 =>
slet (v4) fun later_5 =>
slet ((size - place_3)) fun left_6 =>
sb (if (memB places place_3) then (so (gd (b62 (left_6 + (1 : Int)))) fun _ =>
so (gd (szOk (rgI 0 ((left_6 + (1 : Int))).toNat).length)) fun _ =>
so (gd (szOk s2.length)) fun _ =>
slet (s2 ++ [((rgI 0 ((left_6 + (1 : Int))).toNat).map fun lesser_8 => (cut later_5 none (some lesser_8)).sum)]) fun found_9 =>
sp found_9) else (so (gd (b62 (left_6 + (1 : Int)))) fun _ =>
so (gd (szOk (rgI 0 ((left_6 + (1 : Int))).toNat).length)) fun _ =>
so (gd (szOk s2.length)) fun _ =>
slet (s2 ++ [((rgI 0 ((left_6 + (1 : Int))).toNat).map fun lesser_10 => (cut later_5 (some lesser_10) none).sum)]) fun found_11 =>
sp found_11)) fun s7 =>
sp s7
def p_ends_by (size : Int) (places : (List Int)) : S (List (List Int)) :=
slet ([[(1 : Int)]]) fun found_1 =>
so (gd (rg3Ok (size - (1 : Int)) (0 : Int) (-(1 : Int)))) fun _ =>
sb (sfold (p_ends_by_b1 size places) (rgS (size - (1 : Int)) (-(1 : Int)) (rgN (size - (1 : Int)) (0 : Int) (-(1 : Int))).toNat) found_1) fun s2 =>
sp s2.reverse
def p_able_from (row : D) (left : (List Int)) (place : Int) : S (List Int) :=
if (place == (0 : Int)) then (so (gd (b62 (left.length : Int) && szOk ((left.length : Int)).toNat)) fun _ =>
sp (rgI 0 ((left.length : Int)).toNat)) else
so (gd (szOk (enI 0 left).length)) fun _ =>
sb (sfm (fun at_1 => so (idxD row (D.int (-(1 : Int)))) fun v2 =>
so (blOf (op2D .gt v2 (D.int at_1.2))) fun x3 =>
sp (x3 == ((place % (2 : Int)) == (0 : Int)))) (fun at_1 => sp at_1.1) (enI 0 left)) fun l4 =>
sp l4
def p_turns_of (size : Int) : S (List Int) :=
so (gd (rg3Ok' (2 : Int) size (2 : Int))) fun _ =>
sp (rgS (2 : Int) (2 : Int) (rgN (2 : Int) size (2 : Int)).toNat)
def p_zigzag_at_b1 (ends_3 : (List (List Int))) (place_7 : Int) (s9 : (Int × (List Int) × (List Int))) (at_10 : Int) : S (Lp (Int × (List Int) × (List Int)) Empty) :=
so (atI ends_3 place_7) fun v11 =>
so (atI v11 at_10) fun v12 =>
if (decide (s9.1 < v12)) then (so (popI s9.2.2 at_10) fun p13 =>
so (gd (szOk s9.2.1.length)) fun _ =>
slet p13.1 fun left_14 =>
slet (s9.2.1 ++ [p13.2]) fun row_15 =>
sp (Lp.brk (s9.1, row_15, left_14))) else
so (atI ends_3 place_7) fun v16 =>
so (atI v16 at_10) fun v17 =>
slet (s9.1 - v17) fun number_18 =>
sp (Lp.next (number_18, s9.2.1, s9.2.2))
def p_zigzag_at_b2 (ends_3 : (List (List Int))) (s6 : (Int × (List Int) × (List Int))) (place_7 : Int) : S (Int × (List Int) × (List Int)) :=
sb (p_able_from ((eL D.int) s6.2.1) s6.2.2 place_7) fun r8 =>
sb (sfoldR (p_zigzag_at_b1 ends_3 place_7) r8 (s6.1, s6.2.1, s6.2.2)) <| srest Empty.elim fun s9 =>
sp (s9.1, s9.2.1, s9.2.2)
def p_zigzag_at (size : Int) (number : Int) : S (List Int) :=
sb (p_turns_of size) fun r1 =>
sb (p_ends_by size r1) fun r2 =>
so (gd (b62 size && szOk (size).toNat)) fun _ =>
slet (r2) fun ends_3 =>
slet (([] : List Int)) fun row_4 =>
slet ((rgI 0 (size).toNat)) fun left_5 =>
so (gd (b62 size)) fun _ =>
sb (sfold (p_zigzag_at_b2 ends_3) (rgI 0 (size).toNat) (number, row_4, left_5)) fun s6 =>
sp s6.2.1
def p_firsts_in (size : Int) : S (List Int) :=
sb (sif (sp (decide (size > (0 : Int)))) (sb (p_turns_of size) fun r1 =>
sb (p_ends_by size r1) fun r2 =>
so (atI r2 (0 : Int)) fun v3 =>
sp v3) (sp ([] : List Int))) fun y4 =>
sp y4
def p_count_in (size : Int) : S Int :=
sb (sif (sp (decide (size > (0 : Int)))) (sb (p_firsts_in size) fun r1 =>
sp r1.sum) (sp (1 : Int))) fun y2 =>
sp y2
def p_zigzag_with (size : Int) (number : Int) : S (List Int) :=
sb (p_need_whole (D.int size) (0 : Int) (30 : Int)) fun r1 =>
sb (p_count_in size) fun r2 =>
sb (p_need_whole (D.int number) (0 : Int) (r2 - (1 : Int))) fun r3 =>
sb (p_zigzag_at size number) fun r4 =>
sp r4
def p__law_orders_b1 (many : Int) (s5 : (List (List Int))) (some_6 : (List Int)) : S (List (List Int)) :=
so (gd (b62 many)) fun _ =>
so (gd (szOk (rgI 0 (many).toNat).length)) fun _ =>
sb (sfm (fun value_7 => sp (!(memB some_6 value_7))) (fun value_7 => so (gd (szOk (some_6.length + [value_7].length))) fun _ =>
sp (some_6 ++ [value_7])) (rgI 0 (many).toNat)) fun l8 =>
so (gd (szOk (s5.length + l8.length))) fun _ =>
slet (s5 ++ l8) fun longer_9 =>
sp longer_9
def p__law_orders_b2 (many : Int) (s2 : (List (List Int))) (turn_3 : Int) : S (List (List Int)) :=
slet ([] : List (List Int)) fun longer_4 =>
sb (sfold (p__law_orders_b1 many) s2 longer_4) fun s5 =>
sp s5
def p__law_orders (many : Int) : S (List (List Int)) :=
slet ([([] : (List Int))]) fun found_1 =>
so (gd (b62 many)) fun _ =>
sb (sfold (p__law_orders_b2 many) (rgI 0 (many).toNat) found_1) fun s2 =>
sp s2
def p__law_falls (row : (List Int)) : S (List Int) :=
so (gd (b62 (1 : Int) && b62 (row.length : Int))) fun _ =>
so (gd (szOk (rgI (1 : Int) ((row.length : Int) - (1 : Int)).toNat).length)) fun _ =>
sb (sfm (fun place_1 => so (atI row place_1) fun v2 =>
so (atI row (place_1 - (1 : Int))) fun v3 =>
sp (decide (v2 < v3))) (fun place_1 => sp place_1) (rgI (1 : Int) ((row.length : Int) - (1 : Int)).toNat)) fun l4 =>
sp l4
def p__law_is_zigzag (order : (List Int)) : S Bool :=
sb (p__law_falls order) fun r1 =>
so (gd (rg3Ok' (2 : Int) (order.length : Int) (2 : Int))) fun _ =>
sp (r1 == (rgS (2 : Int) (2 : Int) (rgN (2 : Int) (order.length : Int) (2 : Int)).toNat))
def p_count_zigzags (size : Int) : S Int :=
sb (p_need_whole (D.int size) (0 : Int) (30 : Int)) fun r1 =>
sb (p_count_in size) fun r2 =>
sp r2
def p_fits_order (value : D) : S Bool :=
sb (sor (sb (p_is_tuple_of value (0 : Int) (30 : Int)) fun r1 =>
sp (!r1)) (so (seqD value) fun x2 =>
so (gd (szOk x2.length)) fun _ =>
sb (smap (fun one_3 => so (intOf (b1D .len value)) fun x4 =>
sb (p_is_whole one_3 (0 : Int) (x4 - (1 : Int))) fun r5 =>
sp r5) x2) fun l6 =>
sp (!(l6.all id)))) fun b7 =>
if b7 then (sp false) else
so (intsOf (b1D .sorted value)) fun x8 =>
so (intOf (b1D .len value)) fun x9 =>
so (gd (b62 x9 && szOk (x9).toNat)) fun _ =>
sp (x8 == (rgI 0 (x9).toNat))
def p_need_order (value : D) : S Unit :=
sb (p_fits_order value) fun r1 =>
if (!r1) then (sno) else
sp ()
def p_falls_in (order : (List Int)) : S (List Int) :=
so (gd (b62 (1 : Int) && b62 (order.length : Int))) fun _ =>
so (gd (szOk (rgI (1 : Int) ((order.length : Int) - (1 : Int)).toNat).length)) fun _ =>
sb (sfm (fun place_1 => so (atI order (place_1 - (1 : Int))) fun v2 =>
so (atI order place_1) fun v3 =>
sp (decide (v2 > v3))) (fun place_1 => sp place_1) (rgI (1 : Int) ((order.length : Int) - (1 : Int)).toNat)) fun l4 =>
sp l4
def p_is_zigzag_in (order : (List Int)) : S Bool :=
sb (p_falls_in order) fun r1 =>
sb (p_turns_of (order.length : Int)) fun r2 =>
sp (r1 == r2)
def p_number_in_b1 (ends_3 : (List (List Int))) (s6 : (Int × (List Int))) (place_7 : (Int × Int)) (s9 : Int) (at_10 : Int) : S Int :=
so (atI s6.2 at_10) fun v11 =>
sb (if (decide (v11 < place_7.2)) then (so (atI ends_3 place_7.1) fun v13 =>
so (atI v13 at_10) fun v14 =>
slet (s9 + v14) fun found_15 =>
sp found_15) else (sp s9)) fun s12 =>
sp s12
def p_number_in_b2 (order : (List Int)) (ends_3 : (List (List Int))) (s6 : (Int × (List Int))) (place_7 : (Int × Int)) : S (Int × (List Int)) :=
sb (p_able_from ((eT D.int) (cut order none (some place_7.1))) s6.2 place_7.1) fun r8 =>
sb (sfold (p_number_in_b1 ends_3 s6 place_7) r8 s6.1) fun s9 =>
so (remI s6.2 place_7.2) fun left_16 =>
sp (s9, left_16)
def p_number_in (order : (List Int)) : S Int :=
sb (p_turns_of (order.length : Int)) fun r1 =>
sb (p_ends_by (order.length : Int) r1) fun r2 =>
so (gd (b62 (order.length : Int) && szOk ((order.length : Int)).toNat)) fun _ =>
slet (r2) fun ends_3 =>
slet ((0 : Int)) fun found_4 =>
slet ((rgI 0 ((order.length : Int)).toNat)) fun left_5 =>
sb (sfold (p_number_in_b2 order ends_3) (enI 0 order) (found_4, left_5)) fun s6 =>
sp s6.1
def p_number_of_zigzag (order : (List Int)) : S Int :=
sb (p_need_order ((eT D.int) order)) fun r1 =>
sb (p_is_zigzag_in order) fun r2 =>
if (!r2) then (sno) else
sb (sif (sp (!(order == ([] : (List Int))))) (sb (p_number_in order) fun r3 =>
sp r3) (sp (0 : Int))) fun y4 =>
sp y4
def p__law_small_right (size : Int) : S Bool :=
sb (p__law_orders size) fun r1 =>
so (gd (szOk r1.length)) fun _ =>
sb (sfm (fun order_2 => sb (p__law_is_zigzag order_2) fun r3 =>
sp r3) (fun order_2 => sp order_2) r1) fun l4 =>
sb (p_count_zigzags size) fun r5 =>
so (gd (b62 r5)) fun _ =>
so (gd (szOk (rgI 0 (r5).toNat).length)) fun _ =>
sb (smap (fun number_6 => sb (p_zigzag_with size number_6) fun r7 =>
sp ((eT D.int) r7)) (rgI 0 (r5).toNat)) fun l8 =>
sb (sand (sb (p__law_like ((eL eD) l8) ((eL (eT D.int)) l4)) fun r9 =>
sp r9) (so (gd (szOk l4.length)) fun _ =>
sb (smap (fun order_10 => sb (p_number_of_zigzag order_10) fun r11 =>
sp r11) l4) fun l12 =>
so (gd (b62 (l4.length : Int) && szOk ((l4.length : Int)).toNat)) fun _ =>
sb (p__law_like ((eL D.int) l12) ((eL D.int) (rgI 0 ((l4.length : Int)).toNat))) fun r13 =>
sp r13)) fun b14 =>
sp b14
def p_is_zigzag (order : (List Int)) : S Bool :=
sb (p_need_order ((eT D.int) order)) fun r1 =>
sb (p_is_zigzag_in order) fun r2 =>
sp r2
def p_zigzags_from (size : Int) (first : Int) : S Int :=
sb (p_need_whole (D.int size) (1 : Int) (30 : Int)) fun r1 =>
sb (p_need_whole (D.int first) (0 : Int) (size - (1 : Int))) fun r2 =>
sb (p_firsts_in size) fun r3 =>
so (atI r3 first) fun v4 =>
sp v4
def p__law_written_right : S Bool :=
sb (p_is_zigzag [(0 : Int), (2 : Int), (1 : Int)]) fun r1 =>
sb (p_is_zigzag [(1 : Int), (0 : Int), (2 : Int)]) fun r2 =>
sb (p_is_zigzag ([] : (List Int))) fun r3 =>
so (gd (b62 (8 : Int))) fun _ =>
so (gd (szOk (rgI 0 ((8 : Int)).toNat).length)) fun _ =>
sb (smap (fun size_4 => sb (p_count_zigzags size_4) fun r5 =>
sp r5) (rgI 0 ((8 : Int)).toNat)) fun l6 =>
so (gd (b62 (4 : Int))) fun _ =>
so (gd (szOk (rgI 0 ((4 : Int)).toNat).length)) fun _ =>
sb (smap (fun first_7 => sb (p_zigzags_from (4 : Int) first_7) fun r8 =>
sp r8) (rgI 0 ((4 : Int)).toNat)) fun l9 =>
slet ([(D.bl r1), (D.bl r2), (D.bl r3), ((eL D.int) l6), ((eL D.int) l9)]) fun told_10 =>
sb (p__law_like ((eL eD) told_10) (D.lst [(D.bl true), (D.bl false), (D.bl true), (D.lst [(D.int (1 : Int)), (D.int (1 : Int)), (D.int (1 : Int)), (D.int (2 : Int)), (D.int (5 : Int)), (D.int (16 : Int)), (D.int (61 : Int)), (D.int (272 : Int))]), (D.lst [(D.int (2 : Int)), (D.int (2 : Int)), (D.int (1 : Int)), (D.int (0 : Int))])])) fun r11 =>
if (!r11) then (sp false) else
sb (p_zigzag_with (9 : Int) (0 : Int)) fun r12 =>
sb (p_zigzag_with (10 : Int) (0 : Int)) fun r13 =>
sb (p_number_of_zigzag [(0 : Int), (2 : Int), (1 : Int), (4 : Int), (3 : Int), (6 : Int), (5 : Int), (8 : Int), (7 : Int)]) fun r14 =>
sb (p_zigzag_with (9 : Int) (7935 : Int)) fun r15 =>
sb (p_is_zigzag r15) fun r16 =>
slet ([((eT D.int) r12), ((eT D.int) r13), (D.int r14), (D.bl r16)]) fun told_17 =>
sb (p__law_like ((eL eD) told_17) (D.lst [(D.tup [(D.int (0 : Int)), (D.int (2 : Int)), (D.int (1 : Int)), (D.int (4 : Int)), (D.int (3 : Int)), (D.int (6 : Int)), (D.int (5 : Int)), (D.int (8 : Int)), (D.int (7 : Int))]), (D.tup [(D.int (0 : Int)), (D.int (2 : Int)), (D.int (1 : Int)), (D.int (4 : Int)), (D.int (3 : Int)), (D.int (6 : Int)), (D.int (5 : Int)), (D.int (8 : Int)), (D.int (7 : Int)), (D.int (9 : Int))]), (D.int (0 : Int)), (D.bl true)])) fun r18 =>
if (!r18) then (sp false) else
sb (p_zigzag_with (4 : Int) (0 : Int)) fun r19 =>
sb (p_zigzag_with (4 : Int) (4 : Int)) fun r20 =>
sb (p_number_of_zigzag [(1 : Int), (3 : Int), (0 : Int), (2 : Int)]) fun r21 =>
sb (p_zigzag_with (0 : Int) (0 : Int)) fun r22 =>
sb (p_number_of_zigzag ([] : (List Int))) fun r23 =>
sb (p_zigzags_from (1 : Int) (0 : Int)) fun r24 =>
sb (p_zigzags_from (2 : Int) (1 : Int)) fun r25 =>
sb (p_count_zigzags (10 : Int)) fun r26 =>
slet ([((eT D.int) r19), ((eT D.int) r20), (D.int r21), ((eT D.int) r22), (D.int r23), (D.int r24), (D.int r25), (D.int r26)]) fun told_27 =>
sb (p__law_like ((eL eD) told_27) (D.lst [(D.tup [(D.int (0 : Int)), (D.int (2 : Int)), (D.int (1 : Int)), (D.int (3 : Int))]), (D.tup [(D.int (2 : Int)), (D.int (3 : Int)), (D.int (0 : Int)), (D.int (1 : Int))]), (D.int (3 : Int)), (D.tup []), (D.int (0 : Int)), (D.int (1 : Int)), (D.int (0 : Int)), (D.int (50521 : Int))])) fun r28 =>
sp r28
def p__law_counts_b1 (s2 : (List Int)) (size_3 : Int) (s6 : (Int × Int)) (at_7 : Int) : S (Int × Int) :=
so (atI s2 at_7) fun v8 =>
so (gd (mulOk s6.2 v8)) fun _ =>
so (atI s2 (size_3 - at_7)) fun v9 =>
so (gd (mulOk (s6.2 * v8) v9)) fun _ =>
so (gd (mulOk s6.2 (size_3 - at_7))) fun _ =>
so (gd (divOk (at_7 + (1 : Int)))) fun _ =>
slet ((s6.1 + ((s6.2 * v8) * v9))) fun whole_10 =>
slet (((s6.2 * (size_3 - at_7)) / (at_7 + (1 : Int)))) fun choice_11 =>
sp (whole_10, choice_11)
def p__law_counts_b2 (s2 : (List Int)) : S (List Int) :=
slet (((s2.length : Int) - (1 : Int))) fun size_3 =>
slet ((0 : Int)) fun whole_4 =>
slet ((1 : Int)) fun choice_5 =>
so (gd (b62 (size_3 + (1 : Int)))) fun _ =>
sb (sfold (p__law_counts_b1 s2 size_3) (rgI 0 ((size_3 + (1 : Int))).toNat) (whole_4, choice_5)) fun s6 =>
so (gd (szOk s2.length)) fun _ =>
slet (s2 ++ [(s6.1 / (2 : Int))]) fun found_12 =>
sp found_12
def p__law_counts (most : Int) : S (List Int) :=
slet ([(1 : Int), (1 : Int)]) fun found_1 =>
sb (swhile (fun s2 => sp (decide ((s2.length : Int) ≤ most))) p__law_counts_b2 wfuel found_1) fun s2 =>
sp (cut s2 none (some (most + (1 : Int))))
def p__law_order_b1 (s3 : ((List Int) × (List Int))) : S ((List Int) × (List Int)) :=
sb (p__law_roll (s3.1.length : Int)) fun r4 =>
so (popI s3.1 r4) fun p5 =>
so (gd (szOk s3.2.length)) fun _ =>
slet p5.1 fun left_6 =>
slet (s3.2 ++ [p5.2]) fun found_7 =>
sp (left_6, found_7)
def p__law_order (many : Int) : S (List Int) :=
so (gd (b62 many && szOk (many).toNat)) fun _ =>
slet ((rgI 0 (many).toNat)) fun left_1 =>
slet (([] : List Int)) fun found_2 =>
sb (swhile (fun s3 => sp (!(s3.1 == ([] : List Int)))) p__law_order_b1 wfuel (left_1, found_2)) fun s3 =>
sp s3.2
def p__law_near_order_b1 (many : Int) (s7 : (List Int)) (turn_8 : Int) : S (List Int) :=
sb (p__law_roll many) fun r9 =>
sb (p__law_roll many) fun r10 =>
slet (r9) fun one_11 =>
slet (r10) fun other_12 =>
so (atI s7 one_11) fun v13 =>
so (atI s7 other_12) fun v14 =>
so (stI s7 one_11 v14) fun found_15 =>
so (stI found_15 other_12 v13) fun found_16 =>
sp found_16
def p__law_near_order (many : Int) : S (List Int) :=
sb (p__law_roll (4 : Int)) fun r1 =>
so (gd (b62 many && szOk (many).toNat)) fun _ =>
slet (r1) fun way_2 =>
slet ((rgI 0 (many).toNat)) fun found_3 =>
if (decide (way_2 < (2 : Int))) then (sb (p__law_order many) fun r4 =>
sp r4) else
sb (sif (sp (decide (many > (0 : Int)))) (sb (p__law_roll (4 : Int)) fun r5 =>
sp r5) (sp (0 : Int))) fun y6 =>
so (gd (b62 y6)) fun _ =>
sb (sfold (p__law_near_order_b1 many) (rgI 0 (y6).toNat) found_3) fun s7 =>
sp (if (way_2 == (2 : Int)) then s7 else s7.reverse)
def p__law_triangle_b1 (s5 : (List Int)) (one_6 : Int) : S (List Int) :=
so (atI s5 (-(1 : Int))) fun v7 =>
so (gd (szOk s5.length)) fun _ =>
slet (s5 ++ [(v7 + one_6)]) fun later_8 =>
sp later_8
def p__law_triangle_b2 (s2 : (List Int)) (many_3 : Int) : S (List Int) :=
slet ([(0 : Int)]) fun later_4 =>
sb (sfold p__law_triangle_b1 s2.reverse later_4) fun s5 =>
sp s5
def p__law_triangle (size : Int) : S (List Int) :=
slet ([(1 : Int)]) fun row_1 =>
so (gd (b62 (2 : Int) && b62 (size + (1 : Int)))) fun _ =>
sb (sfold p__law_triangle_b2 (rgI (2 : Int) ((size + (1 : Int)) - (2 : Int)).toNat) row_1) fun s2 =>
sp s2.reverse
def p_is_order (value : D) : S Bool :=
sb (p_fits_order value) fun r1 =>
sp r1
def p_fall_places (order : (List Int)) : S (List Int) :=
sb (p_need_order ((eT D.int) order)) fun r1 =>
sb (p_falls_in order) fun r2 =>
sp r2
def p_upside_down_in (order : (List Int)) : S (List Int) :=
so (gd (szOk order.length)) fun _ =>
sp (order.map fun value_1 => (((order.length : Int) - (1 : Int)) - value_1))
def p_upside_down (order : (List Int)) : S (List Int) :=
sb (p_need_order ((eT D.int) order)) fun r1 =>
sb (p_upside_down_in order) fun r2 =>
sp r2
def p__law_right (size : Int) : S Bool :=
sb (p__law_counts size) fun r1 =>
so (atI r1 (-(1 : Int))) fun v2 =>
sb (p_count_zigzags size) fun r3 =>
sb (p__law_like (D.int r3) (D.int v2)) fun r4 =>
if (!r4) then (sp false) else
sb (sand (sp (decide (size > (0 : Int)))) (so (gd (b62 size)) fun _ =>
so (gd (szOk (rgI 0 (size).toNat).length)) fun _ =>
sb (smap (fun first_5 => sb (p_zigzags_from size first_5) fun r6 =>
sp r6) (rgI 0 (size).toNat)) fun l7 =>
sb (p__law_triangle size) fun r8 =>
sb (p__law_like ((eL D.int) l7) ((eL D.int) r8)) fun r9 =>
sp (!r9))) fun b10 =>
if b10 then (sp false) else
sb (p__law_roll v2) fun r11 =>
sb (p__law_some [(0 : Int), (v2 - (1 : Int)), r11]) fun r12 =>
sb (p_zigzag_with size r12) fun r13 =>
sb (p_is_order ((eT D.int) r13)) fun r14 =>
sb (p_is_zigzag r13) fun r15 =>
sb (p_number_of_zigzag r13) fun r16 =>
sb (p_fall_places r13) fun r17 =>
so (gd (rg3Ok' (2 : Int) size (2 : Int))) fun _ =>
sb (p__law_like (D.lst [(D.bl r14), (D.bl r15), (D.int r16), ((eT D.int) r17)]) (D.lst [(D.bl true), (D.bl true), (D.int r12), ((eT D.int) (rgS (2 : Int) (2 : Int) (rgN (2 : Int) size (2 : Int)).toNat))])) fun r18 =>
if (!r18) then (sp false) else
sb (sor (sp (!((r13.length : Int) == size))) (sb (p__law_is_zigzag r13) fun r19 =>
sp (!r19))) fun b20 =>
if b20 then (sp false) else
sb (sand (sp (decide ((r12 + (1 : Int)) < v2))) (sb (p_zigzag_with size (r12 + (1 : Int))) fun r21 =>
sp (!(lexI r13 r21)))) fun b22 =>
if b22 then (sp false) else
if (decide (size > (0 : Int))) then (sb (p__law_triangle size) fun r23 =>
so (atI r13 (0 : Int)) fun v24 =>
slet (cut r23 none (some v24)).sum fun ahead_25 =>
sb (sand (sp (decide (ahead_25 ≤ r12))) (sb (sb (p__law_triangle size) fun r26 =>
so (atI r13 (0 : Int)) fun v27 =>
so (atI r26 v27) fun v28 =>
sp (ahead_25 + v28)) fun z30 => sp (decide (r12 < z30)))) fun b29 =>
if (!b29) then (sp false) else
sb (p__law_near_order size) fun r31 =>
sb (p_is_zigzag r31) fun r32 =>
sb (p_upside_down r13) fun r33 =>
sb (p_is_zigzag r33) fun r34 =>
sb (p__law_is_zigzag r31) fun r35 =>
sb (p__law_like (D.lst [(D.bl r32), (D.bl r34)]) (D.lst [(D.bl r35), (D.bl (decide (size < (2 : Int))))])) fun r36 =>
sp r36) else
sb (p__law_near_order size) fun r37 =>
sb (p_is_zigzag r37) fun r38 =>
sb (p_upside_down r13) fun r39 =>
sb (p_is_zigzag r39) fun r40 =>
sb (p__law_is_zigzag r37) fun r41 =>
sb (p__law_like (D.lst [(D.bl r38), (D.bl r40)]) (D.lst [(D.bl r41), (D.bl (decide (size < (2 : Int))))])) fun r42 =>
sp r42
def p_law_b1 (s6 : Unit) (size_7 : Int) : S (Lp Unit Bool) :=
sb (p__law_right size_7) fun r8 =>
if (!r8) then (sp (Lp.ret false)) else
sp (Lp.next ())
def p_law (script : List Int) : S Bool :=
sb (p__law_written_right) fun r1 =>
if (!r1) then (sp false) else
sb (p__law_cup script) fun r2 =>
sb (p__law_roll (4 : Int)) fun r3 =>
sb (p__law_roll (5 : Int)) fun r4 =>
sb (p__law_roll (31 : Int)) fun r5 =>
sb (sfoldR p_law_b1 [r3, ((4 : Int) + r4), r5, (30 : Int)] ()) <| srest (fun v => v) fun s6 =>
sb (p__law_roll (7 : Int)) fun r9 =>
sb (p__law_small_right r9) fun r10 =>
sp r10
end
end K
end PF

namespace PF
namespace K
theorem is_integer_ev (n : Nat) (d : D) : callN Φ (n + 1) 1 [d] = ret (.bl (isIntB d)) := by
  rw [callN_eq (show Φ 1 = some F_is_integer from rfl) rfl]
  cases d <;> (funext c; rfl)
theorem is_tuple_ev (n : Nat) (d : D) (lo hi : Int) : callN Φ (n + 1) 17 [d, .int lo, .int hi] = ret (.bl (tupB d lo hi)) := by
  rw [callN_eq (show Φ 17 = some F_is_tuple_of from rfl) rfl]
  cases d with
  | tup l => simp [runF, F_is_tuple_of, evS, evE, tupB]
  | _ => funext c; rfl
theorem is_whole_ev (n : Nat) (d : D) (lo hi : Int) : callN Φ (n + 2) 2 [d, .int lo, .int hi] = ret (.bl (wholeB d lo hi)) := by
  rw [callN_eq (show Φ 2 = some F_is_whole from rfl) rfl]
  have e := is_integer_ev n d
  cases d <;> simp [runF, F_is_whole, evS, evE, e, isIntB, wholeB]
theorem sort_ev (n : Nat) (d : D) : callN Φ (n + 1) 11 [d] = ret (.int (sortD d)) := by
  rw [callN_eq (show Φ 11 = some F__law_sort from rfl) rfl]
  cases d <;> (funext c; rfl)
theorem roll_ev (n : Nat) (p : Int × Int) (many : Int) (h : 0 < many) (h2 : many < 2 ^ 200) : callN Φ (n + 1) 28 [.cup, .int many] (some p) = .ok (.int (rollI p many).1) (some (rollI p many).2) := by
  rw [callN_eq (show Φ 28 = some F__law_roll from rfl) rfl]
  obtain ⟨p0, p1⟩ := p
  have hl := log_big h h2
  unfold rollI
  by_cases h0 : 0 < p0
  · simp [runF, F__law_roll, evS, evE, bnd, ret, lift, truth, idxM, o_mod, o_fdiv, h, hl, h0]
  · have ha1 : 0 ≤ (p1 * 31051 + 7993) % 2147483543 := Int.emod_nonneg _ (by decide)
    have ha2 : (p1 * 31051 + 7993) % 2147483543 < 2147483543 := Int.emod_lt_of_pos _ (by decide)
    have m1 : mulOk p1 31051 = true := mul_smallR _ _ (by decide) (by decide)
    have m2 : mulOk ((p1 * 31051 + 7993) % 2147483543) ((p1 * 31051 + 7993) % 2147483543 + 229) = true := mul_small _ _ (by omega) (by omega)
    have hl2 : Nat.log2 821 < 9000 := by decide
    simp [runF, F__law_roll, evS, evE, bnd, ret, lift, truth, idxM, o_mod, o_fdiv, o_mul, h, hl, h0, m1, m2, hl2]
theorem like_leaf (n : Nat) (d : D) (h : D.good 0 d = true) (c : Cup) : callN Φ (n + 2) 12 [d, d] c = .ok (.bl true) c := by
  have hs : sortD d ≠ 6 ∧ sortD d ≠ 4 ∧ sortD d ≠ 5 := by cases d <;> first | cases h; done | exact ⟨by simp [sortD], by simp [sortD], by simp [sortD]⟩
  rw [callN_eq (show Φ 12 = some F__law_like from rfl) rfl]
  have e2 : callN Φ (n + 1) 11 [d] c = .ok (.int (sortD d)) c := call_of (sort_ev n d) c
  refine x_run rfl (x_seq [some d, some d, some (.int (sortD d)), none, none] c (x_asg (e_call (e_cons (e_var rfl) e_nil) e2)) (x_seq _ _ (x_iteF (e_orF (e_op2 (d := .bl false) (e_call (e_cons (e_var rfl) e_nil) e2) (e_var rfl) (ne_self _)) (e_op2 (e_var rfl) rfl (by rw [o_eqI, show (sortD d == 6) = false from beq_eq_false_iff_ne.mpr hs.1]))) x_skip) (x_seq _ _ (x_iteF (e_op2 (x := .int (sortD d)) (y := .tup [.int 4, .int 5]) (e_var rfl) (e_tup (e_cons rfl (e_cons rfl e_nil))) ?_) x_skip) (x_ret (e_op2 (e_var rfl) (e_var rfl) ?_)))))
  · rw [o_in, show (D.tup [.int 4, .int 5]) = tI [4, 5] from rfl, inD_tI]
    have : sortD d ∉ ([4, 5] : List Int) := by simp [hs.2.1, hs.2.2]
    rw [decide_eq_false this]
    rfl
  · rw [o_eq]
    unfold eqD
    have g50 : D.good 50 d = true := good_up 0 50 d (by omega) h
    rw [g50, eqv_self 50 d g50]
    rfl
theorem like_ev (n : Nat) : ∀ (k : Nat) (d : D), D.good k d = true → ∀ c, callN Φ (n + k + 2) 12 [d, d] c = .ok (.bl true) c := by
  intro k
  induction k with
  | zero => exact fun d h c => like_leaf (n + 0) d h c
  | succ k ih =>
    intro d h c
    by_cases hl : ∃ l, d = .tup l ∨ d = .lst l
    · obtain ⟨l, hl⟩ := hl
      have hg : D.goodL k l = true := by rcases hl with rfl | rfl <;> exact h
      have hs : sortD d = 4 ∨ sortD d = 5 := by rcases hl with rfl | rfl <;> simp [sortD]
      have hq : seqD d = some l := by rcases hl with rfl | rfl <;> rfl
      have hlen : b1D .len d = some (.int l.length) := by rcases hl with rfl | rfl <;> rfl
      rw [callN_eq (show Φ 12 = some F__law_like from rfl) rfl]
      have e2 : callN Φ (n + (k + 1) + 1) 11 [d] c = .ok (.int (sortD d)) c := call_of (sort_ev (n + (k + 1)) d) c
      have hc := e_compF (C := callN Φ (n + (k + 1) + 1)) (c := c) (c1 := c) (δ := [some d, some d, some (.int (sortD d)), none, none]) (t := .two 3 4) (it := .itZ (.var 0) (.var 1)) (ic := .not (.call 12 (.cons (.var 3) (.cons (.var 4) .nil)))) (ie := .cI 1) (ds := zipD l l) (fun _ => false) (fun _ => .int 1) (e_itZ (e_var rfl) (e_var rfl) hq hq) (fun z hz => by
        obtain ⟨x, hx, rfl⟩ := zip_self hz
        refine ⟨_, rfl, e_not (k := true) (e_call (e_cons (e_var rfl) (e_cons (e_var rfl) e_nil)) (ih x (goodL_mem hg x hx) c)), fun z => by cases z⟩) (by rw [filter_no]; exact Nat.zero_le _)
      rw [filter_no] at hc
      have s6 : op2D .eq (.int (sortD d)) (.int 6) = some (.bl false) := by rcases hs with e | e <;> rw [e] <;> rfl
      have s45 : op2D .isIn (.int (sortD d)) (.tup [.int 4, .int 5]) = some (.bl true) := by rcases hs with e | e <;> rw [e] <;> rfl
      have ll : op2D .eq (.int (l.length : Nat)) (.int (l.length : Nat)) = some (.bl true) := by rw [o_eqI]; simp
      exact x_run rfl (x_seq [some d, some d, some (.int (sortD d)), none, none] c (x_asg (e_call (e_cons (e_var rfl) e_nil) e2)) (x_seq _ _ (x_iteF (e_orF (e_op2 (d := .bl false) (e_call (e_cons (e_var rfl) e_nil) e2) (e_var rfl) (ne_self _)) (e_op2 (d := .bl false) (e_var rfl) rfl s6)) x_skip) (x_seqR (x_iteT (e_op2 (x := .int (sortD d)) (y := .tup [.int 4, .int 5]) (e_var rfl) (e_tup (e_cons rfl (e_cons rfl e_nil))) s45) (x_ret (e_andT (e_op2 (e_b1 (e_var rfl) hlen) (e_b1 (e_var rfl) hlen) ll) (e_op2 (x := .lst []) (y := .lst []) hc (e_lst e_nil) rfl)))))))
    · have h0 : D.good 0 d = true := by
        cases d <;> first | exact h | exact absurd ⟨_, .inl rfl⟩ hl | exact absurd ⟨_, .inr rfl⟩ hl
      exact like_leaf (n + (k + 1)) d h0 c
theorem q_is_integer (n : Nat) (value : D) : FE (callN Φ (n + 1) 1 [eD value]) (p_is_integer value) D.bl := fe_sp (is_integer_ev n value)
theorem q_is_tuple_of (n : Nat) (value : D) (lo hi : Int) : FE (callN Φ (n + 1) 17 [eD value, D.int lo, D.int hi]) (p_is_tuple_of value lo hi) D.bl := fe_sp (is_tuple_ev n value lo hi)
theorem q_is_whole (n : Nat) (value : D) (lo hi : Int) : FE (callN Φ (n + 2) 2 [eD value, D.int lo, D.int hi]) (p_is_whole value lo hi) D.bl := fe_sp (is_whole_ev n value lo hi)
theorem q__law_sort (n : Nat) (value : D) : FE (callN Φ (n + 1) 11 [eD value]) (p__law_sort value) D.int := fe_sp (sort_ev n value)
theorem q__law_roll (n : Nat) (many : Int) : FE (callN Φ (n + 1) 28 [.cup, D.int many]) (p__law_roll many) D.int := fun c a c' T => by
  unfold p__law_roll at T
  cases c with
  | none => cases T
  | some p =>
    have T : (if 0 < many ∧ many < 2 ^ 200 then some ((rollI p many).1, some (rollI p many).2) else none) = some (a, c') := T
    split at T
    · rename_i h
      cases T
      exact roll_ev n p many h.1 h.2
    · cases T
theorem q__law_cup (n : Nat) (script : List Int) : FE (callN Φ (n + 1) 0 [.scr script]) (p__law_cup script) (fun (_ : Unit) => D.cup) := fun c a c' T => by
  unfold p__law_cup at T
  cases c with
  | some p => cases T
  | none =>
    have T : (if szOk (script.length + 1) then some ((), some (cupOf script)) else none) = some (a, c') := T
    split at T
    · rename_i h
      cases T
      show (if szOk (script.length + 1) then Res.ok D.cup (some (cupOf script)) else .no) = _
      rw [if_pos h]
    · cases T
theorem q__law_like (n : Nat) (one other : D) : FE (callN Φ (n + 12) 12 [eD one, eD other]) (p__law_like one other) D.bl := fun c a c' T => by
  obtain ⟨u, h1, h2⟩ := so_some T
  have h3 := gd_some h1
  unfold likeB at h3
  rw [Bool.and_eq_true] at h3
  cases h2
  have e : one = other := @of_decide_eq_true _ (Classical.propDecidable _) h3.1
  subst e
  exact like_ev n 10 one h3.2 c
theorem q__law_some_L {α : Type} {en : α → D} (n : Nat) (things : List α) : FE (callN Φ (n + 2) 30 [.cup, eL en things]) (p__law_some things) en := by
  refine fe_run (n := n + 1) (F := F__law_some) rfl rfl rfl (Γ := [some .cup, some (eL en things)]) rfl ?_
  unfold p__law_some
  dsimp only [F__law_some]
  refine k_ret ?_
  refine j_idx ?_
  refine j_var (i := 1) rfl ?_
  refine j_call ?_
  refine jl_cons ?_
  refine j_var (i := 0) rfl ?_
  refine jl_cons ?_
  refine j_b1 ?_
  refine j_var (i := 1) rfl ?_
  refine j_lift w_lenL ?_
  refine jl_nil ?_
  refine j_fe (q__law_roll n (things.length : Int)) ?_
  intro r
  refine j_ix (en := en) w_idxL ?_
  intro x
  exact j_ret (.inl rfl)
theorem q__law_some_T {α : Type} {en : α → D} (n : Nat) (things : List α) : FE (callN Φ (n + 2) 30 [.cup, eT en things]) (p__law_some things) en := by
  refine fe_run (n := n + 1) (F := F__law_some) rfl rfl rfl (Γ := [some .cup, some (eT en things)]) rfl ?_
  unfold p__law_some
  dsimp only [F__law_some]
  refine k_ret ?_
  refine j_idx ?_
  refine j_var (i := 1) rfl ?_
  refine j_call ?_
  refine jl_cons ?_
  refine j_var (i := 0) rfl ?_
  refine jl_cons ?_
  refine j_b1 ?_
  refine j_var (i := 1) rfl ?_
  refine j_lift w_lenT ?_
  refine jl_nil ?_
  refine j_fe (q__law_roll n (things.length : Int)) ?_
  intro r
  refine j_ix (en := en) w_idxT ?_
  intro x
  exact j_ret (.inl rfl)
end K
end PF
namespace PF
namespace K
theorem q_need_whole (n : Nat) (value : D) (low : Int) (high : Int) : FE (callN Φ (n + 3) 3 [eD value, D.int low, D.int high]) (p_need_whole value low high) eN := by
  refine fe_run (n := n + 2) (F := F_need_whole) rfl rfl rfl (Γ := [some (eD value), some (D.int low), some (D.int high)]) rfl ?_
  unfold p_need_whole
  dsimp only [F_need_whole]
  refine k_seq ?_
  refine k_ite ?_
  refine j_not ?_
  refine j_call ?_
  refine jl_cons ?_
  refine j_var (i := 0) rfl ?_
  refine jl_cons ?_
  refine j_var (i := 1) rfl ?_
  refine jl_cons ?_
  refine j_var (i := 2) rfl ?_
  refine jl_nil ?_
  refine j_fe (q_is_whole (n + 0) _ _ _) ?_
  intro r1
  refine j_lift (d := .bl (!r1)) rfl ?_
  refine k_iteV ?_ ?_
  · exact k_raise
  · refine k_skip ?_
    refine k_skip ?_
    exact k_nilF
theorem q_ends_by (n : Nat) (size : Int) (places : (List Int)) : FE (callN Φ (n + 1) 4 [D.int size, (eL D.int) places]) (p_ends_by size places) (eL (eL D.int)) := by
  refine fe_run (n := n + 0) (F := F_ends_by) rfl rfl rfl (Γ := [some (D.int size), some ((eL D.int) places), none, none, none, none, none]) rfl ?_
  unfold p_ends_by
  dsimp only [F_ends_by]
  refine k_seq ?_
  refine k_asgO ?_
  refine j_lst ?_
  refine jl_cons ?_
  refine j_lst ?_
  refine jl_cons ?_
  refine j_cI ?_
  refine jl_nil ?_
  refine j_val (d := eL D.int [(1 : Int)]) rfl ?_
  refine jl_nil ?_
  refine j_val (d := eL (eL D.int) [[(1 : Int)]]) rfl ?_
  refine k_setOL (en := (eL D.int)) (xs := [[(1 : Int)]]) ?_
  intro found_1
  change J [some (D.int size), some ((eL D.int) places), some ((eL (eL D.int)) found_1), none, none, none, none] _ _ _
  refine k_seq ?_
  refine k_for ?_
  refine j_itR ?_
  refine jl_cons ?_
  refine j_op2 ?_
  refine j_var (i := 0) rfl ?_
  refine j_cI ?_
  refine j_lift rfl ?_
  refine jl_cons ?_
  refine j_cI ?_
  refine jl_cons ?_
  refine j_neg ?_
  refine j_cI ?_
  refine j_lift (d := .int (-(1 : Int))) rfl ?_
  refine jl_nil ?_
  refine j_liftG (g := rg3Ok (size - (1 : Int)) (0 : Int) (-(1 : Int))) (fun g => w_range3 g) ?_
  refine k_forV (Γl := fun (s2 : (List (List Int))) => [some (D.int size), some ((eL D.int) places), some ((eL (eL D.int)) s2), none, none, none, none]) (s0 := found_1) (f := (p_ends_by_b1 size places)) (by exact (Le.some _ (Le.some _ (Le.some _ (Le.none _ (Le.none _ (Le.none _ (Le.none _ Le.nil)))))))) (fun _ => tg_one) ?_ ?_
  · intro s2 place_3
    change J [some (D.int size), some ((eL D.int) places), some ((eL (eL D.int)) s2), some (D.int place_3), none, none, none] _ _ _
    unfold p_ends_by_b1
    refine k_seq ?_
    refine k_par ?_
    refine jl_cons ?_
    refine j_idx ?_
    refine j_var (i := 2) rfl ?_
    refine j_neg ?_
    refine j_cI ?_
    refine j_lift (d := .int (-(1 : Int))) rfl ?_
    refine j_ix (en := (eL D.int)) w_idxL ?_
    intro v4
    refine jl_cons ?_
    refine j_op2 ?_
    refine j_var (i := 0) rfl ?_
    refine j_var (i := 3) rfl ?_
    refine j_lift rfl ?_
    refine jl_nil ?_
    refine k_par2 (e1 := (eL D.int)) (e2 := D.int) (v1 := v4) (v2 := (size - place_3)) rfl ?_
    intro later_5
    intro left_6
    change J [some (D.int size), some ((eL D.int) places), some ((eL (eL D.int)) s2), some (D.int place_3), some ((eL D.int) later_5), some (D.int left_6), none] _ _ _
    refine k_seq ?_
    refine k_ite ?_
    refine j_op2 ?_
    refine j_var (i := 3) rfl ?_
    refine j_var (i := 1) rfl ?_
    refine j_lift (w_inL (e := D.int) (x := place_3) (xs := places)) ?_
    refine k_iteJ (Γl := fun (s7 : (List (List Int))) => [some (D.int size), some ((eL D.int) places), some ((eL (eL D.int)) s7), some (D.int place_3), some ((eL D.int) later_5), some (D.int left_6), none]) ?_ ?_ ?_
    · refine k_seq ?_
      refine k_app ?_
      refine j_comp ?_
      refine j_itR ?_
      refine jl_cons ?_
      refine j_op2 ?_
      refine j_var (i := 5) rfl ?_
      refine j_cI ?_
      refine j_lift rfl ?_
      refine jl_nil ?_
      refine j_liftG (g := b62 (left_6 + (1 : Int))) (fun g => w_range1 g) ?_
      refine j_compPM (eb := D.int) (f := fun lesser_8 => (cut later_5 none (some lesser_8)).sum) tg_one ?_ ?_
      · intro lesser_8
        refine rp_of ?_
        refine j_b1 ?_
        refine j_slc ?_
        refine j_var (i := 4) rfl ?_
        refine j_cN ?_
        refine j_var (i := 6) rfl ?_
        refine j_lift (w_slcL (lo := none) (hi := (some lesser_8)) rfl rfl) ?_
        refine j_lift w_sumL ?_
        exact j_ret rfl
      refine k_appV (en := (eL D.int)) (xs := s2) (v := ((rgI 0 ((left_6 + (1 : Int))).toNat).map fun lesser_8 => (cut later_5 none (some lesser_8)).sum)) rfl ?_
      intro found_9
      change J [some (D.int size), some ((eL D.int) places), some ((eL (eL D.int)) found_9), some (D.int place_3), some ((eL D.int) later_5), some (D.int left_6), none] _ _ _
      refine k_skip ?_
      exact k_nilN (by exact (Le.some _ (Le.some _ (Le.some _ (Le.some _ (Le.some _ (Le.some _ (Le.none _ Le.nil))))))))
    · refine k_seq ?_
      refine k_app ?_
      refine j_comp ?_
      refine j_itR ?_
      refine jl_cons ?_
      refine j_op2 ?_
      refine j_var (i := 5) rfl ?_
      refine j_cI ?_
      refine j_lift rfl ?_
      refine jl_nil ?_
      refine j_liftG (g := b62 (left_6 + (1 : Int))) (fun g => w_range1 g) ?_
      refine j_compPM (eb := D.int) (f := fun lesser_10 => (cut later_5 (some lesser_10) none).sum) tg_one ?_ ?_
      · intro lesser_10
        refine rp_of ?_
        refine j_b1 ?_
        refine j_slc ?_
        refine j_var (i := 4) rfl ?_
        refine j_var (i := 6) rfl ?_
        refine j_cN ?_
        refine j_lift (w_slcL (lo := (some lesser_10)) (hi := none) rfl rfl) ?_
        refine j_lift w_sumL ?_
        exact j_ret rfl
      refine k_appV (en := (eL D.int)) (xs := s2) (v := ((rgI 0 ((left_6 + (1 : Int))).toNat).map fun lesser_10 => (cut later_5 (some lesser_10) none).sum)) rfl ?_
      intro found_11
      change J [some (D.int size), some ((eL D.int) places), some ((eL (eL D.int)) found_11), some (D.int place_3), some ((eL D.int) later_5), some (D.int left_6), none] _ _ _
      refine k_skip ?_
      exact k_nilN (by exact (Le.some _ (Le.some _ (Le.some _ (Le.some _ (Le.some _ (Le.some _ (Le.none _ Le.nil))))))))
    intro s7
    change J [some (D.int size), some ((eL D.int) places), some ((eL (eL D.int)) s7), some (D.int place_3), some ((eL D.int) later_5), some (D.int left_6), none] _ _ _
    refine k_skip ?_
    exact k_nilN (by exact (Le.some _ (Le.some _ (Le.some _ (Le.none _ (Le.none _ (Le.none _ (Le.none _ Le.nil))))))))
  intro s2
  change J [some (D.int size), some ((eL D.int) places), some ((eL (eL D.int)) s2), none, none, none, none] _ _ _
  refine k_ret ?_
  refine j_rev ?_
  refine j_var (i := 2) rfl ?_
  refine j_lift w_revL ?_
  exact j_ret (.inl rfl)
theorem q_able_from (n : Nat) (row : D) (left : (List Int)) (place : Int) : FE (callN Φ (n + 1) 5 [eD row, (eL D.int) left, D.int place]) (p_able_from row left place) (eL D.int) := by
  refine fe_run (n := n + 0) (F := F_able_from) rfl rfl rfl (Γ := [some (eD row), some ((eL D.int) left), some (D.int place), none, none]) rfl ?_
  unfold p_able_from
  dsimp only [F_able_from]
  refine k_seq ?_
  refine k_ite ?_
  refine j_op2 ?_
  refine j_var (i := 2) rfl ?_
  refine j_cI ?_
  refine j_lift (w_eq (e := D.int) (x := place) (y := (0 : Int))) ?_
  refine k_iteV ?_ ?_
  · refine k_ret ?_
    refine j_b1 ?_
    refine j_tup ?_
    refine jl_cons ?_
    refine j_b1 ?_
    refine j_var (i := 1) rfl ?_
    refine j_lift w_lenL ?_
    refine jl_nil ?_
    refine j_val rfl ?_
    refine j_liftG (g := b62 (left.length : Int) && szOk ((left.length : Int)).toNat) (fun g => w_listR1 g) ?_
    exact j_ret (.inl rfl)
  · refine k_skip ?_
    refine k_ret ?_
    refine j_comp ?_
    refine j_itE ?_
    refine j_var (i := 1) rfl ?_
    refine j_lift w_enumL ?_
    refine j_compE (eb := D.int) tg_two ?_ ?_ ?_
    · intro at_1
      refine re_of ?_
      refine j_op2 ?_
      refine j_op2 ?_
      refine j_idx ?_
      refine j_var (i := 0) rfl ?_
      refine j_neg ?_
      refine j_cI ?_
      refine j_lift (d := .int (-(1 : Int))) rfl ?_
      refine j_ix (en := eD) w_id ?_
      intro v2
      refine j_var (i := 4) rfl ?_
      refine j_liftO (en := D.bl) w_bl ?_
      intro x3
      refine j_op2 ?_
      refine j_op2 ?_
      refine j_var (i := 2) rfl ?_
      refine j_cI ?_
      refine j_lift (w_mod (by decide)) ?_
      refine j_cI ?_
      refine j_lift (w_eq (e := D.int) (x := (place % (2 : Int))) (y := (0 : Int))) ?_
      refine j_lift (w_eq (e := D.bl) (x := x3) (y := ((place % (2 : Int)) == (0 : Int)))) ?_
      exact j_ret rfl
    · intro at_1
      refine re_of ?_
      refine j_var (i := 3) rfl ?_
      exact j_ret rfl
    intro l4
    exact j_ret (.inl rfl)
theorem q_turns_of (n : Nat) (size : Int) : FE (callN Φ (n + 1) 6 [D.int size]) (p_turns_of size) (eL D.int) := by
  refine fe_run (n := n + 0) (F := F_turns_of) rfl rfl rfl (Γ := [some (D.int size)]) rfl ?_
  unfold p_turns_of
  dsimp only [F_turns_of]
  refine k_ret ?_
  refine j_b1 ?_
  refine j_tup ?_
  refine jl_cons ?_
  refine j_cI ?_
  refine jl_cons ?_
  refine j_var (i := 0) rfl ?_
  refine jl_cons ?_
  refine j_cI ?_
  refine jl_nil ?_
  refine j_val rfl ?_
  refine j_liftG (g := rg3Ok' (2 : Int) size (2 : Int)) (fun g => w_listR3 g) ?_
  exact j_ret (.inl rfl)
theorem q_zigzag_at (n : Nat) (size : Int) (number : Int) : FE (callN Φ (n + 2) 7 [D.int size, D.int number]) (p_zigzag_at size number) (eT D.int) := by
  refine fe_run (n := n + 1) (F := F_zigzag_at) rfl rfl rfl (Γ := [some (D.int size), some (D.int number), none, none, none, none, none]) rfl ?_
  unfold p_zigzag_at
  dsimp only [F_zigzag_at]
  refine k_seq ?_
  refine k_par ?_
  refine jl_cons ?_
  refine j_call ?_
  refine jl_cons ?_
  refine j_var (i := 0) rfl ?_
  refine jl_cons ?_
  refine j_call ?_
  refine jl_cons ?_
  refine j_var (i := 0) rfl ?_
  refine jl_nil ?_
  refine j_fe (q_turns_of (n + 0) _) ?_
  intro r1
  refine jl_nil ?_
  refine j_fe (q_ends_by (n + 0) _ _) ?_
  intro r2
  refine jl_cons ?_
  refine j_lst ?_
  refine jl_nil ?_
  refine j_val (d := eL D.int []) rfl ?_
  refine jl_cons ?_
  refine j_b1 ?_
  refine j_tup ?_
  refine jl_cons ?_
  refine j_var (i := 0) rfl ?_
  refine jl_nil ?_
  refine j_val rfl ?_
  refine j_liftG (g := b62 size && szOk (size).toNat) (fun g => w_listR1 g) ?_
  refine jl_nil ?_
  refine k_par3 (e1 := (eL (eL D.int))) (e2 := (eL D.int)) (e3 := (eL D.int)) (v1 := r2) (v2 := ([] : List Int)) (v3 := (rgI 0 (size).toNat)) rfl ?_
  intro ends_3
  intro row_4
  intro left_5
  change J [some (D.int size), some (D.int number), some ((eL (eL D.int)) ends_3), some ((eL D.int) row_4), some ((eL D.int) left_5), none, none] _ _ _
  refine k_seq ?_
  refine k_for ?_
  refine j_itR ?_
  refine jl_cons ?_
  refine j_var (i := 0) rfl ?_
  refine jl_nil ?_
  refine j_liftG (g := b62 size) (fun g => w_range1 g) ?_
  refine k_forV (Γl := fun (s6 : (Int × (List Int) × (List Int))) => [some (D.int size), some (D.int s6.1), some ((eL (eL D.int)) ends_3), some ((eL D.int) s6.2.1), some ((eL D.int) s6.2.2), none, none]) (s0 := (number, row_4, left_5)) (f := (p_zigzag_at_b2 ends_3)) (by exact (Le.some _ (Le.some _ (Le.some _ (Le.some _ (Le.some _ (Le.none _ (Le.none _ Le.nil)))))))) (fun _ => tg_one) ?_ ?_
  · intro s6 place_7
    change J [some (D.int size), some (D.int s6.1), some ((eL (eL D.int)) ends_3), some ((eL D.int) s6.2.1), some ((eL D.int) s6.2.2), some (D.int place_7), none] _ _ _
    unfold p_zigzag_at_b2
    refine k_seq ?_
    refine k_for ?_
    refine j_itV ?_
    refine j_callF ?_
    refine jl_cons ?_
    refine j_var (i := 3) rfl ?_
    refine jl_cons ?_
    refine j_var (i := 4) rfl ?_
    refine jl_cons ?_
    refine j_var (i := 5) rfl ?_
    refine jl_nil ?_
    refine j_fe (q_able_from (n + 0) _ _ _) ?_
    intro r8
    refine j_noL1 (noL1_eL (e := D.int) r8) ?_
    refine j_lift (d := eL D.int r8) rfl ?_
    refine k_forR (Γl := fun (s9 : (Int × (List Int) × (List Int))) => [some (D.int size), some (D.int s9.1), some ((eL (eL D.int)) ends_3), some ((eL D.int) s9.2.1), some ((eL D.int) s9.2.2), some (D.int place_7), none]) (s0 := (s6.1, s6.2.1, s6.2.2)) (f := (p_zigzag_at_b1 ends_3 place_7)) (g := Empty.elim) (er := Empty.elim) (by exact (Le.some _ (Le.some _ (Le.some _ (Le.some _ (Le.some _ (Le.some _ (Le.none _ Le.nil)))))))) (fun _ => tg_one) ?_ (fun v => v.elim) ?_
    · intro s9 at_10
      change J [some (D.int size), some (D.int s9.1), some ((eL (eL D.int)) ends_3), some ((eL D.int) s9.2.1), some ((eL D.int) s9.2.2), some (D.int place_7), some (D.int at_10)] _ _ _
      unfold p_zigzag_at_b1
      refine k_seq ?_
      refine k_ite ?_
      refine j_op2 ?_
      refine j_var (i := 1) rfl ?_
      refine j_idx ?_
      refine j_idx ?_
      refine j_var (i := 2) rfl ?_
      refine j_var (i := 5) rfl ?_
      refine j_ix (en := (eL D.int)) w_idxL ?_
      intro v11
      refine j_var (i := 6) rfl ?_
      refine j_ix (en := D.int) w_idxL ?_
      intro v12
      refine j_lift rfl ?_
      refine k_iteV ?_ ?_
      · refine k_seq ?_
        refine k_popAE ?_
        refine j_var (i := 6) rfl ?_
        refine k_popAV (en := D.int) (xs := s9.2.2) (ys := s9.2.1) rfl rfl ?_
        intro left_14 row_15
        change J [some (D.int size), some (D.int s9.1), some ((eL (eL D.int)) ends_3), some ((eL D.int) row_15), some ((eL D.int) left_14), some (D.int place_7), some (D.int at_10)] _ _ _
        exact k_brkL (by exact (Le.some _ (Le.some _ (Le.some _ (Le.some _ (Le.some _ (Le.some _ (Le.none _ Le.nil))))))))
      · refine k_skip ?_
        refine k_seq ?_
        refine k_asg ?_
        refine j_op2 ?_
        refine j_var (i := 1) rfl ?_
        refine j_idx ?_
        refine j_idx ?_
        refine j_var (i := 2) rfl ?_
        refine j_var (i := 5) rfl ?_
        refine j_ix (en := (eL D.int)) w_idxL ?_
        intro v16
        refine j_var (i := 6) rfl ?_
        refine j_ix (en := D.int) w_idxL ?_
        intro v17
        refine j_lift rfl ?_
        refine k_setL (en := D.int) (v := (s9.1 - v17)) ?_
        intro number_18
        change J [some (D.int size), some (D.int number_18), some ((eL (eL D.int)) ends_3), some ((eL D.int) s9.2.1), some ((eL D.int) s9.2.2), some (D.int place_7), some (D.int at_10)] _ _ _
        refine k_skip ?_
        exact k_nilL (by exact (Le.some _ (Le.some _ (Le.some _ (Le.some _ (Le.some _ (Le.some _ (Le.none _ Le.nil))))))))
    intro s9
    change J [some (D.int size), some (D.int s9.1), some ((eL (eL D.int)) ends_3), some ((eL D.int) s9.2.1), some ((eL D.int) s9.2.2), some (D.int place_7), none] _ _ _
    refine k_skip ?_
    exact k_nilN (by exact (Le.some _ (Le.some _ (Le.some _ (Le.some _ (Le.some _ (Le.none _ (Le.none _ Le.nil))))))))
  intro s6
  change J [some (D.int size), some (D.int s6.1), some ((eL (eL D.int)) ends_3), some ((eL D.int) s6.2.1), some ((eL D.int) s6.2.2), none, none] _ _ _
  refine k_ret ?_
  refine j_b1 ?_
  refine j_var (i := 3) rfl ?_
  refine j_lift (d := (eT D.int) s6.2.1) rfl ?_
  exact j_ret (.inl rfl)
theorem q_firsts_in (n : Nat) (size : Int) : FE (callN Φ (n + 2) 8 [D.int size]) (p_firsts_in size) (eL D.int) := by
  refine fe_run (n := n + 1) (F := F_firsts_in) rfl rfl rfl (Γ := [some (D.int size)]) rfl ?_
  unfold p_firsts_in
  dsimp only [F_firsts_in]
  refine k_ret ?_
  refine j_iteE (en := (eL D.int)) (re_of ?_) (re_of ?_) (re_of ?_) ?_
  · refine j_op2 ?_
    refine j_var (i := 0) rfl ?_
    refine j_cI ?_
    refine j_lift rfl ?_
    exact j_ret rfl
  · refine j_idx ?_
    refine j_call ?_
    refine jl_cons ?_
    refine j_var (i := 0) rfl ?_
    refine jl_cons ?_
    refine j_call ?_
    refine jl_cons ?_
    refine j_var (i := 0) rfl ?_
    refine jl_nil ?_
    refine j_fe (q_turns_of (n + 0) _) ?_
    intro r1
    refine jl_nil ?_
    refine j_fe (q_ends_by (n + 0) _ _) ?_
    intro r2
    refine j_cI ?_
    refine j_ix (en := (eL D.int)) w_idxL ?_
    intro v3
    exact j_ret rfl
  · refine j_lst ?_
    refine jl_nil ?_
    refine j_val (d := eL D.int []) rfl ?_
    exact j_ret rfl
  intro y4
  exact j_ret (.inl rfl)
theorem q_count_in (n : Nat) (size : Int) : FE (callN Φ (n + 3) 9 [D.int size]) (p_count_in size) D.int := by
  refine fe_run (n := n + 2) (F := F_count_in) rfl rfl rfl (Γ := [some (D.int size)]) rfl ?_
  unfold p_count_in
  dsimp only [F_count_in]
  refine k_ret ?_
  refine j_iteE (en := D.int) (re_of ?_) (re_of ?_) (re_of ?_) ?_
  · refine j_op2 ?_
    refine j_var (i := 0) rfl ?_
    refine j_cI ?_
    refine j_lift rfl ?_
    exact j_ret rfl
  · refine j_b1 ?_
    refine j_call ?_
    refine jl_cons ?_
    refine j_var (i := 0) rfl ?_
    refine jl_nil ?_
    refine j_fe (q_firsts_in (n + 0) _) ?_
    intro r1
    refine j_lift w_sumL ?_
    exact j_ret rfl
  · refine j_cI ?_
    exact j_ret rfl
  intro y2
  exact j_ret (.inl rfl)
theorem q_zigzag_with (n : Nat) (size : Int) (number : Int) : FE (callN Φ (n + 4) 10 [D.int size, D.int number]) (p_zigzag_with size number) (eT D.int) := by
  refine fe_run (n := n + 3) (F := F_zigzag_with) rfl rfl rfl (Γ := [some (D.int size), some (D.int number)]) rfl ?_
  unfold p_zigzag_with
  dsimp only [F_zigzag_with]
  refine k_seq ?_
  refine k_exp ?_
  refine j_call ?_
  refine jl_cons ?_
  refine j_var (i := 0) rfl ?_
  refine jl_cons ?_
  refine j_cI ?_
  refine jl_cons ?_
  refine j_cI ?_
  refine jl_nil ?_
  refine j_fe (q_need_whole (n + 0) _ _ _) ?_
  intro r1
  refine k_seq ?_
  refine k_exp ?_
  refine j_call ?_
  refine jl_cons ?_
  refine j_var (i := 1) rfl ?_
  refine jl_cons ?_
  refine j_cI ?_
  refine jl_cons ?_
  refine j_op2 ?_
  refine j_call ?_
  refine jl_cons ?_
  refine j_var (i := 0) rfl ?_
  refine jl_nil ?_
  refine j_fe (q_count_in (n + 0) _) ?_
  intro r2
  refine j_cI ?_
  refine j_lift rfl ?_
  refine jl_nil ?_
  refine j_fe (q_need_whole (n + 0) _ _ _) ?_
  intro r3
  refine k_ret ?_
  refine j_call ?_
  refine jl_cons ?_
  refine j_var (i := 0) rfl ?_
  refine jl_cons ?_
  refine j_var (i := 1) rfl ?_
  refine jl_nil ?_
  refine j_fe (q_zigzag_at (n + 1) _ _) ?_
  intro r4
  exact j_ret (.inl rfl)
theorem q__law_orders (n : Nat) (many : Int) : FE (callN Φ (n + 1) 13 [D.int many]) (p__law_orders many) (eL (eT D.int)) := by
  refine fe_run (n := n + 0) (F := F__law_orders) rfl rfl rfl (Γ := [some (D.int many), none, none, none, none, none]) rfl ?_
  unfold p__law_orders
  dsimp only [F__law_orders]
  refine k_seq ?_
  refine k_asg ?_
  refine j_lst ?_
  refine jl_cons ?_
  refine j_tup ?_
  refine jl_nil ?_
  refine j_val (d := (eT D.int) []) rfl ?_
  refine jl_nil ?_
  refine j_val (d := eL (eT D.int) [([] : (List Int))]) rfl ?_
  refine k_setL (en := (eL (eT D.int))) (v := [([] : (List Int))]) ?_
  intro found_1
  change J [some (D.int many), some ((eL (eT D.int)) found_1), none, none, none, none] _ _ _
  refine k_seq ?_
  refine k_for ?_
  refine j_itR ?_
  refine jl_cons ?_
  refine j_var (i := 0) rfl ?_
  refine jl_nil ?_
  refine j_liftG (g := b62 many) (fun g => w_range1 g) ?_
  refine k_forV (Γl := fun (s2 : (List (List Int))) => [some (D.int many), some ((eL (eT D.int)) s2), none, none, none, none]) (s0 := found_1) (f := (p__law_orders_b2 many)) (by exact (Le.some _ (Le.some _ (Le.none _ (Le.none _ (Le.none _ (Le.none _ Le.nil))))))) (fun _ => tg_one) ?_ ?_
  · intro s2 turn_3
    change J [some (D.int many), some ((eL (eT D.int)) s2), some (D.int turn_3), none, none, none] _ _ _
    unfold p__law_orders_b2
    refine k_seq ?_
    refine k_asg ?_
    refine j_lst ?_
    refine jl_nil ?_
    refine j_val (d := eL (eT D.int) []) rfl ?_
    refine k_setL (en := (eL (eT D.int))) (v := ([] : List (List Int))) ?_
    intro longer_4
    change J [some (D.int many), some ((eL (eT D.int)) s2), some (D.int turn_3), some ((eL (eT D.int)) longer_4), none, none] _ _ _
    refine k_seq ?_
    refine k_for ?_
    refine j_itV ?_
    refine j_var (i := 1) rfl ?_
    refine j_lift (d := eL (eT D.int) s2) rfl ?_
    refine k_forV (Γl := fun (s5 : (List (List Int))) => [some (D.int many), some ((eL (eT D.int)) s2), some (D.int turn_3), some ((eL (eT D.int)) s5), none, none]) (s0 := longer_4) (f := (p__law_orders_b1 many)) (by exact (Le.some _ (Le.some _ (Le.some _ (Le.some _ (Le.none _ (Le.none _ Le.nil))))))) (fun _ => tg_one) ?_ ?_
    · intro s5 some_6
      change J [some (D.int many), some ((eL (eT D.int)) s2), some (D.int turn_3), some ((eL (eT D.int)) s5), some ((eT D.int) some_6), none] _ _ _
      unfold p__law_orders_b1
      refine k_seq ?_
      refine k_asg ?_
      refine j_op2 ?_
      refine j_var (i := 3) rfl ?_
      refine j_comp ?_
      refine j_itR ?_
      refine jl_cons ?_
      refine j_var (i := 0) rfl ?_
      refine jl_nil ?_
      refine j_liftG (g := b62 many) (fun g => w_range1 g) ?_
      refine j_compE (eb := (eT D.int)) tg_one ?_ ?_ ?_
      · intro value_7
        refine re_of ?_
        refine j_op2 ?_
        refine j_var (i := 5) rfl ?_
        refine j_var (i := 4) rfl ?_
        refine j_lift (w_notInT (e := D.int) (x := value_7) (xs := some_6)) ?_
        exact j_ret rfl
      · intro value_7
        refine re_of ?_
        refine j_op2 ?_
        refine j_var (i := 4) rfl ?_
        refine j_tup ?_
        refine jl_cons ?_
        refine j_var (i := 5) rfl ?_
        refine jl_nil ?_
        refine j_val (d := (eT D.int) [value_7]) rfl ?_
        refine j_liftG (g := szOk (some_6.length + [value_7].length)) (fun g => w_catT g) ?_
        exact j_ret rfl
      intro l8
      refine j_liftG (g := szOk (s5.length + l8.length)) (fun g => w_catL g) ?_
      refine k_setL (en := (eL (eT D.int))) (v := (s5 ++ l8)) ?_
      intro longer_9
      change J [some (D.int many), some ((eL (eT D.int)) s2), some (D.int turn_3), some ((eL (eT D.int)) longer_9), some ((eT D.int) some_6), none] _ _ _
      refine k_skip ?_
      exact k_nilN (by exact (Le.some _ (Le.some _ (Le.some _ (Le.some _ (Le.none _ (Le.none _ Le.nil)))))))
    intro s5
    change J [some (D.int many), some ((eL (eT D.int)) s2), some (D.int turn_3), some ((eL (eT D.int)) s5), none, none] _ _ _
    refine k_seq ?_
    refine k_asg ?_
    refine j_var (i := 3) rfl ?_
    refine k_set ?_
    change J [some (D.int many), some ((eL (eT D.int)) s5), some (D.int turn_3), some ((eL (eT D.int)) s5), none, none] _ _ _
    refine k_skip ?_
    exact k_nilN (by exact (Le.some _ (Le.some _ (Le.none _ (Le.none _ (Le.none _ (Le.none _ Le.nil)))))))
  intro s2
  change J [some (D.int many), some ((eL (eT D.int)) s2), none, none, none, none] _ _ _
  refine k_ret ?_
  refine j_var (i := 1) rfl ?_
  exact j_ret (.inl rfl)
theorem q__law_falls (n : Nat) (row : (List Int)) : FE (callN Φ (n + 1) 14 [(eT D.int) row]) (p__law_falls row) (eT D.int) := by
  refine fe_run (n := n + 0) (F := F__law_falls) rfl rfl rfl (Γ := [some ((eT D.int) row), none]) rfl ?_
  unfold p__law_falls
  dsimp only [F__law_falls]
  refine k_ret ?_
  refine j_b1 ?_
  refine j_comp ?_
  refine j_itR ?_
  refine jl_cons ?_
  refine j_cI ?_
  refine jl_cons ?_
  refine j_b1 ?_
  refine j_var (i := 0) rfl ?_
  refine j_lift w_lenT ?_
  refine jl_nil ?_
  refine j_liftG (g := b62 (1 : Int) && b62 (row.length : Int)) (fun g => w_range2 g) ?_
  refine j_compE (eb := D.int) tg_one ?_ ?_ ?_
  · intro place_1
    refine re_of ?_
    refine j_op2 ?_
    refine j_idx ?_
    refine j_var (i := 0) rfl ?_
    refine j_var (i := 1) rfl ?_
    refine j_ix (en := D.int) w_idxT ?_
    intro v2
    refine j_idx ?_
    refine j_var (i := 0) rfl ?_
    refine j_op2 ?_
    refine j_var (i := 1) rfl ?_
    refine j_cI ?_
    refine j_lift rfl ?_
    refine j_ix (en := D.int) w_idxT ?_
    intro v3
    refine j_lift rfl ?_
    exact j_ret rfl
  · intro place_1
    refine re_of ?_
    refine j_var (i := 1) rfl ?_
    exact j_ret rfl
  intro l4
  refine j_lift (d := (eT D.int) l4) rfl ?_
  exact j_ret (.inl rfl)
theorem q__law_is_zigzag (n : Nat) (order : (List Int)) : FE (callN Φ (n + 2) 15 [(eT D.int) order]) (p__law_is_zigzag order) D.bl := by
  refine fe_run (n := n + 1) (F := F__law_is_zigzag) rfl rfl rfl (Γ := [some ((eT D.int) order)]) rfl ?_
  unfold p__law_is_zigzag
  dsimp only [F__law_is_zigzag]
  refine k_ret ?_
  refine j_op2 ?_
  refine j_call ?_
  refine jl_cons ?_
  refine j_var (i := 0) rfl ?_
  refine jl_nil ?_
  refine j_fe (q__law_falls (n + 0) _) ?_
  intro r1
  refine j_b1 ?_
  refine j_tup ?_
  refine jl_cons ?_
  refine j_cI ?_
  refine jl_cons ?_
  refine j_b1 ?_
  refine j_var (i := 0) rfl ?_
  refine j_lift w_lenT ?_
  refine jl_cons ?_
  refine j_cI ?_
  refine jl_nil ?_
  refine j_val rfl ?_
  refine j_liftG (g := rg3Ok' (2 : Int) (order.length : Int) (2 : Int)) (fun g => w_tupleR3 g) ?_
  refine j_lift (w_eq (e := (eT D.int)) (x := r1) (y := (rgS (2 : Int) (2 : Int) (rgN (2 : Int) (order.length : Int) (2 : Int)).toNat))) ?_
  exact j_ret (.inl rfl)
theorem q_count_zigzags (n : Nat) (size : Int) : FE (callN Φ (n + 4) 16 [D.int size]) (p_count_zigzags size) D.int := by
  refine fe_run (n := n + 3) (F := F_count_zigzags) rfl rfl rfl (Γ := [some (D.int size)]) rfl ?_
  unfold p_count_zigzags
  dsimp only [F_count_zigzags]
  refine k_seq ?_
  refine k_exp ?_
  refine j_call ?_
  refine jl_cons ?_
  refine j_var (i := 0) rfl ?_
  refine jl_cons ?_
  refine j_cI ?_
  refine jl_cons ?_
  refine j_cI ?_
  refine jl_nil ?_
  refine j_fe (q_need_whole (n + 0) _ _ _) ?_
  intro r1
  refine k_ret ?_
  refine j_call ?_
  refine jl_cons ?_
  refine j_var (i := 0) rfl ?_
  refine jl_nil ?_
  refine j_fe (q_count_in (n + 0) _) ?_
  intro r2
  exact j_ret (.inl rfl)
theorem q_fits_order (n : Nat) (value : D) : FE (callN Φ (n + 3) 18 [eD value]) (p_fits_order value) D.bl := by
  refine fe_run (n := n + 2) (F := F_fits_order) rfl rfl rfl (Γ := [some (eD value), none]) rfl ?_
  unfold p_fits_order
  dsimp only [F_fits_order]
  refine k_seq ?_
  refine k_ite ?_
  refine j_orE (re_of ?_) (re_of ?_) ?_
  · refine j_not ?_
    refine j_call ?_
    refine jl_cons ?_
    refine j_var (i := 0) rfl ?_
    refine jl_cons ?_
    refine j_cI ?_
    refine jl_cons ?_
    refine j_cI ?_
    refine jl_nil ?_
    refine j_fe (q_is_tuple_of (n + 1) _ _ _) ?_
    intro r1
    refine j_lift (d := .bl (!r1)) rfl ?_
    exact j_ret rfl
  · refine j_not ?_
    refine j_b1 ?_
    refine j_comp ?_
    refine j_itV ?_
    refine j_var (i := 0) rfl ?_
    refine j_liftO (en := (eL eD)) w_seqV ?_
    intro x2
    refine j_compEM (eb := D.bl) tg_one ?_ ?_
    · intro one_3
      refine re_of ?_
      refine j_call ?_
      refine jl_cons ?_
      refine j_var (i := 1) rfl ?_
      refine jl_cons ?_
      refine j_cI ?_
      refine jl_cons ?_
      refine j_op2 ?_
      refine j_b1 ?_
      refine j_var (i := 0) rfl ?_
      refine j_liftO (en := D.int) w_int ?_
      intro x4
      refine j_cI ?_
      refine j_lift rfl ?_
      refine jl_nil ?_
      refine j_fe (q_is_whole (n + 0) _ _ _) ?_
      intro r5
      exact j_ret rfl
    intro l6
    refine j_lift w_all ?_
    refine j_lift (d := .bl (!(l6.all id))) rfl ?_
    exact j_ret rfl
  intro b7
  refine k_iteV ?_ ?_
  · refine k_ret ?_
    refine j_cB ?_
    exact j_ret (.inl rfl)
  · refine k_skip ?_
    refine k_ret ?_
    refine j_op2 ?_
    refine j_b1 ?_
    refine j_var (i := 0) rfl ?_
    refine j_liftO (en := (eL D.int)) w_ints ?_
    intro x8
    refine j_b1 ?_
    refine j_tup ?_
    refine jl_cons ?_
    refine j_b1 ?_
    refine j_var (i := 0) rfl ?_
    refine j_liftO (en := D.int) w_int ?_
    intro x9
    refine jl_nil ?_
    refine j_val rfl ?_
    refine j_liftG (g := b62 x9 && szOk (x9).toNat) (fun g => w_listR1 g) ?_
    refine j_lift (w_eq (e := (eL D.int)) (x := x8) (y := (rgI 0 (x9).toNat))) ?_
    exact j_ret (.inl rfl)
theorem q_need_order (n : Nat) (value : D) : FE (callN Φ (n + 4) 19 [eD value]) (p_need_order value) eN := by
  refine fe_run (n := n + 3) (F := F_need_order) rfl rfl rfl (Γ := [some (eD value)]) rfl ?_
  unfold p_need_order
  dsimp only [F_need_order]
  refine k_seq ?_
  refine k_ite ?_
  refine j_not ?_
  refine j_call ?_
  refine jl_cons ?_
  refine j_var (i := 0) rfl ?_
  refine jl_nil ?_
  refine j_fe (q_fits_order (n + 0) _) ?_
  intro r1
  refine j_lift (d := .bl (!r1)) rfl ?_
  refine k_iteV ?_ ?_
  · exact k_raise
  · refine k_skip ?_
    refine k_skip ?_
    exact k_nilF
theorem q_falls_in (n : Nat) (order : (List Int)) : FE (callN Φ (n + 1) 20 [(eT D.int) order]) (p_falls_in order) (eL D.int) := by
  refine fe_run (n := n + 0) (F := F_falls_in) rfl rfl rfl (Γ := [some ((eT D.int) order), none]) rfl ?_
  unfold p_falls_in
  dsimp only [F_falls_in]
  refine k_ret ?_
  refine j_comp ?_
  refine j_itR ?_
  refine jl_cons ?_
  refine j_cI ?_
  refine jl_cons ?_
  refine j_b1 ?_
  refine j_var (i := 0) rfl ?_
  refine j_lift w_lenT ?_
  refine jl_nil ?_
  refine j_liftG (g := b62 (1 : Int) && b62 (order.length : Int)) (fun g => w_range2 g) ?_
  refine j_compE (eb := D.int) tg_one ?_ ?_ ?_
  · intro place_1
    refine re_of ?_
    refine j_op2 ?_
    refine j_idx ?_
    refine j_var (i := 0) rfl ?_
    refine j_op2 ?_
    refine j_var (i := 1) rfl ?_
    refine j_cI ?_
    refine j_lift rfl ?_
    refine j_ix (en := D.int) w_idxT ?_
    intro v2
    refine j_idx ?_
    refine j_var (i := 0) rfl ?_
    refine j_var (i := 1) rfl ?_
    refine j_ix (en := D.int) w_idxT ?_
    intro v3
    refine j_lift rfl ?_
    exact j_ret rfl
  · intro place_1
    refine re_of ?_
    refine j_var (i := 1) rfl ?_
    exact j_ret rfl
  intro l4
  exact j_ret (.inl rfl)
theorem q_is_zigzag_in (n : Nat) (order : (List Int)) : FE (callN Φ (n + 2) 21 [(eT D.int) order]) (p_is_zigzag_in order) D.bl := by
  refine fe_run (n := n + 1) (F := F_is_zigzag_in) rfl rfl rfl (Γ := [some ((eT D.int) order)]) rfl ?_
  unfold p_is_zigzag_in
  dsimp only [F_is_zigzag_in]
  refine k_ret ?_
  refine j_op2 ?_
  refine j_call ?_
  refine jl_cons ?_
  refine j_var (i := 0) rfl ?_
  refine jl_nil ?_
  refine j_fe (q_falls_in (n + 0) _) ?_
  intro r1
  refine j_call ?_
  refine jl_cons ?_
  refine j_b1 ?_
  refine j_var (i := 0) rfl ?_
  refine j_lift w_lenT ?_
  refine jl_nil ?_
  refine j_fe (q_turns_of (n + 0) _) ?_
  intro r2
  refine j_lift (w_eq (e := (eL D.int)) (x := r1) (y := r2)) ?_
  exact j_ret (.inl rfl)
theorem q_number_in (n : Nat) (order : (List Int)) : FE (callN Φ (n + 2) 22 [(eT D.int) order]) (p_number_in order) D.int := by
  refine fe_run (n := n + 1) (F := F_number_in) rfl rfl rfl (Γ := [some ((eT D.int) order), none, none, none, none, none, none]) rfl ?_
  unfold p_number_in
  dsimp only [F_number_in]
  refine k_seq ?_
  refine k_par ?_
  refine jl_cons ?_
  refine j_call ?_
  refine jl_cons ?_
  refine j_b1 ?_
  refine j_var (i := 0) rfl ?_
  refine j_lift w_lenT ?_
  refine jl_cons ?_
  refine j_call ?_
  refine jl_cons ?_
  refine j_b1 ?_
  refine j_var (i := 0) rfl ?_
  refine j_lift w_lenT ?_
  refine jl_nil ?_
  refine j_fe (q_turns_of (n + 0) _) ?_
  intro r1
  refine jl_nil ?_
  refine j_fe (q_ends_by (n + 0) _ _) ?_
  intro r2
  refine jl_cons ?_
  refine j_cI ?_
  refine jl_cons ?_
  refine j_b1 ?_
  refine j_tup ?_
  refine jl_cons ?_
  refine j_b1 ?_
  refine j_var (i := 0) rfl ?_
  refine j_lift w_lenT ?_
  refine jl_nil ?_
  refine j_val rfl ?_
  refine j_liftG (g := b62 (order.length : Int) && szOk ((order.length : Int)).toNat) (fun g => w_listR1 g) ?_
  refine jl_nil ?_
  refine k_par3 (e1 := (eL (eL D.int))) (e2 := D.int) (e3 := (eL D.int)) (v1 := r2) (v2 := (0 : Int)) (v3 := (rgI 0 ((order.length : Int)).toNat)) rfl ?_
  intro ends_3
  intro found_4
  intro left_5
  change J [some ((eT D.int) order), some ((eL (eL D.int)) ends_3), some (D.int found_4), some ((eL D.int) left_5), none, none, none] _ _ _
  refine k_seq ?_
  refine k_for ?_
  refine j_itE ?_
  refine j_var (i := 0) rfl ?_
  refine j_lift w_enumT ?_
  refine k_forV (Γl := fun (s6 : (Int × (List Int))) => [some ((eT D.int) order), some ((eL (eL D.int)) ends_3), some (D.int s6.1), some ((eL D.int) s6.2), none, none, none]) (s0 := (found_4, left_5)) (f := (p_number_in_b2 order ends_3)) (by exact (Le.some _ (Le.some _ (Le.some _ (Le.some _ (Le.none _ (Le.none _ (Le.none _ Le.nil)))))))) (fun _ => tg_two) ?_ ?_
  · intro s6 place_7
    change J [some ((eT D.int) order), some ((eL (eL D.int)) ends_3), some (D.int s6.1), some ((eL D.int) s6.2), some (D.int place_7.1), some (D.int place_7.2), none] _ _ _
    unfold p_number_in_b2
    refine k_seq ?_
    refine k_for ?_
    refine j_itV ?_
    refine j_callF ?_
    refine jl_cons ?_
    refine j_slc ?_
    refine j_var (i := 0) rfl ?_
    refine j_cN ?_
    refine j_var (i := 4) rfl ?_
    refine j_lift (w_slcT (lo := none) (hi := (some place_7.1)) rfl rfl) ?_
    refine jl_cons ?_
    refine j_var (i := 3) rfl ?_
    refine jl_cons ?_
    refine j_var (i := 4) rfl ?_
    refine jl_nil ?_
    refine j_fe (q_able_from (n + 0) _ _ _) ?_
    intro r8
    refine j_noL1 (noL1_eL (e := D.int) r8) ?_
    refine j_lift (d := eL D.int r8) rfl ?_
    refine k_forV (Γl := fun (s9 : Int) => [some ((eT D.int) order), some ((eL (eL D.int)) ends_3), some (D.int s9), some ((eL D.int) s6.2), some (D.int place_7.1), some (D.int place_7.2), none]) (s0 := s6.1) (f := (p_number_in_b1 ends_3 s6 place_7)) (by exact (Le.some _ (Le.some _ (Le.some _ (Le.some _ (Le.some _ (Le.some _ (Le.none _ Le.nil)))))))) (fun _ => tg_one) ?_ ?_
    · intro s9 at_10
      change J [some ((eT D.int) order), some ((eL (eL D.int)) ends_3), some (D.int s9), some ((eL D.int) s6.2), some (D.int place_7.1), some (D.int place_7.2), some (D.int at_10)] _ _ _
      unfold p_number_in_b1
      refine k_seq ?_
      refine k_ite ?_
      refine j_op2 ?_
      refine j_idx ?_
      refine j_var (i := 3) rfl ?_
      refine j_var (i := 6) rfl ?_
      refine j_ix (en := D.int) w_idxL ?_
      intro v11
      refine j_var (i := 5) rfl ?_
      refine j_lift rfl ?_
      refine k_iteJ (Γl := fun (s12 : Int) => [some ((eT D.int) order), some ((eL (eL D.int)) ends_3), some (D.int s12), some ((eL D.int) s6.2), some (D.int place_7.1), some (D.int place_7.2), some (D.int at_10)]) ?_ ?_ ?_
      · refine k_seq ?_
        refine k_asg ?_
        refine j_op2 ?_
        refine j_var (i := 2) rfl ?_
        refine j_idx ?_
        refine j_idx ?_
        refine j_var (i := 1) rfl ?_
        refine j_var (i := 4) rfl ?_
        refine j_ix (en := (eL D.int)) w_idxL ?_
        intro v13
        refine j_var (i := 6) rfl ?_
        refine j_ix (en := D.int) w_idxL ?_
        intro v14
        refine j_lift rfl ?_
        refine k_setL (en := D.int) (v := (s9 + v14)) ?_
        intro found_15
        change J [some ((eT D.int) order), some ((eL (eL D.int)) ends_3), some (D.int found_15), some ((eL D.int) s6.2), some (D.int place_7.1), some (D.int place_7.2), some (D.int at_10)] _ _ _
        refine k_skip ?_
        exact k_nilN (by exact (Le.some _ (Le.some _ (Le.some _ (Le.some _ (Le.some _ (Le.some _ (Le.some _ Le.nil))))))))
      · refine k_skip ?_
        exact k_nilN (by exact (Le.some _ (Le.some _ (Le.some _ (Le.some _ (Le.some _ (Le.some _ (Le.some _ Le.nil))))))))
      intro s12
      change J [some ((eT D.int) order), some ((eL (eL D.int)) ends_3), some (D.int s12), some ((eL D.int) s6.2), some (D.int place_7.1), some (D.int place_7.2), some (D.int at_10)] _ _ _
      refine k_skip ?_
      exact k_nilN (by exact (Le.some _ (Le.some _ (Le.some _ (Le.some _ (Le.some _ (Le.some _ (Le.none _ Le.nil))))))))
    intro s9
    change J [some ((eT D.int) order), some ((eL (eL D.int)) ends_3), some (D.int s9), some ((eL D.int) s6.2), some (D.int place_7.1), some (D.int place_7.2), none] _ _ _
    refine k_seq ?_
    refine k_rem ?_
    refine j_var (i := 5) rfl ?_
    refine k_remV (xs := s6.2) (k := place_7.2) rfl ?_
    intro left_16
    change J [some ((eT D.int) order), some ((eL (eL D.int)) ends_3), some (D.int s9), some ((eL D.int) left_16), some (D.int place_7.1), some (D.int place_7.2), none] _ _ _
    refine k_skip ?_
    exact k_nilN (by exact (Le.some _ (Le.some _ (Le.some _ (Le.some _ (Le.none _ (Le.none _ (Le.none _ Le.nil))))))))
  intro s6
  change J [some ((eT D.int) order), some ((eL (eL D.int)) ends_3), some (D.int s6.1), some ((eL D.int) s6.2), none, none, none] _ _ _
  refine k_ret ?_
  refine j_var (i := 2) rfl ?_
  exact j_ret (.inl rfl)
theorem q_number_of_zigzag (n : Nat) (order : (List Int)) : FE (callN Φ (n + 5) 23 [(eT D.int) order]) (p_number_of_zigzag order) D.int := by
  refine fe_run (n := n + 4) (F := F_number_of_zigzag) rfl rfl rfl (Γ := [some ((eT D.int) order)]) rfl ?_
  unfold p_number_of_zigzag
  dsimp only [F_number_of_zigzag]
  refine k_seq ?_
  refine k_exp ?_
  refine j_call ?_
  refine jl_cons ?_
  refine j_var (i := 0) rfl ?_
  refine jl_nil ?_
  refine j_fe (q_need_order (n + 0) _) ?_
  intro r1
  refine k_seq ?_
  refine k_ite ?_
  refine j_not ?_
  refine j_call ?_
  refine jl_cons ?_
  refine j_var (i := 0) rfl ?_
  refine jl_nil ?_
  refine j_fe (q_is_zigzag_in (n + 2) _) ?_
  intro r2
  refine j_lift (d := .bl (!r2)) rfl ?_
  refine k_iteV ?_ ?_
  · exact k_raise
  · refine k_skip ?_
    refine k_ret ?_
    refine j_iteE (en := D.int) (re_of ?_) (re_of ?_) (re_of ?_) ?_
    · refine j_op2 ?_
      refine j_var (i := 0) rfl ?_
      refine j_tup ?_
      refine jl_nil ?_
      refine j_val (d := (eT D.int) []) rfl ?_
      refine j_lift (w_ne (e := (eT D.int)) (x := order) (y := ([] : (List Int)))) ?_
      exact j_ret rfl
    · refine j_call ?_
      refine jl_cons ?_
      refine j_var (i := 0) rfl ?_
      refine jl_nil ?_
      refine j_fe (q_number_in (n + 2) _) ?_
      intro r3
      exact j_ret rfl
    · refine j_cI ?_
      exact j_ret rfl
    intro y4
    exact j_ret (.inl rfl)
theorem q__law_small_right (n : Nat) (size : Int) : FE (callN Φ (n + 13) 24 [D.int size]) (p__law_small_right size) D.bl := by
  refine fe_run (n := n + 12) (F := F__law_small_right) rfl rfl rfl (Γ := [some (D.int size), none, none, none, none]) rfl ?_
  unfold p__law_small_right
  dsimp only [F__law_small_right]
  refine k_seq ?_
  refine k_asg ?_
  refine j_comp ?_
  refine j_itV ?_
  refine j_call ?_
  refine jl_cons ?_
  refine j_var (i := 0) rfl ?_
  refine jl_nil ?_
  refine j_fe (q__law_orders (n + 11) _) ?_
  intro r1
  refine j_lift (d := eL (eT D.int) r1) rfl ?_
  refine j_compE (eb := (eT D.int)) tg_one ?_ ?_ ?_
  · intro order_2
    refine re_of ?_
    refine j_call ?_
    refine jl_cons ?_
    refine j_var (i := 3) rfl ?_
    refine jl_nil ?_
    refine j_fe (q__law_is_zigzag (n + 10) _) ?_
    intro r3
    exact j_ret rfl
  · intro order_2
    refine re_of ?_
    refine j_var (i := 3) rfl ?_
    exact j_ret rfl
  intro l4
  refine k_set ?_
  change J [some (D.int size), some ((eL (eT D.int)) l4), none, none, none] _ _ _
  refine k_seq ?_
  refine k_asg ?_
  refine j_comp ?_
  refine j_itR ?_
  refine jl_cons ?_
  refine j_call ?_
  refine jl_cons ?_
  refine j_var (i := 0) rfl ?_
  refine jl_nil ?_
  refine j_fe (q_count_zigzags (n + 8) _) ?_
  intro r5
  refine jl_nil ?_
  refine j_liftG (g := b62 r5) (fun g => w_range1 g) ?_
  refine j_compEM (eb := eD) tg_one ?_ ?_
  · intro number_6
    refine re_of ?_
    refine j_call ?_
    refine jl_cons ?_
    refine j_var (i := 0) rfl ?_
    refine jl_cons ?_
    refine j_var (i := 4) rfl ?_
    refine jl_nil ?_
    refine j_fe (q_zigzag_with (n + 8) _ _) ?_
    intro r7
    exact j_ret rfl
  intro l8
  refine k_set ?_
  change J [some (D.int size), some ((eL (eT D.int)) l4), some ((eL eD) l8), none, none] _ _ _
  refine k_ret ?_
  refine j_andE (re_of ?_) (re_of ?_) ?_
  · refine j_call ?_
    refine jl_cons ?_
    refine j_var (i := 2) rfl ?_
    refine jl_cons ?_
    refine j_var (i := 1) rfl ?_
    refine jl_nil ?_
    refine j_fe (q__law_like (n + 0) _ _) ?_
    intro r9
    exact j_ret rfl
  · refine j_call ?_
    refine jl_cons ?_
    refine j_comp ?_
    refine j_itV ?_
    refine j_var (i := 1) rfl ?_
    refine j_lift (d := eL (eT D.int) l4) rfl ?_
    refine j_compEM (eb := D.int) tg_one ?_ ?_
    · intro order_10
      refine re_of ?_
      refine j_call ?_
      refine jl_cons ?_
      refine j_var (i := 3) rfl ?_
      refine jl_nil ?_
      refine j_fe (q_number_of_zigzag (n + 7) _) ?_
      intro r11
      exact j_ret rfl
    intro l12
    refine jl_cons ?_
    refine j_b1 ?_
    refine j_tup ?_
    refine jl_cons ?_
    refine j_b1 ?_
    refine j_var (i := 1) rfl ?_
    refine j_lift w_lenL ?_
    refine jl_nil ?_
    refine j_val rfl ?_
    refine j_liftG (g := b62 (l4.length : Int) && szOk ((l4.length : Int)).toNat) (fun g => w_listR1 g) ?_
    refine jl_nil ?_
    refine j_fe (q__law_like (n + 0) _ _) ?_
    intro r13
    exact j_ret rfl
  intro b14
  exact j_ret (.inl rfl)
theorem q_is_zigzag (n : Nat) (order : (List Int)) : FE (callN Φ (n + 5) 25 [(eT D.int) order]) (p_is_zigzag order) D.bl := by
  refine fe_run (n := n + 4) (F := F_is_zigzag) rfl rfl rfl (Γ := [some ((eT D.int) order)]) rfl ?_
  unfold p_is_zigzag
  dsimp only [F_is_zigzag]
  refine k_seq ?_
  refine k_exp ?_
  refine j_call ?_
  refine jl_cons ?_
  refine j_var (i := 0) rfl ?_
  refine jl_nil ?_
  refine j_fe (q_need_order (n + 0) _) ?_
  intro r1
  refine k_ret ?_
  refine j_call ?_
  refine jl_cons ?_
  refine j_var (i := 0) rfl ?_
  refine jl_nil ?_
  refine j_fe (q_is_zigzag_in (n + 2) _) ?_
  intro r2
  exact j_ret (.inl rfl)
theorem q_zigzags_from (n : Nat) (size : Int) (first : Int) : FE (callN Φ (n + 4) 26 [D.int size, D.int first]) (p_zigzags_from size first) D.int := by
  refine fe_run (n := n + 3) (F := F_zigzags_from) rfl rfl rfl (Γ := [some (D.int size), some (D.int first)]) rfl ?_
  unfold p_zigzags_from
  dsimp only [F_zigzags_from]
  refine k_seq ?_
  refine k_exp ?_
  refine j_call ?_
  refine jl_cons ?_
  refine j_var (i := 0) rfl ?_
  refine jl_cons ?_
  refine j_cI ?_
  refine jl_cons ?_
  refine j_cI ?_
  refine jl_nil ?_
  refine j_fe (q_need_whole (n + 0) _ _ _) ?_
  intro r1
  refine k_seq ?_
  refine k_exp ?_
  refine j_call ?_
  refine jl_cons ?_
  refine j_var (i := 1) rfl ?_
  refine jl_cons ?_
  refine j_cI ?_
  refine jl_cons ?_
  refine j_op2 ?_
  refine j_var (i := 0) rfl ?_
  refine j_cI ?_
  refine j_lift rfl ?_
  refine jl_nil ?_
  refine j_fe (q_need_whole (n + 0) _ _ _) ?_
  intro r2
  refine k_ret ?_
  refine j_idx ?_
  refine j_call ?_
  refine jl_cons ?_
  refine j_var (i := 0) rfl ?_
  refine jl_nil ?_
  refine j_fe (q_firsts_in (n + 1) _) ?_
  intro r3
  refine j_var (i := 1) rfl ?_
  refine j_ix (en := D.int) w_idxL ?_
  intro v4
  exact j_ret (.inl rfl)
theorem q__law_written_right (n : Nat) : FE (callN Φ (n + 13) 27 []) (p__law_written_right) D.bl := by
  refine fe_run (n := n + 12) (F := F__law_written_right) rfl rfl rfl (Γ := [none, none, none]) rfl ?_
  unfold p__law_written_right
  dsimp only [F__law_written_right]
  refine k_seq ?_
  refine k_asg ?_
  refine j_lst ?_
  refine jl_cons ?_
  refine j_call ?_
  refine jl_cons ?_
  refine j_tup ?_
  refine jl_cons ?_
  refine j_cI ?_
  refine jl_cons ?_
  refine j_cI ?_
  refine jl_cons ?_
  refine j_cI ?_
  refine jl_nil ?_
  refine j_val (d := (eT D.int) [(0 : Int), (2 : Int), (1 : Int)]) rfl ?_
  refine jl_nil ?_
  refine j_fe (q_is_zigzag (n + 7) _) ?_
  intro r1
  refine jl_cons ?_
  refine j_call ?_
  refine jl_cons ?_
  refine j_tup ?_
  refine jl_cons ?_
  refine j_cI ?_
  refine jl_cons ?_
  refine j_cI ?_
  refine jl_cons ?_
  refine j_cI ?_
  refine jl_nil ?_
  refine j_val (d := (eT D.int) [(1 : Int), (0 : Int), (2 : Int)]) rfl ?_
  refine jl_nil ?_
  refine j_fe (q_is_zigzag (n + 7) _) ?_
  intro r2
  refine jl_cons ?_
  refine j_call ?_
  refine jl_cons ?_
  refine j_tup ?_
  refine jl_nil ?_
  refine j_val (d := (eT D.int) []) rfl ?_
  refine jl_nil ?_
  refine j_fe (q_is_zigzag (n + 7) _) ?_
  intro r3
  refine jl_cons ?_
  refine j_comp ?_
  refine j_itR ?_
  refine jl_cons ?_
  refine j_cI ?_
  refine jl_nil ?_
  refine j_liftG (g := b62 (8 : Int)) (fun g => w_range1 g) ?_
  refine j_compEM (eb := D.int) tg_one ?_ ?_
  · intro size_4
    refine re_of ?_
    refine j_call ?_
    refine jl_cons ?_
    refine j_var (i := 1) rfl ?_
    refine jl_nil ?_
    refine j_fe (q_count_zigzags (n + 8) _) ?_
    intro r5
    exact j_ret rfl
  intro l6
  refine jl_cons ?_
  refine j_comp ?_
  refine j_itR ?_
  refine jl_cons ?_
  refine j_cI ?_
  refine jl_nil ?_
  refine j_liftG (g := b62 (4 : Int)) (fun g => w_range1 g) ?_
  refine j_compEM (eb := D.int) tg_one ?_ ?_
  · intro first_7
    refine re_of ?_
    refine j_call ?_
    refine jl_cons ?_
    refine j_cI ?_
    refine jl_cons ?_
    refine j_var (i := 2) rfl ?_
    refine jl_nil ?_
    refine j_fe (q_zigzags_from (n + 8) _ _) ?_
    intro r8
    exact j_ret rfl
  intro l9
  refine jl_nil ?_
  refine j_val (d := eL eD [(D.bl r1), (D.bl r2), (D.bl r3), ((eL D.int) l6), ((eL D.int) l9)]) rfl ?_
  refine k_setL (en := (eL eD)) (v := [(D.bl r1), (D.bl r2), (D.bl r3), ((eL D.int) l6), ((eL D.int) l9)]) ?_
  intro told_10
  change J [some ((eL eD) told_10), none, none] _ _ _
  refine k_seq ?_
  refine k_ite ?_
  refine j_not ?_
  refine j_call ?_
  refine jl_cons ?_
  refine j_var (i := 0) rfl ?_
  refine jl_cons ?_
  refine j_lst ?_
  refine jl_cons ?_
  refine j_cB ?_
  refine jl_cons ?_
  refine j_cB ?_
  refine jl_cons ?_
  refine j_cB ?_
  refine jl_cons ?_
  refine j_lst ?_
  refine jl_cons ?_
  refine j_cI ?_
  refine jl_cons ?_
  refine j_cI ?_
  refine jl_cons ?_
  refine j_cI ?_
  refine jl_cons ?_
  refine j_cI ?_
  refine jl_cons ?_
  refine j_cI ?_
  refine jl_cons ?_
  refine j_cI ?_
  refine jl_cons ?_
  refine j_cI ?_
  refine jl_cons ?_
  refine j_cI ?_
  refine jl_nil ?_
  refine j_val (d := eD (D.lst [(D.int (1 : Int)), (D.int (1 : Int)), (D.int (1 : Int)), (D.int (2 : Int)), (D.int (5 : Int)), (D.int (16 : Int)), (D.int (61 : Int)), (D.int (272 : Int))])) rfl ?_
  refine jl_cons ?_
  refine j_lst ?_
  refine jl_cons ?_
  refine j_cI ?_
  refine jl_cons ?_
  refine j_cI ?_
  refine jl_cons ?_
  refine j_cI ?_
  refine jl_cons ?_
  refine j_cI ?_
  refine jl_nil ?_
  refine j_val (d := eD (D.lst [(D.int (2 : Int)), (D.int (2 : Int)), (D.int (1 : Int)), (D.int (0 : Int))])) rfl ?_
  refine jl_nil ?_
  refine j_val (d := eD (D.lst [(D.bl true), (D.bl false), (D.bl true), (D.lst [(D.int (1 : Int)), (D.int (1 : Int)), (D.int (1 : Int)), (D.int (2 : Int)), (D.int (5 : Int)), (D.int (16 : Int)), (D.int (61 : Int)), (D.int (272 : Int))]), (D.lst [(D.int (2 : Int)), (D.int (2 : Int)), (D.int (1 : Int)), (D.int (0 : Int))])])) rfl ?_
  refine jl_nil ?_
  refine j_fe (q__law_like (n + 0) _ _) ?_
  intro r11
  refine j_lift (d := .bl (!r11)) rfl ?_
  refine k_iteV ?_ ?_
  · refine k_ret ?_
    refine j_cB ?_
    exact j_ret (.inl rfl)
  · refine k_skip ?_
    refine k_seq ?_
    refine k_asg ?_
    refine j_lst ?_
    refine jl_cons ?_
    refine j_call ?_
    refine jl_cons ?_
    refine j_cI ?_
    refine jl_cons ?_
    refine j_cI ?_
    refine jl_nil ?_
    refine j_fe (q_zigzag_with (n + 8) _ _) ?_
    intro r12
    refine jl_cons ?_
    refine j_call ?_
    refine jl_cons ?_
    refine j_cI ?_
    refine jl_cons ?_
    refine j_cI ?_
    refine jl_nil ?_
    refine j_fe (q_zigzag_with (n + 8) _ _) ?_
    intro r13
    refine jl_cons ?_
    refine j_call ?_
    refine jl_cons ?_
    refine j_tup ?_
    refine jl_cons ?_
    refine j_cI ?_
    refine jl_cons ?_
    refine j_cI ?_
    refine jl_cons ?_
    refine j_cI ?_
    refine jl_cons ?_
    refine j_cI ?_
    refine jl_cons ?_
    refine j_cI ?_
    refine jl_cons ?_
    refine j_cI ?_
    refine jl_cons ?_
    refine j_cI ?_
    refine jl_cons ?_
    refine j_cI ?_
    refine jl_cons ?_
    refine j_cI ?_
    refine jl_nil ?_
    refine j_val (d := (eT D.int) [(0 : Int), (2 : Int), (1 : Int), (4 : Int), (3 : Int), (6 : Int), (5 : Int), (8 : Int), (7 : Int)]) rfl ?_
    refine jl_nil ?_
    refine j_fe (q_number_of_zigzag (n + 7) _) ?_
    intro r14
    refine jl_cons ?_
    refine j_call ?_
    refine jl_cons ?_
    refine j_call ?_
    refine jl_cons ?_
    refine j_cI ?_
    refine jl_cons ?_
    refine j_cI ?_
    refine jl_nil ?_
    refine j_fe (q_zigzag_with (n + 8) _ _) ?_
    intro r15
    refine jl_nil ?_
    refine j_fe (q_is_zigzag (n + 7) _) ?_
    intro r16
    refine jl_nil ?_
    refine j_val (d := eL eD [((eT D.int) r12), ((eT D.int) r13), (D.int r14), (D.bl r16)]) rfl ?_
    refine k_setL (en := (eL eD)) (v := [((eT D.int) r12), ((eT D.int) r13), (D.int r14), (D.bl r16)]) ?_
    intro told_17
    change J [some ((eL eD) told_17), none, none] _ _ _
    refine k_seq ?_
    refine k_ite ?_
    refine j_not ?_
    refine j_call ?_
    refine jl_cons ?_
    refine j_var (i := 0) rfl ?_
    refine jl_cons ?_
    refine j_lst ?_
    refine jl_cons ?_
    refine j_tup ?_
    refine jl_cons ?_
    refine j_cI ?_
    refine jl_cons ?_
    refine j_cI ?_
    refine jl_cons ?_
    refine j_cI ?_
    refine jl_cons ?_
    refine j_cI ?_
    refine jl_cons ?_
    refine j_cI ?_
    refine jl_cons ?_
    refine j_cI ?_
    refine jl_cons ?_
    refine j_cI ?_
    refine jl_cons ?_
    refine j_cI ?_
    refine jl_cons ?_
    refine j_cI ?_
    refine jl_nil ?_
    refine j_val (d := eD (D.tup [(D.int (0 : Int)), (D.int (2 : Int)), (D.int (1 : Int)), (D.int (4 : Int)), (D.int (3 : Int)), (D.int (6 : Int)), (D.int (5 : Int)), (D.int (8 : Int)), (D.int (7 : Int))])) rfl ?_
    refine jl_cons ?_
    refine j_tup ?_
    refine jl_cons ?_
    refine j_cI ?_
    refine jl_cons ?_
    refine j_cI ?_
    refine jl_cons ?_
    refine j_cI ?_
    refine jl_cons ?_
    refine j_cI ?_
    refine jl_cons ?_
    refine j_cI ?_
    refine jl_cons ?_
    refine j_cI ?_
    refine jl_cons ?_
    refine j_cI ?_
    refine jl_cons ?_
    refine j_cI ?_
    refine jl_cons ?_
    refine j_cI ?_
    refine jl_cons ?_
    refine j_cI ?_
    refine jl_nil ?_
    refine j_val (d := eD (D.tup [(D.int (0 : Int)), (D.int (2 : Int)), (D.int (1 : Int)), (D.int (4 : Int)), (D.int (3 : Int)), (D.int (6 : Int)), (D.int (5 : Int)), (D.int (8 : Int)), (D.int (7 : Int)), (D.int (9 : Int))])) rfl ?_
    refine jl_cons ?_
    refine j_cI ?_
    refine jl_cons ?_
    refine j_cB ?_
    refine jl_nil ?_
    refine j_val (d := eD (D.lst [(D.tup [(D.int (0 : Int)), (D.int (2 : Int)), (D.int (1 : Int)), (D.int (4 : Int)), (D.int (3 : Int)), (D.int (6 : Int)), (D.int (5 : Int)), (D.int (8 : Int)), (D.int (7 : Int))]), (D.tup [(D.int (0 : Int)), (D.int (2 : Int)), (D.int (1 : Int)), (D.int (4 : Int)), (D.int (3 : Int)), (D.int (6 : Int)), (D.int (5 : Int)), (D.int (8 : Int)), (D.int (7 : Int)), (D.int (9 : Int))]), (D.int (0 : Int)), (D.bl true)])) rfl ?_
    refine jl_nil ?_
    refine j_fe (q__law_like (n + 0) _ _) ?_
    intro r18
    refine j_lift (d := .bl (!r18)) rfl ?_
    refine k_iteV ?_ ?_
    · refine k_ret ?_
      refine j_cB ?_
      exact j_ret (.inl rfl)
    · refine k_skip ?_
      refine k_seq ?_
      refine k_asg ?_
      refine j_lst ?_
      refine jl_cons ?_
      refine j_call ?_
      refine jl_cons ?_
      refine j_cI ?_
      refine jl_cons ?_
      refine j_cI ?_
      refine jl_nil ?_
      refine j_fe (q_zigzag_with (n + 8) _ _) ?_
      intro r19
      refine jl_cons ?_
      refine j_call ?_
      refine jl_cons ?_
      refine j_cI ?_
      refine jl_cons ?_
      refine j_cI ?_
      refine jl_nil ?_
      refine j_fe (q_zigzag_with (n + 8) _ _) ?_
      intro r20
      refine jl_cons ?_
      refine j_call ?_
      refine jl_cons ?_
      refine j_tup ?_
      refine jl_cons ?_
      refine j_cI ?_
      refine jl_cons ?_
      refine j_cI ?_
      refine jl_cons ?_
      refine j_cI ?_
      refine jl_cons ?_
      refine j_cI ?_
      refine jl_nil ?_
      refine j_val (d := (eT D.int) [(1 : Int), (3 : Int), (0 : Int), (2 : Int)]) rfl ?_
      refine jl_nil ?_
      refine j_fe (q_number_of_zigzag (n + 7) _) ?_
      intro r21
      refine jl_cons ?_
      refine j_call ?_
      refine jl_cons ?_
      refine j_cI ?_
      refine jl_cons ?_
      refine j_cI ?_
      refine jl_nil ?_
      refine j_fe (q_zigzag_with (n + 8) _ _) ?_
      intro r22
      refine jl_cons ?_
      refine j_call ?_
      refine jl_cons ?_
      refine j_tup ?_
      refine jl_nil ?_
      refine j_val (d := (eT D.int) []) rfl ?_
      refine jl_nil ?_
      refine j_fe (q_number_of_zigzag (n + 7) _) ?_
      intro r23
      refine jl_cons ?_
      refine j_call ?_
      refine jl_cons ?_
      refine j_cI ?_
      refine jl_cons ?_
      refine j_cI ?_
      refine jl_nil ?_
      refine j_fe (q_zigzags_from (n + 8) _ _) ?_
      intro r24
      refine jl_cons ?_
      refine j_call ?_
      refine jl_cons ?_
      refine j_cI ?_
      refine jl_cons ?_
      refine j_cI ?_
      refine jl_nil ?_
      refine j_fe (q_zigzags_from (n + 8) _ _) ?_
      intro r25
      refine jl_cons ?_
      refine j_call ?_
      refine jl_cons ?_
      refine j_cI ?_
      refine jl_nil ?_
      refine j_fe (q_count_zigzags (n + 8) _) ?_
      intro r26
      refine jl_nil ?_
      refine j_val (d := eL eD [((eT D.int) r19), ((eT D.int) r20), (D.int r21), ((eT D.int) r22), (D.int r23), (D.int r24), (D.int r25), (D.int r26)]) rfl ?_
      refine k_setL (en := (eL eD)) (v := [((eT D.int) r19), ((eT D.int) r20), (D.int r21), ((eT D.int) r22), (D.int r23), (D.int r24), (D.int r25), (D.int r26)]) ?_
      intro told_27
      change J [some ((eL eD) told_27), none, none] _ _ _
      refine k_ret ?_
      refine j_call ?_
      refine jl_cons ?_
      refine j_var (i := 0) rfl ?_
      refine jl_cons ?_
      refine j_lst ?_
      refine jl_cons ?_
      refine j_tup ?_
      refine jl_cons ?_
      refine j_cI ?_
      refine jl_cons ?_
      refine j_cI ?_
      refine jl_cons ?_
      refine j_cI ?_
      refine jl_cons ?_
      refine j_cI ?_
      refine jl_nil ?_
      refine j_val (d := eD (D.tup [(D.int (0 : Int)), (D.int (2 : Int)), (D.int (1 : Int)), (D.int (3 : Int))])) rfl ?_
      refine jl_cons ?_
      refine j_tup ?_
      refine jl_cons ?_
      refine j_cI ?_
      refine jl_cons ?_
      refine j_cI ?_
      refine jl_cons ?_
      refine j_cI ?_
      refine jl_cons ?_
      refine j_cI ?_
      refine jl_nil ?_
      refine j_val (d := eD (D.tup [(D.int (2 : Int)), (D.int (3 : Int)), (D.int (0 : Int)), (D.int (1 : Int))])) rfl ?_
      refine jl_cons ?_
      refine j_cI ?_
      refine jl_cons ?_
      refine j_tup ?_
      refine jl_nil ?_
      refine j_val (d := eD (D.tup [])) rfl ?_
      refine jl_cons ?_
      refine j_cI ?_
      refine jl_cons ?_
      refine j_cI ?_
      refine jl_cons ?_
      refine j_cI ?_
      refine jl_cons ?_
      refine j_cI ?_
      refine jl_nil ?_
      refine j_val (d := eD (D.lst [(D.tup [(D.int (0 : Int)), (D.int (2 : Int)), (D.int (1 : Int)), (D.int (3 : Int))]), (D.tup [(D.int (2 : Int)), (D.int (3 : Int)), (D.int (0 : Int)), (D.int (1 : Int))]), (D.int (3 : Int)), (D.tup []), (D.int (0 : Int)), (D.int (1 : Int)), (D.int (0 : Int)), (D.int (50521 : Int))])) rfl ?_
      refine jl_nil ?_
      refine j_fe (q__law_like (n + 0) _ _) ?_
      intro r28
      exact j_ret (.inl rfl)
theorem q__law_counts (n : Nat) (most : Int) : FE (callN Φ (n + 1) 29 [D.int most]) (p__law_counts most) (eL D.int) := by
  refine fe_run (n := n + 0) (F := F__law_counts) rfl rfl rfl (Γ := [some (D.int most), none, none, none, none, none]) rfl ?_
  unfold p__law_counts
  dsimp only [F__law_counts]
  refine k_seq ?_
  refine k_asgO ?_
  refine j_lst ?_
  refine jl_cons ?_
  refine j_cI ?_
  refine jl_cons ?_
  refine j_cI ?_
  refine jl_nil ?_
  refine j_val (d := eL D.int [(1 : Int), (1 : Int)]) rfl ?_
  refine k_setOL (en := D.int) (xs := [(1 : Int), (1 : Int)]) ?_
  intro found_1
  change J [some (D.int most), some ((eL D.int) found_1), none, none, none, none] _ _ _
  refine k_seq ?_
  refine k_while (Γl := fun (s2 : (List Int)) => [some (D.int most), some ((eL D.int) s2), none, none, none, none]) (s0 := found_1) (tc := fun s2 => sp (decide ((s2.length : Int) ≤ most))) (f := p__law_counts_b2) (by exact (Le.some _ (Le.some _ (Le.none _ (Le.none _ (Le.none _ (Le.none _ Le.nil))))))) ?_ ?_ ?_
  · intro s2
    refine re_of ?_
    change J [some (D.int most), some ((eL D.int) s2), none, none, none, none] _ _ _
    refine j_op2 ?_
    refine j_b1 ?_
    refine j_var (i := 1) rfl ?_
    refine j_lift w_lenL ?_
    refine j_var (i := 0) rfl ?_
    refine j_lift rfl ?_
    exact j_ret rfl
  · intro s2
    change J [some (D.int most), some ((eL D.int) s2), none, none, none, none] _ _ _
    unfold p__law_counts_b2
    refine k_seq ?_
    refine k_par ?_
    refine jl_cons ?_
    refine j_op2 ?_
    refine j_b1 ?_
    refine j_var (i := 1) rfl ?_
    refine j_lift w_lenL ?_
    refine j_cI ?_
    refine j_lift rfl ?_
    refine jl_cons ?_
    refine j_cI ?_
    refine jl_cons ?_
    refine j_cI ?_
    refine jl_nil ?_
    refine k_par3 (e1 := D.int) (e2 := D.int) (e3 := D.int) (v1 := ((s2.length : Int) - (1 : Int))) (v2 := (0 : Int)) (v3 := (1 : Int)) rfl ?_
    intro size_3
    intro whole_4
    intro choice_5
    change J [some (D.int most), some ((eL D.int) s2), some (D.int size_3), some (D.int whole_4), some (D.int choice_5), none] _ _ _
    refine k_seq ?_
    refine k_for ?_
    refine j_itR ?_
    refine jl_cons ?_
    refine j_op2 ?_
    refine j_var (i := 2) rfl ?_
    refine j_cI ?_
    refine j_lift rfl ?_
    refine jl_nil ?_
    refine j_liftG (g := b62 (size_3 + (1 : Int))) (fun g => w_range1 g) ?_
    refine k_forV (Γl := fun (s6 : (Int × Int)) => [some (D.int most), some ((eL D.int) s2), some (D.int size_3), some (D.int s6.1), some (D.int s6.2), none]) (s0 := (whole_4, choice_5)) (f := (p__law_counts_b1 s2 size_3)) (by exact (Le.some _ (Le.some _ (Le.some _ (Le.some _ (Le.some _ (Le.none _ Le.nil))))))) (fun _ => tg_one) ?_ ?_
    · intro s6 at_7
      change J [some (D.int most), some ((eL D.int) s2), some (D.int size_3), some (D.int s6.1), some (D.int s6.2), some (D.int at_7)] _ _ _
      unfold p__law_counts_b1
      refine k_seq ?_
      refine k_par ?_
      refine jl_cons ?_
      refine j_op2 ?_
      refine j_var (i := 3) rfl ?_
      refine j_op2 ?_
      refine j_op2 ?_
      refine j_var (i := 4) rfl ?_
      refine j_idx ?_
      refine j_var (i := 1) rfl ?_
      refine j_var (i := 5) rfl ?_
      refine j_ix (en := D.int) w_idxL ?_
      intro v8
      refine j_liftG (g := mulOk s6.2 v8) (fun g => w_mul g) ?_
      refine j_idx ?_
      refine j_var (i := 1) rfl ?_
      refine j_op2 ?_
      refine j_var (i := 2) rfl ?_
      refine j_var (i := 5) rfl ?_
      refine j_lift rfl ?_
      refine j_ix (en := D.int) w_idxL ?_
      intro v9
      refine j_liftG (g := mulOk (s6.2 * v8) v9) (fun g => w_mul g) ?_
      refine j_lift rfl ?_
      refine jl_cons ?_
      refine j_b1 ?_
      refine j_op2 ?_
      refine j_op2 ?_
      refine j_var (i := 4) rfl ?_
      refine j_op2 ?_
      refine j_var (i := 2) rfl ?_
      refine j_var (i := 5) rfl ?_
      refine j_lift rfl ?_
      refine j_liftG (g := mulOk s6.2 (size_3 - at_7)) (fun g => w_mul g) ?_
      refine j_op2 ?_
      refine j_var (i := 5) rfl ?_
      refine j_cI ?_
      refine j_lift rfl ?_
      refine j_liftG (g := divOk (at_7 + (1 : Int))) (fun g => w_fdiv g) ?_
      refine j_lift rfl ?_
      refine jl_nil ?_
      refine k_par2 (e1 := D.int) (e2 := D.int) (v1 := (s6.1 + ((s6.2 * v8) * v9))) (v2 := ((s6.2 * (size_3 - at_7)) / (at_7 + (1 : Int)))) rfl ?_
      intro whole_10
      intro choice_11
      change J [some (D.int most), some ((eL D.int) s2), some (D.int size_3), some (D.int whole_10), some (D.int choice_11), some (D.int at_7)] _ _ _
      refine k_skip ?_
      exact k_nilN (by exact (Le.some _ (Le.some _ (Le.some _ (Le.some _ (Le.some _ (Le.none _ Le.nil)))))))
    intro s6
    change J [some (D.int most), some ((eL D.int) s2), some (D.int size_3), some (D.int s6.1), some (D.int s6.2), none] _ _ _
    refine k_seq ?_
    refine k_app ?_
    refine j_b1 ?_
    refine j_op2 ?_
    refine j_var (i := 3) rfl ?_
    refine j_cI ?_
    refine j_lift (w_fdiv (by decide)) ?_
    refine j_lift rfl ?_
    refine k_appV (en := D.int) (xs := s2) (v := (s6.1 / (2 : Int))) rfl ?_
    intro found_12
    change J [some (D.int most), some ((eL D.int) found_12), some (D.int size_3), some (D.int s6.1), some (D.int s6.2), none] _ _ _
    refine k_skip ?_
    exact k_nilN (by exact (Le.some _ (Le.some _ (Le.none _ (Le.none _ (Le.none _ (Le.none _ Le.nil)))))))
  intro s2
  change J [some (D.int most), some ((eL D.int) s2), none, none, none, none] _ _ _
  refine k_ret ?_
  refine j_slc ?_
  refine j_var (i := 1) rfl ?_
  refine j_cN ?_
  refine j_op2 ?_
  refine j_var (i := 0) rfl ?_
  refine j_cI ?_
  refine j_lift rfl ?_
  refine j_lift (w_slcL (lo := none) (hi := (some (most + (1 : Int)))) rfl rfl) ?_
  exact j_ret (.inl rfl)
theorem q__law_order (n : Nat) (many : Int) : FE (callN Φ (n + 2) 31 [.cup, D.int many]) (p__law_order many) (eT D.int) := by
  refine fe_run (n := n + 1) (F := F__law_order) rfl rfl rfl (Γ := [some D.cup, some (D.int many), none, none]) rfl ?_
  unfold p__law_order
  dsimp only [F__law_order]
  refine k_seq ?_
  refine k_par ?_
  refine jl_cons ?_
  refine j_b1 ?_
  refine j_tup ?_
  refine jl_cons ?_
  refine j_var (i := 1) rfl ?_
  refine jl_nil ?_
  refine j_val rfl ?_
  refine j_liftG (g := b62 many && szOk (many).toNat) (fun g => w_listR1 g) ?_
  refine jl_cons ?_
  refine j_lst ?_
  refine jl_nil ?_
  refine j_val (d := eL D.int []) rfl ?_
  refine jl_nil ?_
  refine k_par2 (e1 := (eL D.int)) (e2 := (eL D.int)) (v1 := (rgI 0 (many).toNat)) (v2 := ([] : List Int)) rfl ?_
  intro left_1
  intro found_2
  change J [some D.cup, some (D.int many), some ((eL D.int) left_1), some ((eL D.int) found_2)] _ _ _
  refine k_seq ?_
  refine k_while (Γl := fun (s3 : ((List Int) × (List Int))) => [some D.cup, some (D.int many), some ((eL D.int) s3.1), some ((eL D.int) s3.2)]) (s0 := (left_1, found_2)) (tc := fun s3 => sp (!(s3.1 == ([] : List Int)))) (f := p__law_order_b1) (by exact (Le.some _ (Le.some _ (Le.some _ (Le.some _ Le.nil))))) ?_ ?_ ?_
  · intro s3
    refine re_of ?_
    change J [some D.cup, some (D.int many), some ((eL D.int) s3.1), some ((eL D.int) s3.2)] _ _ _
    refine j_op2 ?_
    refine j_var (i := 2) rfl ?_
    refine j_lst ?_
    refine jl_nil ?_
    refine j_val (d := eL D.int []) rfl ?_
    refine j_lift (w_ne (e := (eL D.int)) (x := s3.1) (y := ([] : List Int))) ?_
    exact j_ret rfl
  · intro s3
    change J [some D.cup, some (D.int many), some ((eL D.int) s3.1), some ((eL D.int) s3.2)] _ _ _
    unfold p__law_order_b1
    refine k_seq ?_
    refine k_popAE ?_
    refine j_call ?_
    refine jl_cons ?_
    refine j_var (i := 0) rfl ?_
    refine jl_cons ?_
    refine j_b1 ?_
    refine j_var (i := 2) rfl ?_
    refine j_lift w_lenL ?_
    refine jl_nil ?_
    refine j_fe (q__law_roll (n + 0) _) ?_
    intro r4
    refine k_popAV (en := D.int) (xs := s3.1) (ys := s3.2) rfl rfl ?_
    intro left_6 found_7
    change J [some D.cup, some (D.int many), some ((eL D.int) left_6), some ((eL D.int) found_7)] _ _ _
    refine k_skip ?_
    exact k_nilN (by exact (Le.some _ (Le.some _ (Le.some _ (Le.some _ Le.nil)))))
  intro s3
  change J [some D.cup, some (D.int many), some ((eL D.int) s3.1), some ((eL D.int) s3.2)] _ _ _
  refine k_ret ?_
  refine j_b1 ?_
  refine j_var (i := 3) rfl ?_
  refine j_lift (d := (eT D.int) s3.2) rfl ?_
  exact j_ret (.inl rfl)
theorem q__law_near_order (n : Nat) (many : Int) : FE (callN Φ (n + 3) 32 [.cup, D.int many]) (p__law_near_order many) (eT D.int) := by
  refine fe_run (n := n + 2) (F := F__law_near_order) rfl rfl rfl (Γ := [some D.cup, some (D.int many), none, none, none, none, none, none]) rfl ?_
  unfold p__law_near_order
  dsimp only [F__law_near_order]
  refine k_seq ?_
  refine k_par ?_
  refine jl_cons ?_
  refine j_call ?_
  refine jl_cons ?_
  refine j_var (i := 0) rfl ?_
  refine jl_cons ?_
  refine j_cI ?_
  refine jl_nil ?_
  refine j_fe (q__law_roll (n + 1) _) ?_
  intro r1
  refine jl_cons ?_
  refine j_b1 ?_
  refine j_tup ?_
  refine jl_cons ?_
  refine j_var (i := 1) rfl ?_
  refine jl_nil ?_
  refine j_val rfl ?_
  refine j_liftG (g := b62 many && szOk (many).toNat) (fun g => w_listR1 g) ?_
  refine jl_nil ?_
  refine k_par2 (e1 := D.int) (e2 := (eL D.int)) (v1 := r1) (v2 := (rgI 0 (many).toNat)) rfl ?_
  intro way_2
  intro found_3
  change J [some D.cup, some (D.int many), some (D.int way_2), some ((eL D.int) found_3), none, none, none, none] _ _ _
  refine k_seq ?_
  refine k_ite ?_
  refine j_op2 ?_
  refine j_var (i := 2) rfl ?_
  refine j_cI ?_
  refine j_lift rfl ?_
  refine k_iteV ?_ ?_
  · refine k_ret ?_
    refine j_call ?_
    refine jl_cons ?_
    refine j_var (i := 0) rfl ?_
    refine jl_cons ?_
    refine j_var (i := 1) rfl ?_
    refine jl_nil ?_
    refine j_fe (q__law_order (n + 0) _) ?_
    intro r4
    exact j_ret (.inl rfl)
  · refine k_skip ?_
    refine k_seq ?_
    refine k_for ?_
    refine j_itR ?_
    refine jl_cons ?_
    refine j_iteE (en := D.int) (re_of ?_) (re_of ?_) (re_of ?_) ?_
    · refine j_op2 ?_
      refine j_var (i := 1) rfl ?_
      refine j_cI ?_
      refine j_lift rfl ?_
      exact j_ret rfl
    · refine j_call ?_
      refine jl_cons ?_
      refine j_var (i := 0) rfl ?_
      refine jl_cons ?_
      refine j_cI ?_
      refine jl_nil ?_
      refine j_fe (q__law_roll (n + 1) _) ?_
      intro r5
      exact j_ret rfl
    · refine j_cI ?_
      exact j_ret rfl
    intro y6
    refine jl_nil ?_
    refine j_liftG (g := b62 y6) (fun g => w_range1 g) ?_
    refine k_forV (Γl := fun (s7 : (List Int)) => [some D.cup, some (D.int many), some (D.int way_2), some ((eL D.int) s7), none, none, none, none]) (s0 := found_3) (f := (p__law_near_order_b1 many)) (by exact (Le.some _ (Le.some _ (Le.some _ (Le.some _ (Le.none _ (Le.none _ (Le.none _ (Le.none _ Le.nil))))))))) (fun _ => tg_one) ?_ ?_
    · intro s7 turn_8
      change J [some D.cup, some (D.int many), some (D.int way_2), some ((eL D.int) s7), some (D.int turn_8), none, none, none] _ _ _
      unfold p__law_near_order_b1
      refine k_seq ?_
      refine k_par ?_
      refine jl_cons ?_
      refine j_call ?_
      refine jl_cons ?_
      refine j_var (i := 0) rfl ?_
      refine jl_cons ?_
      refine j_var (i := 1) rfl ?_
      refine jl_nil ?_
      refine j_fe (q__law_roll (n + 1) _) ?_
      intro r9
      refine jl_cons ?_
      refine j_call ?_
      refine jl_cons ?_
      refine j_var (i := 0) rfl ?_
      refine jl_cons ?_
      refine j_var (i := 1) rfl ?_
      refine jl_nil ?_
      refine j_fe (q__law_roll (n + 1) _) ?_
      intro r10
      refine jl_nil ?_
      refine k_par2 (e1 := D.int) (e2 := D.int) (v1 := r9) (v2 := r10) rfl ?_
      intro one_11
      intro other_12
      change J [some D.cup, some (D.int many), some (D.int way_2), some ((eL D.int) s7), some (D.int turn_8), some (D.int one_11), some (D.int other_12), none] _ _ _
      refine k_seq ?_
      refine k_asg ?_
      refine j_idx ?_
      refine j_var (i := 3) rfl ?_
      refine j_var (i := 5) rfl ?_
      refine j_ix (en := D.int) w_idxL ?_
      intro v13
      refine k_set ?_
      change J [some D.cup, some (D.int many), some (D.int way_2), some ((eL D.int) s7), some (D.int turn_8), some (D.int one_11), some (D.int other_12), some (D.int v13)] _ _ _
      refine k_seq ?_
      refine k_setI ?_
      refine j_idx ?_
      refine j_var (i := 3) rfl ?_
      refine j_var (i := 6) rfl ?_
      refine j_ix (en := D.int) w_idxL ?_
      intro v14
      refine j_var (i := 5) rfl ?_
      refine k_setV (en := D.int) (xs := s7) (v := v14) rfl ?_
      intro found_15
      change J [some D.cup, some (D.int many), some (D.int way_2), some ((eL D.int) found_15), some (D.int turn_8), some (D.int one_11), some (D.int other_12), some (D.int v13)] _ _ _
      refine k_seq ?_
      refine k_setI ?_
      refine j_var (i := 7) rfl ?_
      refine j_var (i := 6) rfl ?_
      refine k_setV (en := D.int) (xs := found_15) (v := v13) rfl ?_
      intro found_16
      change J [some D.cup, some (D.int many), some (D.int way_2), some ((eL D.int) found_16), some (D.int turn_8), some (D.int one_11), some (D.int other_12), some (D.int v13)] _ _ _
      refine k_skip ?_
      exact k_nilN (by exact (Le.some _ (Le.some _ (Le.some _ (Le.some _ (Le.none _ (Le.none _ (Le.none _ (Le.none _ Le.nil)))))))))
    intro s7
    change J [some D.cup, some (D.int many), some (D.int way_2), some ((eL D.int) s7), none, none, none, none] _ _ _
    refine k_ret ?_
    refine j_iteP (en := (eT D.int)) (x := (way_2 == (2 : Int))) (u := s7) (v := s7.reverse) (rp_of ?_) (rp_of ?_) (rp_of ?_) ?_
    · refine j_op2 ?_
      refine j_var (i := 2) rfl ?_
      refine j_cI ?_
      refine j_lift (w_eq (e := D.int) (x := way_2) (y := (2 : Int))) ?_
      exact j_ret rfl
    · refine j_b1 ?_
      refine j_var (i := 3) rfl ?_
      refine j_lift (d := (eT D.int) s7) rfl ?_
      exact j_ret rfl
    · refine j_b1 ?_
      refine j_rev ?_
      refine j_var (i := 3) rfl ?_
      refine j_lift w_revL ?_
      refine j_lift (d := (eT D.int) s7.reverse) rfl ?_
      exact j_ret rfl
    exact j_ret (.inl rfl)
theorem q__law_triangle (n : Nat) (size : Int) : FE (callN Φ (n + 1) 33 [D.int size]) (p__law_triangle size) (eL D.int) := by
  refine fe_run (n := n + 0) (F := F__law_triangle) rfl rfl rfl (Γ := [some (D.int size), none, none, none, none]) rfl ?_
  unfold p__law_triangle
  dsimp only [F__law_triangle]
  refine k_seq ?_
  refine k_asg ?_
  refine j_lst ?_
  refine jl_cons ?_
  refine j_cI ?_
  refine jl_nil ?_
  refine j_val (d := eL D.int [(1 : Int)]) rfl ?_
  refine k_setL (en := (eL D.int)) (v := [(1 : Int)]) ?_
  intro row_1
  change J [some (D.int size), some ((eL D.int) row_1), none, none, none] _ _ _
  refine k_seq ?_
  refine k_for ?_
  refine j_itR ?_
  refine jl_cons ?_
  refine j_cI ?_
  refine jl_cons ?_
  refine j_op2 ?_
  refine j_var (i := 0) rfl ?_
  refine j_cI ?_
  refine j_lift rfl ?_
  refine jl_nil ?_
  refine j_liftG (g := b62 (2 : Int) && b62 (size + (1 : Int))) (fun g => w_range2 g) ?_
  refine k_forV (Γl := fun (s2 : (List Int)) => [some (D.int size), some ((eL D.int) s2), none, none, none]) (s0 := row_1) (f := p__law_triangle_b2) (by exact (Le.some _ (Le.some _ (Le.none _ (Le.none _ (Le.none _ Le.nil)))))) (fun _ => tg_one) ?_ ?_
  · intro s2 many_3
    change J [some (D.int size), some ((eL D.int) s2), some (D.int many_3), none, none] _ _ _
    unfold p__law_triangle_b2
    refine k_seq ?_
    refine k_asgO ?_
    refine j_lst ?_
    refine jl_cons ?_
    refine j_cI ?_
    refine jl_nil ?_
    refine j_val (d := eL D.int [(0 : Int)]) rfl ?_
    refine k_setOL (en := D.int) (xs := [(0 : Int)]) ?_
    intro later_4
    change J [some (D.int size), some ((eL D.int) s2), some (D.int many_3), some ((eL D.int) later_4), none] _ _ _
    refine k_seq ?_
    refine k_for ?_
    refine j_itV ?_
    refine j_rev ?_
    refine j_var (i := 1) rfl ?_
    refine j_lift w_revL ?_
    refine j_lift (d := eL D.int s2.reverse) rfl ?_
    refine k_forV (Γl := fun (s5 : (List Int)) => [some (D.int size), some ((eL D.int) s2), some (D.int many_3), some ((eL D.int) s5), none]) (s0 := later_4) (f := p__law_triangle_b1) (by exact (Le.some _ (Le.some _ (Le.some _ (Le.some _ (Le.none _ Le.nil)))))) (fun _ => tg_one) ?_ ?_
    · intro s5 one_6
      change J [some (D.int size), some ((eL D.int) s2), some (D.int many_3), some ((eL D.int) s5), some (D.int one_6)] _ _ _
      unfold p__law_triangle_b1
      refine k_seq ?_
      refine k_app ?_
      refine j_op2 ?_
      refine j_idx ?_
      refine j_var (i := 3) rfl ?_
      refine j_neg ?_
      refine j_cI ?_
      refine j_lift (d := .int (-(1 : Int))) rfl ?_
      refine j_ix (en := D.int) w_idxL ?_
      intro v7
      refine j_var (i := 4) rfl ?_
      refine j_lift rfl ?_
      refine k_appV (en := D.int) (xs := s5) (v := (v7 + one_6)) rfl ?_
      intro later_8
      change J [some (D.int size), some ((eL D.int) s2), some (D.int many_3), some ((eL D.int) later_8), some (D.int one_6)] _ _ _
      refine k_skip ?_
      exact k_nilN (by exact (Le.some _ (Le.some _ (Le.some _ (Le.some _ (Le.none _ Le.nil))))))
    intro s5
    change J [some (D.int size), some ((eL D.int) s2), some (D.int many_3), some ((eL D.int) s5), none] _ _ _
    refine k_seq ?_
    refine k_frz ?_
    refine k_seq ?_
    refine k_asg ?_
    refine j_var (i := 3) rfl ?_
    refine k_set ?_
    change J [some (D.int size), some ((eL D.int) s5), some (D.int many_3), some ((eL D.int) s5), none] _ _ _
    refine k_skip ?_
    exact k_nilN (by exact (Le.some _ (Le.some _ (Le.none _ (Le.none _ (Le.none _ Le.nil))))))
  intro s2
  change J [some (D.int size), some ((eL D.int) s2), none, none, none] _ _ _
  refine k_ret ?_
  refine j_rev ?_
  refine j_var (i := 1) rfl ?_
  refine j_lift w_revL ?_
  exact j_ret (.inl rfl)
theorem q_is_order (n : Nat) (value : D) : FE (callN Φ (n + 4) 34 [eD value]) (p_is_order value) D.bl := by
  refine fe_run (n := n + 3) (F := F_is_order) rfl rfl rfl (Γ := [some (eD value)]) rfl ?_
  unfold p_is_order
  dsimp only [F_is_order]
  refine k_ret ?_
  refine j_call ?_
  refine jl_cons ?_
  refine j_var (i := 0) rfl ?_
  refine jl_nil ?_
  refine j_fe (q_fits_order (n + 0) _) ?_
  intro r1
  exact j_ret (.inl rfl)
theorem q_fall_places (n : Nat) (order : (List Int)) : FE (callN Φ (n + 5) 35 [(eT D.int) order]) (p_fall_places order) (eT D.int) := by
  refine fe_run (n := n + 4) (F := F_fall_places) rfl rfl rfl (Γ := [some ((eT D.int) order)]) rfl ?_
  unfold p_fall_places
  dsimp only [F_fall_places]
  refine k_seq ?_
  refine k_exp ?_
  refine j_call ?_
  refine jl_cons ?_
  refine j_var (i := 0) rfl ?_
  refine jl_nil ?_
  refine j_fe (q_need_order (n + 0) _) ?_
  intro r1
  refine k_ret ?_
  refine j_b1 ?_
  refine j_call ?_
  refine jl_cons ?_
  refine j_var (i := 0) rfl ?_
  refine jl_nil ?_
  refine j_fe (q_falls_in (n + 3) _) ?_
  intro r2
  refine j_lift (d := (eT D.int) r2) rfl ?_
  exact j_ret (.inl rfl)
theorem q_upside_down_in (n : Nat) (order : (List Int)) : FE (callN Φ (n + 1) 36 [(eT D.int) order]) (p_upside_down_in order) (eT D.int) := by
  refine fe_run (n := n + 0) (F := F_upside_down_in) rfl rfl rfl (Γ := [some ((eT D.int) order), none]) rfl ?_
  unfold p_upside_down_in
  dsimp only [F_upside_down_in]
  refine k_ret ?_
  refine j_b1 ?_
  refine j_comp ?_
  refine j_itV ?_
  refine j_var (i := 0) rfl ?_
  refine j_lift (d := eL D.int order) rfl ?_
  refine j_compPM (eb := D.int) (f := fun value_1 => (((order.length : Int) - (1 : Int)) - value_1)) tg_one ?_ ?_
  · intro value_1
    refine rp_of ?_
    refine j_op2 ?_
    refine j_op2 ?_
    refine j_b1 ?_
    refine j_var (i := 0) rfl ?_
    refine j_lift w_lenT ?_
    refine j_cI ?_
    refine j_lift rfl ?_
    refine j_var (i := 1) rfl ?_
    refine j_lift rfl ?_
    exact j_ret rfl
  refine j_lift (d := (eT D.int) (order.map fun value_1 => (((order.length : Int) - (1 : Int)) - value_1))) rfl ?_
  exact j_ret (.inl rfl)
theorem q_upside_down (n : Nat) (order : (List Int)) : FE (callN Φ (n + 5) 37 [(eT D.int) order]) (p_upside_down order) (eT D.int) := by
  refine fe_run (n := n + 4) (F := F_upside_down) rfl rfl rfl (Γ := [some ((eT D.int) order)]) rfl ?_
  unfold p_upside_down
  dsimp only [F_upside_down]
  refine k_seq ?_
  refine k_exp ?_
  refine j_call ?_
  refine jl_cons ?_
  refine j_var (i := 0) rfl ?_
  refine jl_nil ?_
  refine j_fe (q_need_order (n + 0) _) ?_
  intro r1
  refine k_ret ?_
  refine j_call ?_
  refine jl_cons ?_
  refine j_var (i := 0) rfl ?_
  refine jl_nil ?_
  refine j_fe (q_upside_down_in (n + 3) _) ?_
  intro r2
  exact j_ret (.inl rfl)
theorem q__law_right (n : Nat) (size : Int) : FE (callN Φ (n + 13) 38 [.cup, D.int size]) (p__law_right size) D.bl := by
  refine fe_run (n := n + 12) (F := F__law_right) rfl rfl rfl (Γ := [some D.cup, some (D.int size), none, none, none, none, none, none, none]) rfl ?_
  unfold p__law_right
  dsimp only [F__law_right]
  refine k_seq ?_
  refine k_asg ?_
  refine j_call ?_
  refine jl_cons ?_
  refine j_var (i := 1) rfl ?_
  refine jl_nil ?_
  refine j_fe (q__law_counts (n + 11) _) ?_
  intro r1
  refine k_set ?_
  change J [some D.cup, some (D.int size), some ((eL D.int) r1), none, none, none, none, none, none] _ _ _
  refine k_seq ?_
  refine k_asg ?_
  refine j_idx ?_
  refine j_var (i := 2) rfl ?_
  refine j_neg ?_
  refine j_cI ?_
  refine j_lift (d := .int (-(1 : Int))) rfl ?_
  refine j_ix (en := D.int) w_idxL ?_
  intro v2
  refine k_set ?_
  change J [some D.cup, some (D.int size), some ((eL D.int) r1), some (D.int v2), none, none, none, none, none] _ _ _
  refine k_seq ?_
  refine k_ite ?_
  refine j_not ?_
  refine j_call ?_
  refine jl_cons ?_
  refine j_call ?_
  refine jl_cons ?_
  refine j_var (i := 1) rfl ?_
  refine jl_nil ?_
  refine j_fe (q_count_zigzags (n + 8) _) ?_
  intro r3
  refine jl_cons ?_
  refine j_var (i := 3) rfl ?_
  refine jl_nil ?_
  refine j_fe (q__law_like (n + 0) _ _) ?_
  intro r4
  refine j_lift (d := .bl (!r4)) rfl ?_
  refine k_iteV ?_ ?_
  · refine k_ret ?_
    refine j_cB ?_
    exact j_ret (.inl rfl)
  · refine k_skip ?_
    refine k_seq ?_
    refine k_ite ?_
    refine j_andE (re_of ?_) (re_of ?_) ?_
    · refine j_op2 ?_
      refine j_var (i := 1) rfl ?_
      refine j_cI ?_
      refine j_lift rfl ?_
      exact j_ret rfl
    · refine j_not ?_
      refine j_call ?_
      refine jl_cons ?_
      refine j_comp ?_
      refine j_itR ?_
      refine jl_cons ?_
      refine j_var (i := 1) rfl ?_
      refine jl_nil ?_
      refine j_liftG (g := b62 size) (fun g => w_range1 g) ?_
      refine j_compEM (eb := D.int) tg_one ?_ ?_
      · intro first_5
        refine re_of ?_
        refine j_call ?_
        refine jl_cons ?_
        refine j_var (i := 1) rfl ?_
        refine jl_cons ?_
        refine j_var (i := 8) rfl ?_
        refine jl_nil ?_
        refine j_fe (q_zigzags_from (n + 8) _ _) ?_
        intro r6
        exact j_ret rfl
      intro l7
      refine jl_cons ?_
      refine j_call ?_
      refine jl_cons ?_
      refine j_var (i := 1) rfl ?_
      refine jl_nil ?_
      refine j_fe (q__law_triangle (n + 11) _) ?_
      intro r8
      refine jl_nil ?_
      refine j_fe (q__law_like (n + 0) _ _) ?_
      intro r9
      refine j_lift (d := .bl (!r9)) rfl ?_
      exact j_ret rfl
    intro b10
    refine k_iteV ?_ ?_
    · refine k_ret ?_
      refine j_cB ?_
      exact j_ret (.inl rfl)
    · refine k_skip ?_
      refine k_seq ?_
      refine k_asg ?_
      refine j_call ?_
      refine jl_cons ?_
      refine j_var (i := 0) rfl ?_
      refine jl_cons ?_
      refine j_lst ?_
      refine jl_cons ?_
      refine j_cI ?_
      refine jl_cons ?_
      refine j_op2 ?_
      refine j_var (i := 3) rfl ?_
      refine j_cI ?_
      refine j_lift rfl ?_
      refine jl_cons ?_
      refine j_call ?_
      refine jl_cons ?_
      refine j_var (i := 0) rfl ?_
      refine jl_cons ?_
      refine j_var (i := 3) rfl ?_
      refine jl_nil ?_
      refine j_fe (q__law_roll (n + 11) _) ?_
      intro r11
      refine jl_nil ?_
      refine j_val (d := eL D.int [(0 : Int), (v2 - (1 : Int)), r11]) rfl ?_
      refine jl_nil ?_
      refine j_fe (q__law_some_L (n + 10) _) ?_
      intro r12
      refine k_set ?_
      change J [some D.cup, some (D.int size), some ((eL D.int) r1), some (D.int v2), some (D.int r12), none, none, none, none] _ _ _
      refine k_seq ?_
      refine k_asg ?_
      refine j_call ?_
      refine jl_cons ?_
      refine j_var (i := 1) rfl ?_
      refine jl_cons ?_
      refine j_var (i := 4) rfl ?_
      refine jl_nil ?_
      refine j_fe (q_zigzag_with (n + 8) _ _) ?_
      intro r13
      refine k_set ?_
      change J [some D.cup, some (D.int size), some ((eL D.int) r1), some (D.int v2), some (D.int r12), some ((eT D.int) r13), none, none, none] _ _ _
      refine k_seq ?_
      refine k_ite ?_
      refine j_not ?_
      refine j_call ?_
      refine jl_cons ?_
      refine j_lst ?_
      refine jl_cons ?_
      refine j_call ?_
      refine jl_cons ?_
      refine j_var (i := 5) rfl ?_
      refine jl_nil ?_
      refine j_fe (q_is_order (n + 8) _) ?_
      intro r14
      refine jl_cons ?_
      refine j_call ?_
      refine jl_cons ?_
      refine j_var (i := 5) rfl ?_
      refine jl_nil ?_
      refine j_fe (q_is_zigzag (n + 7) _) ?_
      intro r15
      refine jl_cons ?_
      refine j_call ?_
      refine jl_cons ?_
      refine j_var (i := 5) rfl ?_
      refine jl_nil ?_
      refine j_fe (q_number_of_zigzag (n + 7) _) ?_
      intro r16
      refine jl_cons ?_
      refine j_call ?_
      refine jl_cons ?_
      refine j_var (i := 5) rfl ?_
      refine jl_nil ?_
      refine j_fe (q_fall_places (n + 7) _) ?_
      intro r17
      refine jl_nil ?_
      refine j_val (d := eD (D.lst [(D.bl r14), (D.bl r15), (D.int r16), ((eT D.int) r17)])) rfl ?_
      refine jl_cons ?_
      refine j_lst ?_
      refine jl_cons ?_
      refine j_cB ?_
      refine jl_cons ?_
      refine j_cB ?_
      refine jl_cons ?_
      refine j_var (i := 4) rfl ?_
      refine jl_cons ?_
      refine j_b1 ?_
      refine j_tup ?_
      refine jl_cons ?_
      refine j_cI ?_
      refine jl_cons ?_
      refine j_var (i := 1) rfl ?_
      refine jl_cons ?_
      refine j_cI ?_
      refine jl_nil ?_
      refine j_val rfl ?_
      refine j_liftG (g := rg3Ok' (2 : Int) size (2 : Int)) (fun g => w_tupleR3 g) ?_
      refine jl_nil ?_
      refine j_val (d := eD (D.lst [(D.bl true), (D.bl true), (D.int r12), ((eT D.int) (rgS (2 : Int) (2 : Int) (rgN (2 : Int) size (2 : Int)).toNat))])) rfl ?_
      refine jl_nil ?_
      refine j_fe (q__law_like (n + 0) _ _) ?_
      intro r18
      refine j_lift (d := .bl (!r18)) rfl ?_
      refine k_iteV ?_ ?_
      · refine k_ret ?_
        refine j_cB ?_
        exact j_ret (.inl rfl)
      · refine k_skip ?_
        refine k_seq ?_
        refine k_ite ?_
        refine j_orE (re_of ?_) (re_of ?_) ?_
        · refine j_op2 ?_
          refine j_b1 ?_
          refine j_var (i := 5) rfl ?_
          refine j_lift w_lenT ?_
          refine j_var (i := 1) rfl ?_
          refine j_lift (w_ne (e := D.int) (x := (r13.length : Int)) (y := size)) ?_
          exact j_ret rfl
        · refine j_not ?_
          refine j_call ?_
          refine jl_cons ?_
          refine j_var (i := 5) rfl ?_
          refine jl_nil ?_
          refine j_fe (q__law_is_zigzag (n + 10) _) ?_
          intro r19
          refine j_lift (d := .bl (!r19)) rfl ?_
          exact j_ret rfl
        intro b20
        refine k_iteV ?_ ?_
        · refine k_ret ?_
          refine j_cB ?_
          exact j_ret (.inl rfl)
        · refine k_skip ?_
          refine k_seq ?_
          refine k_ite ?_
          refine j_andE (re_of ?_) (re_of ?_) ?_
          · refine j_op2 ?_
            refine j_op2 ?_
            refine j_var (i := 4) rfl ?_
            refine j_cI ?_
            refine j_lift rfl ?_
            refine j_var (i := 3) rfl ?_
            refine j_lift rfl ?_
            exact j_ret rfl
          · refine j_not ?_
            refine j_op2 ?_
            refine j_var (i := 5) rfl ?_
            refine j_call ?_
            refine jl_cons ?_
            refine j_var (i := 1) rfl ?_
            refine jl_cons ?_
            refine j_op2 ?_
            refine j_var (i := 4) rfl ?_
            refine j_cI ?_
            refine j_lift rfl ?_
            refine jl_nil ?_
            refine j_fe (q_zigzag_with (n + 8) _ _) ?_
            intro r21
            refine j_lift w_ltT ?_
            refine j_lift (d := .bl (!(lexI r13 r21))) rfl ?_
            exact j_ret rfl
          intro b22
          refine k_iteV ?_ ?_
          · refine k_ret ?_
            refine j_cB ?_
            exact j_ret (.inl rfl)
          · refine k_skip ?_
            refine k_seq ?_
            refine k_ite ?_
            refine j_op2 ?_
            refine j_var (i := 1) rfl ?_
            refine j_cI ?_
            refine j_lift rfl ?_
            refine k_iteV ?_ ?_
            · refine k_seq ?_
              refine k_asg ?_
              refine j_b1 ?_
              refine j_slc ?_
              refine j_call ?_
              refine jl_cons ?_
              refine j_var (i := 1) rfl ?_
              refine jl_nil ?_
              refine j_fe (q__law_triangle (n + 11) _) ?_
              intro r23
              refine j_cN ?_
              refine j_idx ?_
              refine j_var (i := 5) rfl ?_
              refine j_cI ?_
              refine j_ix (en := D.int) w_idxT ?_
              intro v24
              refine j_lift (w_slcL (lo := none) (hi := (some v24)) rfl rfl) ?_
              refine j_lift w_sumL ?_
              refine k_setL (en := D.int) (v := (cut r23 none (some v24)).sum) ?_
              intro ahead_25
              change J [some D.cup, some (D.int size), some ((eL D.int) r1), some (D.int v2), some (D.int r12), some ((eT D.int) r13), some (D.int ahead_25), none, none] _ _ _
              refine k_seq ?_
              refine k_ite ?_
              refine j_not ?_
              refine j_chain ?_
              refine j_var (i := 6) rfl ?_
              refine j_var (i := 4) rfl ?_
              refine j_chE (en := D.int) (u := (decide (ahead_25 ≤ r12))) (v := fun z30 => (decide (r12 < z30))) rfl (re_of ?_) (fun _ => rfl) ?_
              · refine j_op2 ?_
                refine j_var (i := 6) rfl ?_
                refine j_idx ?_
                refine j_call ?_
                refine jl_cons ?_
                refine j_var (i := 1) rfl ?_
                refine jl_nil ?_
                refine j_fe (q__law_triangle (n + 11) _) ?_
                intro r26
                refine j_idx ?_
                refine j_var (i := 5) rfl ?_
                refine j_cI ?_
                refine j_ix (en := D.int) w_idxT ?_
                intro v27
                refine j_ix (en := D.int) w_idxL ?_
                intro v28
                refine j_lift rfl ?_
                exact j_ret rfl
              intro b29
              refine j_lift (d := .bl (!b29)) rfl ?_
              refine k_iteV ?_ ?_
              · refine k_ret ?_
                refine j_cB ?_
                exact j_ret (.inl rfl)
              · refine k_skip ?_
                refine k_skip ?_
                refine k_seq ?_
                refine k_asg ?_
                refine j_b1 ?_
                refine j_call ?_
                refine jl_cons ?_
                refine j_var (i := 0) rfl ?_
                refine jl_cons ?_
                refine j_var (i := 1) rfl ?_
                refine jl_nil ?_
                refine j_fe (q__law_near_order (n + 9) _) ?_
                intro r31
                refine j_lift (d := (eT D.int) r31) rfl ?_
                refine k_set ?_
                change J [some D.cup, some (D.int size), some ((eL D.int) r1), some (D.int v2), some (D.int r12), some ((eT D.int) r13), some (D.int ahead_25), some ((eT D.int) r31), none] _ _ _
                refine k_ret ?_
                refine j_call ?_
                refine jl_cons ?_
                refine j_lst ?_
                refine jl_cons ?_
                refine j_call ?_
                refine jl_cons ?_
                refine j_var (i := 7) rfl ?_
                refine jl_nil ?_
                refine j_fe (q_is_zigzag (n + 7) _) ?_
                intro r32
                refine jl_cons ?_
                refine j_call ?_
                refine jl_cons ?_
                refine j_call ?_
                refine jl_cons ?_
                refine j_var (i := 5) rfl ?_
                refine jl_nil ?_
                refine j_fe (q_upside_down (n + 7) _) ?_
                intro r33
                refine jl_nil ?_
                refine j_fe (q_is_zigzag (n + 7) _) ?_
                intro r34
                refine jl_nil ?_
                refine j_val (d := eD (D.lst [(D.bl r32), (D.bl r34)])) rfl ?_
                refine jl_cons ?_
                refine j_lst ?_
                refine jl_cons ?_
                refine j_call ?_
                refine jl_cons ?_
                refine j_var (i := 7) rfl ?_
                refine jl_nil ?_
                refine j_fe (q__law_is_zigzag (n + 10) _) ?_
                intro r35
                refine jl_cons ?_
                refine j_op2 ?_
                refine j_var (i := 1) rfl ?_
                refine j_cI ?_
                refine j_lift rfl ?_
                refine jl_nil ?_
                refine j_val (d := eD (D.lst [(D.bl r35), (D.bl (decide (size < (2 : Int))))])) rfl ?_
                refine jl_nil ?_
                refine j_fe (q__law_like (n + 0) _ _) ?_
                intro r36
                exact j_ret (.inl rfl)
            · refine k_skip ?_
              refine k_seq ?_
              refine k_asg ?_
              refine j_b1 ?_
              refine j_call ?_
              refine jl_cons ?_
              refine j_var (i := 0) rfl ?_
              refine jl_cons ?_
              refine j_var (i := 1) rfl ?_
              refine jl_nil ?_
              refine j_fe (q__law_near_order (n + 9) _) ?_
              intro r37
              refine j_lift (d := (eT D.int) r37) rfl ?_
              refine k_set ?_
              change J [some D.cup, some (D.int size), some ((eL D.int) r1), some (D.int v2), some (D.int r12), some ((eT D.int) r13), none, some ((eT D.int) r37), none] _ _ _
              refine k_ret ?_
              refine j_call ?_
              refine jl_cons ?_
              refine j_lst ?_
              refine jl_cons ?_
              refine j_call ?_
              refine jl_cons ?_
              refine j_var (i := 7) rfl ?_
              refine jl_nil ?_
              refine j_fe (q_is_zigzag (n + 7) _) ?_
              intro r38
              refine jl_cons ?_
              refine j_call ?_
              refine jl_cons ?_
              refine j_call ?_
              refine jl_cons ?_
              refine j_var (i := 5) rfl ?_
              refine jl_nil ?_
              refine j_fe (q_upside_down (n + 7) _) ?_
              intro r39
              refine jl_nil ?_
              refine j_fe (q_is_zigzag (n + 7) _) ?_
              intro r40
              refine jl_nil ?_
              refine j_val (d := eD (D.lst [(D.bl r38), (D.bl r40)])) rfl ?_
              refine jl_cons ?_
              refine j_lst ?_
              refine jl_cons ?_
              refine j_call ?_
              refine jl_cons ?_
              refine j_var (i := 7) rfl ?_
              refine jl_nil ?_
              refine j_fe (q__law_is_zigzag (n + 10) _) ?_
              intro r41
              refine jl_cons ?_
              refine j_op2 ?_
              refine j_var (i := 1) rfl ?_
              refine j_cI ?_
              refine j_lift rfl ?_
              refine jl_nil ?_
              refine j_val (d := eD (D.lst [(D.bl r41), (D.bl (decide (size < (2 : Int))))])) rfl ?_
              refine jl_nil ?_
              refine j_fe (q__law_like (n + 0) _ _) ?_
              intro r42
              exact j_ret (.inl rfl)
theorem q_law (n : Nat) (script : List Int) : FE (callN Φ (n + 14) 39 [.scr script]) (p_law script) D.bl := by
  refine fe_run (n := n + 13) (F := F_law) rfl rfl rfl (Γ := [some (D.scr script), none, none]) rfl ?_
  unfold p_law
  dsimp only [F_law]
  refine k_seq ?_
  refine k_ite ?_
  refine j_not ?_
  refine j_call ?_
  refine jl_nil ?_
  refine j_fe (q__law_written_right (n + 0)) ?_
  intro r1
  refine j_lift (d := .bl (!r1)) rfl ?_
  refine k_iteV ?_ ?_
  · refine k_ret ?_
    refine j_cB ?_
    exact j_ret (.inl rfl)
  · refine k_skip ?_
    refine k_seq ?_
    refine k_asg ?_
    refine j_call ?_
    refine jl_cons ?_
    refine j_var (i := 0) rfl ?_
    refine jl_nil ?_
    refine j_fe (q__law_cup (n + 12) _) ?_
    intro r2
    refine k_set ?_
    change J [some (D.scr script), some D.cup, none] _ _ _
    refine k_seq ?_
    refine k_for ?_
    refine j_itV ?_
    refine j_tup ?_
    refine jl_cons ?_
    refine j_call ?_
    refine jl_cons ?_
    refine j_var (i := 1) rfl ?_
    refine jl_cons ?_
    refine j_cI ?_
    refine jl_nil ?_
    refine j_fe (q__law_roll (n + 12) _) ?_
    intro r3
    refine jl_cons ?_
    refine j_op2 ?_
    refine j_cI ?_
    refine j_call ?_
    refine jl_cons ?_
    refine j_var (i := 1) rfl ?_
    refine jl_cons ?_
    refine j_cI ?_
    refine jl_nil ?_
    refine j_fe (q__law_roll (n + 12) _) ?_
    intro r4
    refine j_lift rfl ?_
    refine jl_cons ?_
    refine j_call ?_
    refine jl_cons ?_
    refine j_var (i := 1) rfl ?_
    refine jl_cons ?_
    refine j_cI ?_
    refine jl_nil ?_
    refine j_fe (q__law_roll (n + 12) _) ?_
    intro r5
    refine jl_cons ?_
    refine j_cI ?_
    refine jl_nil ?_
    refine j_val (d := (eT D.int) [r3, ((4 : Int) + r4), r5, (30 : Int)]) rfl ?_
    refine j_lift (d := eL D.int [r3, ((4 : Int) + r4), r5, (30 : Int)]) rfl ?_
    refine k_forR (Γl := fun (s6 : Unit) => [some (D.scr script), some D.cup, none]) (s0 := ()) (f := p_law_b1) (g := fun v => v) (er := D.bl) (by exact (Le.some _ (Le.some _ (Le.none _ Le.nil)))) (fun _ => tg_one) ?_ (fun _ => .inl rfl) ?_
    · intro s6 size_7
      change J [some (D.scr script), some D.cup, some (D.int size_7)] _ _ _
      unfold p_law_b1
      refine k_seq ?_
      refine k_ite ?_
      refine j_not ?_
      refine j_call ?_
      refine jl_cons ?_
      refine j_var (i := 1) rfl ?_
      refine jl_cons ?_
      refine j_var (i := 2) rfl ?_
      refine jl_nil ?_
      refine j_fe (q__law_right (n + 0) _) ?_
      intro r8
      refine j_lift (d := .bl (!r8)) rfl ?_
      refine k_iteV ?_ ?_
      · refine k_ret ?_
        refine j_cB ?_
        exact j_ret rfl
      · refine k_skip ?_
        refine k_skip ?_
        exact k_nilL (by exact (Le.some _ (Le.some _ (Le.none _ Le.nil))))
    intro s6
    change J [some (D.scr script), some D.cup, none] _ _ _
    refine k_ret ?_
    refine j_call ?_
    refine jl_cons ?_
    refine j_call ?_
    refine jl_cons ?_
    refine j_var (i := 1) rfl ?_
    refine jl_cons ?_
    refine j_cI ?_
    refine jl_nil ?_
    refine j_fe (q__law_roll (n + 12) _) ?_
    intro r9
    refine jl_nil ?_
    refine j_fe (q__law_small_right (n + 0) _) ?_
    intro r10
    exact j_ret (.inl rfl)
end K
end PF

/-! C1: lists of ints, further -/
namespace PF
theorem rgI_eq : ∀ (n : Nat) (a : Int), rgI a n = (List.range n).map fun k : Nat => a + (k : Int)
  | 0, _ => rfl
  | n + 1, a => by
    show a :: rgI (a + 1) n = _
    rw [rgI_eq n (a + 1), List.range_succ_eq_map, List.map_cons, List.map_map]
    congr 1
    · omega
    · refine List.map_congr_left fun k _ => ?_
      show a + 1 + (k : Int) = a + ((k + 1 : Nat) : Int)
      omega
theorem rgI_upto (n : Nat) : rgI 0 n = upto n := by
  rw [rgI_eq]
  exact List.map_congr_left fun k _ => by omega
theorem rgI_toNat (n : Nat) : rgI 0 (n : Int).toNat = upto n := by rw [Int.toNat_natCast, rgI_upto]
theorem rgI_app : ∀ (m n : Nat) (a : Int), rgI a (m + n) = rgI a m ++ rgI (a + m) n
  | 0, n, a => by
    rw [Nat.zero_add, show a + ((0 : Nat) : Int) = a by omega]
    rfl
  | m + 1, n, a => by
    rw [show m + 1 + n = (m + n) + 1 by omega]
    show a :: rgI (a + 1) (m + n) = a :: (rgI (a + 1) m ++ rgI (a + ((m + 1 : Nat) : Int)) n)
    rw [rgI_app m n (a + 1), show a + 1 + (m : Int) = a + ((m + 1 : Nat) : Int) by omega]
theorem mem_rgI {n : Nat} {a x : Int} : x ∈ rgI a n ↔ a ≤ x ∧ x < a + n := by
  rw [rgI_eq, List.mem_map]
  constructor
  · rintro ⟨k, hk, rfl⟩
    have := List.mem_range.mp hk
    omega
  · rintro ⟨h1, h2⟩
    exact ⟨(x - a).toNat, List.mem_range.mpr (by omega), by omega⟩
theorem rgI_shift (n : Nat) (a b : Int) : (rgI a n).map (fun x => x + b) = rgI (a + b) n := by
  rw [rgI_eq, rgI_eq, List.map_map]
  exact List.map_congr_left fun k _ => by show a + (k : Int) + b = a + b + (k : Int); omega
theorem rgI_lt : ∀ (n : Nat) (a : Int), (rgI a n).Pairwise (· < ·)
  | 0, _ => .nil
  | n + 1, a => List.pairwise_cons.mpr ⟨fun x hx => by have := mem_rgI.mp hx; omega, rgI_lt n (a + 1)⟩
theorem rgI_le (n : Nat) (a : Int) : (rgI a n).Pairwise (· ≤ ·) := (rgI_lt n a).imp fun h => Int.le_of_lt h
theorem rgI_nodup (n : Nat) (a : Int) : (rgI a n).Nodup := (rgI_lt n a).imp fun h => by omega
theorem upto_succ' (n : Nat) : upto (n + 1) = upto n ++ [(n : Int)] := by
  unfold upto
  rw [List.range_succ, List.map_append]
  rfl
theorem perm_of {l m : List Int} (h1 : l.Nodup) (h2 : m.Nodup) (h : ∀ x, x ∈ l ↔ x ∈ m) : l.Perm m := by
  rw [List.perm_ext_iff_of_nodup h1 h2]
  exact h
theorem sortI_iff {l m : List Int} (hs : m.Pairwise (· ≤ ·)) : sortI l = m ↔ l.Perm m := by
  constructor
  · rintro rfl
    exact (sortI_ok l).2.symm
  · exact fun h => sortI_of h hs
theorem sortI_id {l : List Int} (hs : l.Pairwise (· ≤ ·)) : sortI l = l := sortI_of (.refl _) hs
theorem sortI_len (l : List Int) : (sortI l).length = l.length := (sortI_ok l).2.length_eq
/-- as many, all of them there, none twice: all of them -/
theorem perm_of_sub : ∀ {m l : List Int}, l.Nodup → (∀ x ∈ l, x ∈ m) → m.length ≤ l.length → l.Perm m
  | m, [], h1, h2, h3 => by
    cases m with
    | nil => exact .refl _
    | cons a r => simp at h3
  | m, a :: l, h1, h2, h3 => by
    have ha : a ∈ m := h2 a (by simp)
    have hm := List.perm_cons_erase ha
    have ih : l.Perm (m.erase a) := perm_of_sub (List.nodup_cons.mp h1).2 (fun x hx => (List.mem_erase_of_ne (fun e => by subst e; exact (List.nodup_cons.mp h1).1 hx)).mpr (h2 x (List.mem_cons_of_mem _ hx))) (by
      rw [List.length_erase_of_mem ha]
      simp at h3
      omega)
    exact (List.Perm.cons a ih).trans hm.symm
theorem memB_iff (xs : List Int) (x : Int) : memB xs x = decide (x ∈ xs) := by
  unfold memB
  induction xs with
  | nil => rfl
  | cons y r ih =>
    rw [List.any_cons, ih]
    by_cases h : y = x
    · subst h; simp
    · simp [h, Ne.symm h]
theorem ifb {α : Type} {b : Bool} (h : b = true) (x y : S α) : (if b = true then x else y) = x := by rw [if_pos h]
theorem ifn {α : Type} {b : Bool} (h : b = false) (x y : S α) : (if b = true then x else y) = y := by rw [h]; rfl
theorem b62_lt {i : Int} (h : -1000000000000 < i) (h2 : i < 1000000000000) : b62 i = true := by
  unfold b62
  rw [decide_eq_true (by omega), decide_eq_true (by omega)]
  rfl
theorem repOk_of {n : Nat} {k : Int} (h : 0 ≤ k) (h2 : k ≤ 1000) (h3 : n ≤ 1000) : repOk n k = true := by
  unfold repOk
  rw [decide_eq_true (by omega), decide_eq_true (by omega), szOk_of (by
    have : n * k.toNat ≤ 1000 * 1000 := Nat.mul_le_mul h3 (by omega)
    omega)]
  rfl
theorem rg2Ok_of {a b : Int} (h1 : -1000000 < a) (h2 : a < 1000000) (h3 : -1000000 < b) (h4 : b < 1000000) (h5 : b - a ≤ 1000000) : rg2Ok a b = true := by
  unfold rg2Ok
  rw [b62_lt (by omega) (by omega), b62_lt (by omega) (by omega), szOk_of (by omega)]
  rfl
theorem idxO_int {xs : List Int} {x : Int} (h : x ∈ xs) (hz : xs.length ≤ 1000000) : idxO xs x = some (xs.idxOf x : Nat) := by
  have h1 := index_lI x xs h hz
  unfold idxO
  rw [szOk_of hz, if_pos rfl]
  have e : (xs.findIdx? fun y => y == x) = some (xs.idxOf x) := by
    rw [List.findIdx?_eq_some_iff_findIdx_eq]
    exact ⟨List.idxOf_lt_length_of_mem h, rfl⟩
  rw [e]
  rfl
theorem atI_get {α : Type} {xs : List α} {i : Int} (h0 : 0 ≤ i) (h : i.toNat < xs.length) : atI xs i = some xs[i.toNat] := by
  unfold atI
  rw [if_pos h0, List.getElem?_eq_getElem h]
theorem stI_set {α : Type} {xs : List α} {i : Int} (v : α) (h0 : 0 ≤ i) (h : i.toNat < xs.length) : stI xs i v = some (xs.set i.toNat v) := by
  unfold stI
  rw [if_pos h0, if_pos h]
theorem popI_get {α : Type} {xs : List α} {i : Int} (h0 : 0 ≤ i) (h : i.toNat < xs.length) (h2 : i < 2 ^ 62) : popI xs i = some (xs.eraseIdx i.toNat, xs[i.toNat]) := by
  unfold popI
  rw [decide_eq_true h0, decide_eq_true h2, List.getElem?_eq_getElem h]
  rfl
theorem intsOf_eL (x : List Int) : intsOf (some (eL D.int x)) = some x := ints_map x
theorem cut_nat {α : Type} (xs : List α) (a b : Nat) : cut xs (some (a : Int)) (some (b : Int)) = (xs.take b).drop a := by
  show (xs.take (if (b : Int) < 0 then ((b : Int) + xs.length).toNat else min (b : Int).toNat xs.length)).drop (if (a : Int) < 0 then ((a : Int) + xs.length).toNat else min (a : Int).toNat xs.length) = _
  rw [if_neg (by omega), if_neg (by omega), Int.toNat_natCast, Int.toNat_natCast]
  have e : xs.take (min b xs.length) = xs.take b := by
    rcases Nat.le_total b xs.length with h | h
    · rw [Nat.min_eq_left h]
    · rw [Nat.min_eq_right h, List.take_of_length_le (Nat.le_refl _), List.take_of_length_le h]
  rw [e]
  rcases Nat.le_total a xs.length with h | h
  · rw [Nat.min_eq_left h]
  · rw [Nat.min_eq_right h, List.drop_eq_nil_of_le (by rw [List.length_take]; omega), List.drop_eq_nil_of_le (by rw [List.length_take]; omega)]
end PF

/-! G1: guards that hold -/
namespace PF
section
variable {β : Type} {k : Unit → S β}
theorem gSz {n : Nat} (h : n ≤ 1000000) : so (gd (szOk n)) k = k () := gd_of (szOk_of h) k
theorem gB1 {i : Int} (h : -1000000000000 < i) (h2 : i < 1000000000000) : so (gd (b62 i)) k = k () := gd_of (b62_lt h h2) k
theorem gB2 {i j : Int} (h : -1000000000000 < i) (h2 : i < 1000000000000) (h3 : -1000000000000 < j) (h4 : j < 1000000000000) : so (gd (b62 i && b62 j)) k = k () := gd_of (by rw [b62_lt h h2, b62_lt h3 h4]; rfl) k
theorem gRg {a b : Int} (h1 : -1000000 < a) (h2 : a < 1000000) (h3 : -1000000 < b) (h4 : b < 1000000) (h5 : b - a ≤ 1000000) : so (gd (rg2Ok a b)) k = k () := gd_of (rg2Ok_of h1 h2 h3 h4 h5) k
theorem gLs {i : Int} (h : -1000000000000 < i) (h2 : i ≤ 1000000) : so (gd (b62 i && szOk i.toNat)) k = k () := gd_of (by rw [b62_lt h (by omega), szOk_of (by omega)]; rfl) k
theorem gRep {n : Nat} {i : Int} (h : 0 ≤ i) (h2 : i ≤ 1000) (h3 : n ≤ 1000) : so (gd (repOk n i)) k = k () := gd_of (repOk_of h h2 h3) k
theorem gMr {i j : Int} (h : -1000000000000000 < j) (h2 : j < 1000000000000000) : so (gd (mulOk i j)) k = k () := gd_of (mulOk_r (by rw [decide_eq_true (by omega), decide_eq_true (by omega)]; rfl)) k
theorem gMl {i j : Int} (h : -1000000000000000 < i) (h2 : i < 1000000000000000) : so (gd (mulOk i j)) k = k () := gd_of (mulOk_l (by rw [decide_eq_true (by omega), decide_eq_true (by omega)]; rfl)) k
theorem gPos {j : Int} (h : 0 < j) : so (gd (decide (0 < j))) k = k () := gd_of (decide_eq_true h) k
theorem log_le {n : Nat} {e : Nat} (h : n < 2 ^ e) : n.log2 ≤ e := by
  by_cases h0 : n = 0
  · subst h0
    rw [show Nat.log2 0 = 0 by decide]
    exact Nat.zero_le _
  · exact Nat.le_of_lt ((Nat.log2_lt h0).mpr h)
theorem gDv {j : Int} (h : 0 < j) (h2 : j.natAbs < 2 ^ 8000) : so (gd (divOk j)) k = k () := gd_of (by
  have := log_le h2
  unfold divOk
  rw [decide_eq_true h, decide_eq_true (by omega)]
  rfl) k
theorem gDvs {j : Int} (h : 0 < j) (h2 : j < 1000000000000000) : so (gd (divOk j)) k = k () := gDv h (Nat.lt_of_lt_of_le (show j.natAbs < 2 ^ 60 by omega) (Nat.pow_le_pow_right (by omega) (by omega)))
/-- of any two numbers of less than 2 ^ 1000 -/
theorem gMb {i j : Int} (h : i.natAbs < 2 ^ 1000) (h2 : j.natAbs < 2 ^ 1000) : so (gd (mulOk i j)) k = k () := gd_of (by
  have h1 := log_le h
  have h3 := log_le h2
  unfold mulOk
  rw [decide_eq_true (show i.natAbs.log2 + j.natAbs.log2 < 1000000 by omega)]
  simp) k
end
theorem big_of {i : Int} {n : Nat} (h : i.natAbs < 2 ^ n) (hn : n ≤ 1000) : i.natAbs < 2 ^ 1000 := Nat.lt_of_lt_of_le h (Nat.pow_le_pow_right (by omega) hn)
theorem atI_n {α : Type} {xs : List α} {n : Nat} (h : n < xs.length) : atI xs (n : Int) = some xs[n] := by rw [atI_nat, List.getElem?_eq_getElem h]
theorem stI_n {α : Type} {xs : List α} {n : Nat} (v : α) (h : n < xs.length) : stI xs (n : Int) v = some (xs.set n v) := by
  rw [stI_set v (Int.natCast_nonneg n) (by rw [Int.toNat_natCast]; exact h), Int.toNat_natCast]
theorem cutF {α : Type} (xs : List α) (a : Int) (h : 0 ≤ a) : cut xs (some a) none = xs.drop a.toNat := by
  show (xs.take xs.length).drop (if a < 0 then (a + xs.length).toNat else min a.toNat xs.length) = _
  rw [if_neg (by omega), List.take_length]
  rcases Nat.le_total a.toNat xs.length with h | h
  · rw [Nat.min_eq_left h]
  · rw [Nat.min_eq_right h, List.drop_eq_nil_of_le (Nat.le_refl _), List.drop_eq_nil_of_le h]
theorem cutT {α : Type} (xs : List α) (a : Int) (h : 0 ≤ a) : cut xs none (some a) = xs.take a.toNat := by
  show (xs.take (if a < 0 then (a + xs.length).toNat else min a.toNat xs.length)).drop 0 = _
  rw [if_neg (by omega), List.drop_zero]
  rcases Nat.le_total a.toNat xs.length with h | h
  · rw [Nat.min_eq_left h]
  · rw [Nat.min_eq_right h, List.take_of_length_le (Nat.le_refl _), List.take_of_length_le h]
theorem cutM {α : Type} (xs : List α) (a b : Int) (h : 0 ≤ a) (h2 : 0 ≤ b) : cut xs (some a) (some b) = (xs.take b.toNat).drop a.toNat := by
  have := cut_nat xs a.toNat b.toNat
  rwa [show ((a.toNat : Nat) : Int) = a by omega, show ((b.toNat : Nat) : Int) = b by omega] at this
theorem good_of {α : Type} {e : α → D} {n : Nat} [i : Go n e] (x : α) : D.good n (e x) = true := i.good x
theorem goodTI (n : Nat) (l : List Int) : D.good (n + 1) (eT D.int l) = true := (inferInstance : Go (n + 1) (eT D.int)).good l
theorem goodLI (n : Nat) (l : List Int) : D.good (n + 1) (eL D.int l) = true := (inferInstance : Go (n + 1) (eL D.int)).good l
theorem rgI_length (n : Nat) (a : Int) : (rgI a n).length = n := rgI_len ..
end PF

/-! C3: orders undone -/
namespace PF
def invI (l : List Int) : List Int := (upto l.length).map fun v => ((l.idxOf v : Nat) : Int)
theorem invI_len (l : List Int) : (invI l).length = l.length := by simp [invI]
theorem map_idx : ∀ (l pre : List Int), (pre ++ l).Nodup → l.map (fun v => (((pre ++ l).idxOf v : Nat) : Int)) = (List.range l.length).map fun i : Nat => ((pre.length + i : Nat) : Int)
  | [], pre, _ => rfl
  | a :: r, pre, h => by
    rw [List.map_cons, List.length_cons, List.range_succ_eq_map, List.map_cons, List.map_map]
    have ih := map_idx r (pre ++ [a]) (by simpa using h)
    have ha : a ∉ pre := fun z => (List.nodup_append.mp h).2.2 _ z _ (by simp) rfl
    congr 1
    · rw [List.idxOf_append, if_neg ha]
      simp
    · rw [show pre ++ a :: r = (pre ++ [a]) ++ r by simp, ih]
      refine List.map_congr_left fun i _ => ?_
      simp
      omega
theorem inv_O (l : List Int) (h : IsO l) : IsO (invI l) := by
  have e := map_idx l [] h.nodup
  have e2 : l.map (fun v => ((l.idxOf v : Nat) : Int)) = upto l.length := by
    rw [show (fun v => ((l.idxOf v : Nat) : Int)) = fun v => ((([] ++ l).idxOf v : Nat) : Int) from rfl, e]
    unfold upto
    exact List.map_congr_left fun i _ => by simp
  unfold IsO
  rw [invI_len, ← e2]
  exact (h.symm).map _
theorem inv_inv (l : List Int) (h : IsO l) : invI (invI l) = l := by
  have hO := inv_O l h
  refine List.ext_getElem (by rw [invI_len, invI_len]) fun i h1 h2 => ?_
  have hm : l[i] ∈ l := List.getElem_mem h2
  obtain ⟨b1, b2⟩ := h.mem.mp hm
  have hw : (l[i]).toNat < (invI l).length := by rw [invI_len]; omega
  have hx : (invI l)[(l[i]).toNat] = (i : Int) := by
    simp only [invI, upto, List.getElem_map, List.getElem_range]
    rw [Int.toNat_of_nonneg b1]
    congr 1
    exact h.nodup.idxOf_getElem i h2
  have e : (invI (invI l))[i]'h1 = (((invI l).idxOf (i : Int) : Nat) : Int) := by
    simp only [invI, upto, List.getElem_map, List.getElem_range]
  rw [e, ← hx, hO.nodup.idxOf_getElem _ hw, Int.toNat_of_nonneg b1]
end PF

/-! G3: codes and tables of orders (plain part of k18) -/
namespace PF
theorem drop_mid (pre : List Int) (a : Int) (r : List Int) : (pre ++ a :: r).drop (pre.length + 1) = r := by
  rw [show pre ++ a :: r = (pre ++ [a]) ++ r by simp]
  exact List.drop_left' (by simp)
/-- how many later ones are smaller, by place -/
def codeI : List Int → List Int
  | [] => []
  | a :: r => (((r.filter fun x => decide (x < a)).length : Nat) : Int) :: codeI r
theorem codeI_len : ∀ l : List Int, (codeI l).length = l.length
  | [] => rfl
  | a :: r => congrArg (· + 1) (codeI_len r)
/-- .. by the place -/
theorem codeI_at (l : List Int) : codeI l = (List.range l.length).map fun i => ((((l.drop (i + 1)).filter fun x => decide (x < (l[i]?).getD 0)).length : Nat) : Int) := by
  induction l with
  | nil => rfl
  | cons a r ih =>
    rw [List.length_cons, List.range_succ_eq_map, List.map_cons, List.map_map]
    show _ :: codeI r = _
    rw [ih]
    rfl
/-- for each value how many larger ones stand ahead -/
def tabAt (l : List Int) (v : Int) : Int := (((l.take (l.idxOf v)).filter fun y => decide (v < y)).length : Nat)
def tabI (l : List Int) : List Int := (upto l.length).map (tabAt l)
/-- a code's entries are small -/
def okC : List Int → Prop
  | [] => True
  | m :: r => 0 ≤ m ∧ m ≤ r.length ∧ okC r
theorem okC_len {c : List Int} : okC c → ∀ i (h : i < c.length), 0 ≤ c[i] ∧ c[i] ≤ (c.length : Int) - 1 - i := by
  induction c with
  | nil => intro _ i h; cases h
  | cons m r ih =>
    intro ⟨h1, h2, h3⟩ i h
    cases i with
    | zero => exact ⟨h1, by simp; omega⟩
    | succ i =>
      have := ih h3 i (by simpa using h)
      simp only [List.getElem_cons_succ, List.length_cons]
      omega
/-- values taken out of L -/
def decI : List Int → List Int → List Int
  | _, [] => []
  | L, m :: r => (L[m.toNat]?).getD 0 :: decI (L.eraseIdx m.toNat) r
theorem decI_perm : ∀ (c L : List Int), okC c → L.length = c.length → (decI L c).Perm L
  | [], L, _, h => by
    have : L = [] := List.length_eq_zero_iff.mp h
    subst this
    exact .refl _
  | m :: r, L, ⟨h1, h2, h3⟩, h => by
    rw [List.length_cons] at h
    have hlt : m.toNat < L.length := by omega
    have ih := decI_perm r (L.eraseIdx m.toNat) h3 (by rw [List.length_eraseIdx, if_pos hlt]; omega)
    show ((L[m.toNat]?).getD 0 :: decI (L.eraseIdx m.toNat) r).Perm L
    rw [List.getElem?_eq_getElem hlt]
    exact (List.Perm.cons _ ih).trans (perm_take_out hlt)
/-- built from the greatest value down: k at its place among the later ones -/
def bldI : Int → List Int → List Int
  | _, [] => []
  | k, m :: r => (bldI (k + 1) r).take m.toNat ++ [k] ++ (bldI (k + 1) r).drop m.toNat
theorem bldI_len : ∀ (c : List Int) (k : Int), (bldI k c).length = c.length
  | [], _ => rfl
  | m :: r, k => by
    show ((bldI (k + 1) r).take m.toNat ++ [k] ++ (bldI (k + 1) r).drop m.toNat).length = r.length + 1
    have := bldI_len r (k + 1)
    simp only [List.length_append, List.length_take, List.length_drop, List.length_singleton]
    omega
theorem split_sorted (a : Int) : ∀ {L : List Int}, L.Pairwise (· < ·) → a ∈ L → L = L.filter (fun x => decide (x < a)) ++ a :: L.filter (fun x => decide (a < x))
  | b :: r, h, hm => by
    have hr := List.Pairwise.of_cons h
    have hb : ∀ x ∈ r, b < x := fun x hx => List.rel_of_pairwise_cons h hx
    by_cases e : a = b
    · subst e
      have e1 : (a :: r).filter (fun x => decide (x < a)) = [] := List.filter_eq_nil_iff.mpr fun x hx => by
        rcases List.mem_cons.mp hx with z | hx
        · simp [z]
        · have := hb x hx
          simp; omega
      have e2 : (a :: r).filter (fun x => decide (a < x)) = r := by
        rw [List.filter_cons, if_neg (by simp)]
        exact List.filter_eq_self.mpr fun x hx => by simpa using hb x hx
      rw [e1, e2]
      rfl
    · have hm' : a ∈ r := (List.mem_cons.mp hm).resolve_left e
      have ih := split_sorted a hr hm'
      have hlt := hb a hm'
      rw [List.filter_cons, if_pos (by simpa using hlt), List.filter_cons, if_neg (by simp; omega)]
      exact congrArg (b :: ·) ih
theorem erase_mid (pre : List Int) (a : Int) (post : List Int) : (pre ++ a :: post).eraseIdx pre.length = pre ++ post := by
  induction pre with
  | nil => rfl
  | cons b r ih => exact congrArg (b :: ·) ih
theorem get_mid (pre : List Int) (a : Int) (post : List Int) : (pre ++ a :: post)[pre.length]? = some a := by
  induction pre with
  | nil => rfl
  | cons b r ih => exact ih
theorem dec_code : ∀ (l L : List Int), l.Perm L → L.Pairwise (· < ·) → decI L (codeI l) = l
  | [], L, h, _ => rfl
  | a :: r, L, h, hs => by
    have hm : a ∈ L := h.mem_iff.mp (by simp)
    have e := split_sorted a hs hm
    generalize hp : L.filter (fun x => decide (x < a)) = pre at e
    generalize L.filter (fun x => decide (a < x)) = post at e
    have hlen : (r.filter fun x => decide (x < a)).length = pre.length := by
      have := (h.filter (fun x => decide (x < a))).length_eq
      rw [List.filter_cons, if_neg (by simp), hp] at this
      exact this
    have hr : r.Perm (pre ++ post) := by
      have h2 := h
      rw [e] at h2
      exact (h2.trans List.perm_middle).cons_inv
    have hs2 : (pre ++ post).Pairwise (· < ·) := by
      rw [e] at hs
      exact hs.sublist ((List.Sublist.refl pre).append (List.sublist_cons_self a post))
    show (L[(((r.filter fun x => decide (x < a)).length : Nat) : Int).toNat]?).getD 0 :: decI (L.eraseIdx (((r.filter fun x => decide (x < a)).length : Nat) : Int).toNat) (codeI r) = a :: r
    rw [Int.toNat_natCast, hlen, e, get_mid, erase_mid, dec_code r _ hr hs2]
    rfl
theorem code_dec : ∀ (c L : List Int), okC c → L.length = c.length → L.Pairwise (· < ·) → codeI (decI L c) = c
  | [], L, _, _, _ => rfl
  | m :: r, L, ⟨h1, h2, h3⟩, hl, hs => by
    rw [List.length_cons] at hl
    have hlt : m.toNat < L.length := by omega
    have ee : L = L.take m.toNat ++ L[m.toNat] :: L.drop (m.toNat + 1) := by
      rw [← List.drop_eq_getElem_cons hlt, List.take_append_drop]
    have ep : L.eraseIdx m.toNat = L.take m.toNat ++ L.drop (m.toNat + 1) := List.eraseIdx_eq_take_drop_succ ..
    have hlen : (L.eraseIdx m.toNat).length = r.length := by rw [List.length_eraseIdx, if_pos hlt]; omega
    have hp := decI_perm r (L.eraseIdx m.toNat) h3 hlen
    have hs2 : (L.eraseIdx m.toNat).Pairwise (· < ·) := hs.sublist (List.eraseIdx_sublist ..)
    have ih := code_dec r (L.eraseIdx m.toNat) h3 hlen hs2
    show codeI ((L[m.toNat]?).getD 0 :: decI (L.eraseIdx m.toNat) r) = _
    rw [List.getElem?_eq_getElem hlt]
    show ((((decI (L.eraseIdx m.toNat) r).filter fun x => decide (x < L[m.toNat])).length : Nat) : Int) :: codeI (decI (L.eraseIdx m.toNat) r) = _
    rw [ih]
    have hcount : ((decI (L.eraseIdx m.toNat) r).filter fun x => decide (x < L[m.toNat])).length = m.toNat := by
      rw [(hp.filter _).length_eq, ep, List.filter_append]
      obtain ⟨_, hB, hAB⟩ := List.pairwise_append.mp (Eq.mp (congrArg (List.Pairwise (· < ·)) ee) hs)
      rw [List.filter_eq_self.mpr fun x hx => decide_eq_true (hAB x hx _ List.mem_cons_self)]
      rw [List.filter_eq_nil_iff.mpr fun x hx => by have := List.rel_of_pairwise_cons hB hx; simp; omega]
      simp
      omega
    rw [hcount, Int.toNat_of_nonneg h1]
theorem upto_lt (n : Nat) : (upto n).Pairwise (· < ·) := by
  unfold upto
  rw [List.pairwise_map]
  exact List.Pairwise.imp (fun {a b} (h : a < b) => by omega) List.pairwise_lt_range
theorem okC_code : ∀ l : List Int, okC (codeI l)
  | [] => trivial
  | a :: r => ⟨by omega, by rw [codeI_len]; have := List.length_filter_le (fun x => decide (x < a)) r; omega, okC_code r⟩
theorem okC_of : ∀ (c : List Int), (∀ i (h : i < c.length), 0 ≤ c[i] ∧ c[i] ≤ (c.length : Int) - 1 - i) → okC c
  | [], _ => trivial
  | m :: r, h => by
    refine ⟨(h 0 (by simp)).1, ?_, okC_of r fun i hi => ?_⟩
    · have := (h 0 (by simp)).2
      simp only [List.getElem_cons_zero, List.length_cons] at this
      omega
    · have := h (i + 1) (by simpa using hi)
      simp only [List.getElem_cons_succ, List.length_cons] at this
      omega
/-! tables -/
def cntA : List Int → Int → Nat
  | [], _ => 0
  | a :: r, w => if a = w then 0 else (if w < a then 1 else 0) + cntA r w
theorem tab_cnt (w : Int) : ∀ l : List Int, ((l.take (l.idxOf w)).filter fun y => decide (w < y)).length = cntA l w
  | [] => rfl
  | a :: r => by
    unfold cntA
    rw [List.idxOf_cons]
    by_cases e : a = w
    · subst e
      simp
    · rw [if_neg e, show (a == w) = false from beq_eq_false_iff_ne.mpr e]
      show (((a :: r).take (r.idxOf w + 1)).filter fun y => decide (w < y)).length = _
      rw [List.take_succ_cons, List.filter_cons, ← tab_cnt w r]
      by_cases h : w < a
      · simp [h]; omega
      · simp [h]
theorem cnt_append (w : Int) (Y : List Int) : ∀ X : List Int, cntA (X ++ Y) w = if w ∈ X then cntA X w else (X.filter fun y => decide (w < y)).length + cntA Y w
  | [] => by simp
  | a :: r => by
    show (if a = w then 0 else (if w < a then 1 else 0) + cntA (r ++ Y) w) = _
    rw [cnt_append w Y r]
    by_cases e : a = w
    · subst e
      simp [cntA]
    · have e' : ¬ w = a := fun z => e z.symm
      by_cases hm : w ∈ r
      · simp [e, e', hm, cntA]
      · rw [if_neg e, if_neg hm, if_neg (show ¬ w ∈ a :: r by simp [e', hm]), List.filter_cons]
        by_cases h : w < a
        · simp [h]; omega
        · simp [h]
theorem bld_ok : ∀ (c : List Int) (k : Int), okC c → (∀ x, x ∈ bldI k c ↔ k ≤ x ∧ x < k + c.length) ∧ (bldI k c).Nodup ∧ ∀ i (h : i < c.length), (cntA (bldI k c) (k + i) : Int) = c[i]
  | [], k, _ => ⟨fun x => by simp [bldI] <;> omega, by simp [bldI], fun i h => by cases h⟩
  | m :: r, k, ⟨h1, h2, h3⟩ => by
    obtain ⟨a1, a2, a3⟩ := bld_ok r (k + 1) h3
    have hlen := bldI_len r (k + 1)
    generalize hF : bldI (k + 1) r = F at a1 a2 a3 hlen
    have hk : k ∉ F := fun z => by have := (a1 k).mp z; omega
    have hb : bldI k (m :: r) = F.take m.toNat ++ k :: F.drop m.toNat := by
      show (bldI (k + 1) r).take m.toNat ++ [k] ++ (bldI (k + 1) r).drop m.toNat = _
      rw [hF]
      simp
    have hp : (F.take m.toNat ++ k :: F.drop m.toNat).Perm (k :: F) := by
      have := List.perm_middle (a := k) (l₁ := F.take m.toNat) (l₂ := F.drop m.toNat)
      rwa [List.take_append_drop] at this
    rw [hb]
    refine ⟨fun x => ?_, hp.nodup_iff.mpr (List.nodup_cons.mpr ⟨hk, a2⟩), fun i hi => ?_⟩
    · rw [hp.mem_iff, List.mem_cons, a1 x, List.length_cons]
      omega
    · cases i with
      | zero =>
        have hkt : k ∉ F.take m.toNat := fun z => hk (List.mem_of_mem_take z)
        rw [show k + ((0 : Nat) : Int) = k by omega, cnt_append, if_neg hkt]
        rw [List.filter_eq_self.mpr fun x hx => by have := (a1 x).mp (List.mem_of_mem_take hx); simp; omega]
        simp only [cntA, if_true, Nat.add_zero, List.length_take, List.getElem_cons_zero]
        omega
      | succ i =>
        have hi' : i < r.length := by simpa using hi
        have h4 := a3 i hi'
        have hw : (k + ((i + 1 : Nat) : Int)) = k + 1 + i := by omega
        rw [hw]
        have hne : ¬ k = k + 1 + (i : Int) := by omega
        have hnl : ¬ (k + 1 + (i : Int)) < k := by omega
        have e0 : cntA (F.take m.toNat ++ k :: F.drop m.toNat) (k + 1 + i) = cntA F (k + 1 + i) := by
          conv => rhs; rw [← List.take_append_drop m.toNat F]
          rw [cnt_append, cnt_append]
          split
          · rfl
          · show _ + (if k = k + 1 + (i : Int) then 0 else (if k + 1 + (i : Int) < k then 1 else 0) + cntA (F.drop m.toNat) (k + 1 + i)) = _
            rw [if_neg hne, if_neg hnl]
            omega
        rw [e0, h4]
        rfl
theorem tabI_len (l : List Int) : (tabI l).length = l.length := by simp [tabI]
theorem tabAt_cnt (l : List Int) (v : Int) : tabAt l v = (cntA l v : Int) := by
  unfold tabAt
  rw [tab_cnt]
theorem tabI_get (l : List Int) (i : Nat) (h : i < l.length) : (tabI l)[i]'(by rw [tabI_len]; exact h) = (cntA l i : Int) := by
  simp only [tabI, upto, List.getElem_map, List.getElem_range, tabAt_cnt]
theorem upto_gt_len (v n : Nat) (h : v < n) : ((upto n).filter fun x => decide ((v : Int) < x)).length = n - 1 - v := by
  induction n with
  | zero => omega
  | succ n ih =>
    have e : upto (n + 1) = upto n ++ [(n : Int)] := by
      unfold upto
      rw [List.range_succ, List.map_append]
      rfl
    rw [e, List.filter_append, List.length_append]
    by_cases hv : v < n
    · rw [ih hv]
      simp [hv]
      omega
    · have : v = n := by omega
      subst this
      rw [List.filter_eq_nil_iff.mpr fun x hx => by have := mem_upto.mp hx; simp; omega]
      simp
theorem okC_tab (l : List Int) (h : IsO l) : okC (tabI l) := by
  refine okC_of _ fun i hi => ?_
  rw [tabI_len] at hi
  rw [tabI_get l i hi, tabI_len]
  refine ⟨by omega, ?_⟩
  have h1 : cntA l i ≤ (l.filter fun x => decide ((i : Int) < x)).length := by
    rw [← tab_cnt]
    exact ((List.take_sublist _ l).filter _).length_le
  rw [(h.filter _).length_eq, upto_gt_len i l.length hi] at h1
  omega
theorem bld_O (c : List Int) (h : okC c) : IsO (bldI 0 c) ∧ tabI (bldI 0 c) = c := by
  obtain ⟨a1, a2, a3⟩ := bld_ok c 0 h
  have hl := bldI_len c 0
  have hO : IsO (bldI 0 c) := by
    unfold IsO
    rw [hl]
    refine (List.perm_ext_iff_of_nodup a2 (upto_nodup _)).mpr fun x => ?_
    rw [a1 x, mem_upto]
    omega
  refine ⟨hO, List.ext_getElem (by rw [tabI_len, hl]) fun i h1 h2 => ?_⟩
  rw [tabI_get _ i (by rw [hl]; exact h2)]
  have := a3 i h2
  rw [show (0 : Int) + (i : Int) = i by omega] at this
  exact this
/-- the order comes back from its table -/
theorem bld_tab (l : List Int) (h : IsO l) : bldI 0 (tabI l) = l := by
  have key : ∀ j : Nat, j ≤ l.length → bldI ((l.length - j : Nat) : Int) ((tabI l).drop (l.length - j)) = l.filter fun x => decide (((l.length - j : Nat) : Int) ≤ x) := by
    intro j
    induction j with
    | zero =>
      intro _
      rw [Nat.sub_zero, List.drop_eq_nil_of_le (by rw [tabI_len]; exact Nat.le_refl _)]
      exact (List.filter_eq_nil_iff.mpr fun x hx => by have := h.mem.mp hx; simp; omega).symm
    | succ j ih =>
      intro hj
      have ih := ih (by omega)
      generalize hv : l.length - (j + 1) = v at *
      have hv1 : l.length - j = v + 1 := by omega
      rw [hv1] at ih
      have hvl : v < l.length := by omega
      have hd : (tabI l).drop v = (cntA l v : Int) :: (tabI l).drop (v + 1) := by
        rw [List.drop_eq_getElem_cons (by rw [tabI_len]; exact hvl), tabI_get l v hvl]
      rw [hd]
      show (bldI ((v : Int) + 1) ((tabI l).drop (v + 1))).take ((cntA l v : Nat) : Int).toNat ++ [(v : Int)] ++ (bldI ((v : Int) + 1) ((tabI l).drop (v + 1))).drop ((cntA l v : Nat) : Int).toNat = _
      rw [show ((v : Int) + 1) = ((v + 1 : Nat) : Int) by omega, ih, Int.toNat_natCast]
      -- the order at v
      have hm : (v : Int) ∈ l := h.mem.mpr (by omega)
      obtain ⟨A, B, e⟩ := List.append_of_mem hm
      have hnd := h.nodup
      rw [e] at hnd
      have hd2 := List.nodup_append.mp hnd
      have hvA : (v : Int) ∉ A := fun z => hd2.2.2 _ z _ (by simp) rfl
      have hvB : (v : Int) ∉ B := (List.nodup_cons.mp hd2.2.1).1
      have fA : A.filter (fun x => decide (((v : Nat) : Int) ≤ x)) = A.filter fun x => decide (((v + 1 : Nat) : Int) ≤ x) := List.filter_congr fun x hx => decide_eq_decide.mpr (by
        have : x ≠ v := fun z => hvA (z ▸ hx)
        omega)
      have fB : B.filter (fun x => decide (((v : Nat) : Int) ≤ x)) = B.filter fun x => decide (((v + 1 : Nat) : Int) ≤ x) := List.filter_congr fun x hx => decide_eq_decide.mpr (by
        have : x ≠ v := fun z => hvB (z ▸ hx)
        omega)
      have fl : l.filter (fun x => decide (((v + 1 : Nat) : Int) ≤ x)) = A.filter (fun x => decide (((v + 1 : Nat) : Int) ≤ x)) ++ B.filter fun x => decide (((v + 1 : Nat) : Int) ≤ x) := by
        rw [e, List.filter_append, List.filter_cons, if_neg (by simp; omega)]
      have fl2 : l.filter (fun x => decide (((v : Nat) : Int) ≤ x)) = A.filter (fun x => decide (((v + 1 : Nat) : Int) ≤ x)) ++ (v : Int) :: B.filter fun x => decide (((v + 1 : Nat) : Int) ≤ x) := by
        rw [e, List.filter_append, List.filter_cons, if_pos (by simp), fA, fB]
      have hc : cntA l v = (A.filter fun x => decide (((v + 1 : Nat) : Int) ≤ x)).length := by
        rw [e, cnt_append, if_neg hvA]
        show _ + (if (v : Int) = v then 0 else _) = _
        rw [if_pos rfl, Nat.add_zero]
        rfl
      rw [fl, hc, fl2, List.take_left' rfl, List.drop_left' rfl]
      simp
  have := key l.length (Nat.le_refl _)
  rw [Nat.sub_self] at this
  have this : bldI 0 (tabI l) = l.filter fun x => decide ((0 : Int) ≤ x) := this
  rw [this]
  exact List.filter_eq_self.mpr fun x hx => by have := h.mem.mp hx; simp; omega
/-! undone -/
theorem take_filter : ∀ (l : List Int) (k : Nat), l.Nodup → l.take k = l.filter fun w => decide (l.idxOf w < k)
  | [], k, _ => by simp
  | a :: r, 0, _ => by
    rw [List.take_zero]
    exact (List.filter_eq_nil_iff.mpr fun x _ => by simp).symm
  | a :: r, k + 1, h => by
    obtain ⟨h1, h2⟩ := List.nodup_cons.mp h
    rw [List.take_succ_cons, List.filter_cons, if_pos (by simp), take_filter r k h2]
    congr 1
    refine List.filter_congr fun x hx => decide_eq_decide.mpr ?_
    rw [List.idxOf_cons, show (a == x) = false from beq_eq_false_iff_ne.mpr fun z => h1 (z ▸ hx)]
    simp
theorem drop_upto (n i : Nat) : (upto n).drop i = (upto n).filter fun w => decide ((i : Int) ≤ w) := by
  have hs := upto_lt n
  have e : upto n = (upto n).take i ++ (upto n).drop i := (List.take_append_drop i _).symm
  conv => rhs; rw [e]
  rw [List.filter_append]
  rw [List.filter_eq_nil_iff.mpr fun x hx => ?_, List.filter_eq_self.mpr fun x hx => ?_]
  · rfl
  · obtain ⟨j, hj, rfl⟩ := List.mem_iff_getElem.mp hx
    simp [upto]
    omega
  · obtain ⟨j, hj, rfl⟩ := List.mem_iff_getElem.mp hx
    simp [upto] at hj ⊢
    omega
theorem code_inv (l : List Int) (h : IsO l) : codeI (invI l) = tabI l := by
  refine List.ext_getElem (by rw [codeI_len, invI_len, tabI_len]) fun i h1 h2 => ?_
  rw [tabI_len] at h2
  rw [tabI_get l i h2]
  have e : (codeI (invI l))[i]'h1 = ((((invI l).drop (i + 1)).filter fun x => decide (x < ((invI l)[i]?).getD 0)).length : Nat) := by
    have := congrArg (fun z : List Int => z[i]?) (codeI_at (invI l))
    rw [List.getElem?_eq_getElem h1, List.getElem?_map, List.getElem?_range (by rw [invI_len]; exact h2)] at this
    exact Option.some.inj this
  rw [e]
  have hi : ((invI l)[i]?).getD 0 = ((l.idxOf (i : Int) : Nat) : Int) := by
    unfold invI
    rw [List.getElem?_map, upto_get h2]
    rfl
  rw [hi]
  congr 1
  rw [← tab_cnt]
  unfold invI
  rw [← List.map_drop, List.filter_map, List.length_map, drop_upto, List.filter_filter, take_filter l _ h.nodup, List.filter_filter, ← (h.filter _).length_eq]
  congr 1
  refine List.filter_congr fun x _ => ?_
  simp only [Function.comp]
  rw [Bool.and_comm]
  congr 1
  exact decide_eq_decide.mpr (by omega)
theorem tab_inv (l : List Int) (h : IsO l) : tabI (invI l) = codeI l := by
  have := code_inv (invI l) (inv_O l h)
  rw [inv_inv l h] at this
  exact this.symm
theorem codeI_inc : ∀ l : List Int, l.Pairwise (· < ·) → codeI l = List.replicate l.length 0
  | [], _ => rfl
  | a :: r, h => by
    show (((r.filter fun x => decide (x < a)).length : Nat) : Int) :: codeI r = _
    rw [List.filter_eq_nil_iff.mpr fun x hx => by have := List.rel_of_pairwise_cons h hx; simp; omega, codeI_inc r (List.Pairwise.of_cons h)]
    rfl
theorem upto_succ (n : Nat) : upto (n + 1) = upto n ++ [(n : Int)] := by
  unfold upto
  rw [List.range_succ, List.map_append]
  rfl
theorem codeI_down : ∀ n : Nat, codeI (upto n).reverse = (upto n).reverse
  | 0 => rfl
  | n + 1 => by
    rw [upto_succ, List.reverse_append]
    show (((((upto n).reverse).filter fun x => decide (x < (n : Int))).length : Nat) : Int) :: codeI (upto n).reverse = (n : Int) :: (upto n).reverse
    rw [codeI_down n, List.filter_eq_self.mpr fun x hx => by have := mem_upto.mp (List.mem_reverse.mp hx); simp; omega]
    simp
theorem bld_down : ∀ (n : Nat) (k : Int), bldI k (upto n).reverse = ((List.range n).map fun i : Nat => k + (i : Int)).reverse
  | 0, _ => rfl
  | n + 1, k => by
    rw [upto_succ, List.reverse_append]
    have ih := bld_down n (k + 1)
    have hl := bldI_len (upto n).reverse (k + 1)
    rw [List.length_reverse, upto_len] at hl
    show (bldI (k + 1) (upto n).reverse).take (n : Int).toNat ++ [k] ++ (bldI (k + 1) (upto n).reverse).drop (n : Int).toNat = _
    rw [Int.toNat_natCast, List.take_of_length_le (by omega), List.drop_eq_nil_of_le (by omega), List.append_nil, ih, List.range_succ_eq_map, List.map_cons, List.reverse_cons, List.map_map]
    congr 1
    · congr 1
      refine List.map_congr_left fun i _ => ?_
      show k + 1 + (i : Int) = k + ((i + 1 : Nat) : Int)
      omega
    · simp
theorem bld_down0 (n : Nat) : bldI 0 (upto n).reverse = (upto n).reverse := by
  rw [bld_down]
  unfold upto
  congr 1
  exact List.map_congr_left fun i _ => by omega
theorem okC_down : ∀ n : Nat, okC (upto n).reverse
  | 0 => trivial
  | n + 1 => by
    rw [upto_succ, List.reverse_append]
    exact ⟨by omega, by simp, okC_down n⟩
theorem bld_zero : ∀ (j : Nat) (k : Int), bldI k (List.replicate j 0) = (List.range j).map fun i : Nat => k + (i : Int)
  | 0, _ => rfl
  | j + 1, k => by
    show (bldI (k + 1) (List.replicate j 0)).take 0 ++ [k] ++ (bldI (k + 1) (List.replicate j 0)).drop 0 = _
    rw [bld_zero j (k + 1), List.range_succ_eq_map, List.map_cons, List.map_map]
    simp only [List.take_zero, List.drop_zero, List.nil_append, List.singleton_append]
    congr 1
    · simp
    · refine List.map_congr_left fun i _ => ?_
      show k + 1 + (i : Int) = k + ((i + 1 : Nat) : Int)
      omega
theorem bld_one : ∀ (v j : Nat) (k : Int), 0 < j → bldI k (List.replicate v 1 ++ List.replicate j 0) = (k + v) :: (((List.range v).map fun i : Nat => k + (i : Int)) ++ (List.range (j - 1)).map fun i : Nat => k + v + 1 + (i : Int))
  | 0, j, k, hj => by
    rw [List.replicate_zero, List.nil_append, bld_zero]
    obtain ⟨m, rfl⟩ : ∃ m, j = m + 1 := ⟨j - 1, by omega⟩
    rw [List.range_succ_eq_map, List.map_cons, List.map_map]
    simp only [Nat.add_sub_cancel, List.range_zero, List.map_nil, List.nil_append]
    congr 1
    refine List.map_congr_left fun i _ => ?_
    show k + ((i + 1 : Nat) : Int) = k + ((0 : Nat) : Int) + 1 + i
    omega
  | v + 1, j, k, hj => by
    rw [List.replicate_succ, List.cons_append]
    show (bldI (k + 1) (List.replicate v 1 ++ List.replicate j 0)).take 1 ++ [k] ++ (bldI (k + 1) (List.replicate v 1 ++ List.replicate j 0)).drop 1 = _
    rw [bld_one v j (k + 1) hj]
    simp only [List.take_succ_cons, List.take_zero, List.drop_succ_cons, List.drop_zero, List.range_succ_eq_map, List.map_cons, List.map_map, List.cons_append, List.nil_append]
    congr 1
    · omega
    · congr 1
      · simp
      · congr 1
        · refine List.map_congr_left fun i _ => ?_
          show k + 1 + (i : Int) = k + ((i + 1 : Nat) : Int)
          omega
        · refine List.map_congr_left fun i _ => ?_
          omega
theorem okC_one : ∀ (v j : Nat), 0 < j → okC (List.replicate v 1 ++ List.replicate j 0)
  | 0, j, _ => by
    rw [List.replicate_zero, List.nil_append]
    induction j with
    | zero => trivial
    | succ j ih =>
      rw [List.replicate_succ]
      refine ⟨by omega, by omega, ?_⟩
      cases j with
      | zero => trivial
      | succ j => exact ih (by omega)
  | v + 1, j, hj => by
    rw [List.replicate_succ, List.cons_append]
    exact ⟨by omega, by simp; omega, okC_one v j hj⟩
/-- v ahead of the others -/
def fstI (n v : Nat) : List Int := (v : Int) :: (upto n).filter fun x => !(x == (v : Int))
theorem fst_bld (n v : Nat) (h : v < n) : bldI 0 (List.replicate v 1 ++ List.replicate (n - v) 0) = fstI n v := by
  rw [bld_one v (n - v) 0 (by omega)]
  unfold fstI
  have e : upto n = (upto v) ++ (v : Int) :: ((List.range (n - v - 1)).map fun i : Nat => (0 : Int) + v + 1 + (i : Int)) := by
    have : ∀ m : Nat, upto (v + 1 + m) = upto v ++ (v : Int) :: ((List.range m).map fun i : Nat => (0 : Int) + v + 1 + (i : Int)) := by
      intro m
      induction m with
      | zero => rw [Nat.add_zero, upto_succ]; rfl
      | succ m ih =>
        rw [← Nat.add_assoc, upto_succ, ih, List.range_succ, List.map_append]
        simp
    have h2 := this (n - v - 1)
    rw [show v + 1 + (n - v - 1) = n by omega] at h2
    exact h2
  rw [e, List.filter_append, List.filter_cons, if_neg (by simp)]
  rw [List.filter_eq_self.mpr fun x hx => by have := mem_upto.mp hx; simp; omega]
  rw [List.filter_eq_self.mpr fun x hx => by obtain ⟨i, _, rfl⟩ := List.mem_map.mp hx; simp; omega]
  congr 1
  · omega
  · congr 1
    unfold upto
    exact List.map_congr_left fun i _ => by omega
theorem fst_len (n v : Nat) (h : v < n) : (fstI n v).length = n := by
  rw [← fst_bld n v h, bldI_len]
  simp
  omega
theorem fst_code (n v : Nat) (h : v < n) : codeI (fstI n v) = (v : Int) :: List.replicate (n - 1) 0 := by
  have hl := fst_len n v h
  unfold fstI at hl ⊢
  show (((((upto n).filter fun x => !(x == (v : Int))).filter fun x => decide (x < (v : Int))).length : Nat) : Int) :: codeI ((upto n).filter fun x => !(x == (v : Int))) = _
  have hc : (((upto n).filter fun x => !(x == (v : Int))).filter fun x => decide (x < (v : Int))).length = v := by
    rw [List.filter_filter]
    rw [List.filter_congr (q := fun x => decide (x < (v : Int))) fun x _ => by
      by_cases hx : x < v
      · simp [hx]; omega
      · simp [hx]]
    have e := split_sorted (v : Int) (upto_lt n) (mem_upto.mpr (by omega))
    have : ∀ m : Nat, v ≤ m → ((upto m).filter fun x => decide (x < (v : Int))).length = v := by
      intro m
      induction m with
      | zero => intro hm; have : v = 0 := by omega
                subst this; rfl
      | succ m ih =>
        intro hm
        rw [upto_succ, List.filter_append, List.length_append]
        by_cases hvm : v ≤ m
        · rw [ih hvm, List.filter_cons, if_neg (by simp; omega)]
          rfl
        · have : v = m + 1 := by omega
          subst this
          rw [List.filter_eq_self.mpr fun x hx => by have := mem_upto.mp hx; simp; omega, upto_len, List.filter_cons, if_pos (by simp; omega)]
          rfl
    exact this n (by omega)
  rw [hc, codeI_inc _ ((upto_lt n).filter _)]
  rw [List.length_cons] at hl
  rw [show ((upto n).filter fun x => !(x == (v : Int))).length = n - 1 by omega]
end PF

/-! Zz: zigzags numbered, plain -/
namespace PF
/-- sums of stretches -/
def sumI (e : List Int) (lo hi : Nat) : Int := ((e.take hi).drop lo).sum
theorem sumI_nil (e : List Int) {lo hi : Nat} (h : hi ≤ lo) : sumI e lo hi = 0 := by
  unfold sumI
  rw [List.drop_eq_nil_of_le (by rw [List.length_take]; omega)]
  rfl
theorem sumI_step {e : List Int} {lo hi : Nat} (h : lo < hi) (h2 : hi ≤ e.length) : sumI e lo hi = e.getD lo 0 + sumI e (lo + 1) hi := by
  unfold sumI
  have hl : lo < (e.take hi).length := by rw [List.length_take]; omega
  rw [List.drop_eq_getElem_cons hl, List.sum_cons, List.getElem_take, List.getD_eq_getElem?_getD, List.getElem?_eq_getElem (show lo < e.length by omega)]
  rfl
theorem sumI_last {e : List Int} : ∀ (k lo : Nat), lo + k < e.length → sumI e lo (lo + k + 1) = sumI e lo (lo + k) + e.getD (lo + k) 0
  | 0, lo, h => by
    rw [sumI_step (show lo < lo + 0 + 1 by omega) (by omega), sumI_nil e (show lo + 0 + 1 ≤ lo + 1 by omega), sumI_nil e (show lo + 0 ≤ lo by omega)]
    simp
  | k + 1, lo, h => by
    have ih := sumI_last (e := e) k (lo + 1) (by omega)
    rw [sumI_step (show lo < lo + (k + 1) + 1 by omega) (by omega), sumI_step (show lo < lo + (k + 1) by omega) (by omega), show lo + (k + 1) + 1 = lo + 1 + k + 1 by omega, ih, show lo + (k + 1) = lo + 1 + k by omega]
    omega
theorem sumI_nn {e : List Int} (h : ∀ x ∈ e, 0 ≤ x) (lo hi : Nat) : 0 ≤ sumI e lo hi := by
  have : ∀ l : List Int, (∀ x ∈ l, 0 ≤ x) → 0 ≤ l.sum := fun l hl => by
    induction l with
    | nil => simp
    | cons a r ih =>
      have := ih fun x hx => hl x (List.mem_cons_of_mem _ hx)
      have := hl a (by simp)
      rw [List.sum_cons]
      omega
  exact this _ fun x hx => h x (List.mem_of_mem_take (List.mem_of_mem_drop hx))
/-- which of those left may come at place p: the one before was the a-th -/
def loZ (p a : Nat) : Nat := if p % 2 = 0 then 0 else a
def hiZ (p a n : Nat) : Nat := if p % 2 = 0 then a else n
def totZ : List (List Int) → Nat → Nat → Nat → Int
  | [], _, _, _ => 1
  | e :: _, p, a, n => sumI e (loZ p a) (hiZ p a n)
def GdE : List (List Int) → Nat → Nat → Prop
  | [], _, n => n = 0
  | e :: Es, p, n => e.length = n ∧ 0 < n ∧ (∀ x ∈ e, 0 ≤ x) ∧ (∀ a, a < n → e.getD a 0 = totZ Es (p + 1) a (n - 1)) ∧ GdE Es (p + 1) (n - 1)
/-- the way from a number to an order -/
def path : List (List Int) → Nat → Nat → Nat → List Int → List Int → Int → Prop
  | [], _, _, _, _, o, m => o = [] ∧ m = 0
  | e :: Es, p, lo, hi, left, o, m => ∃ (a : Nat) (m' : Int) (o' : List Int), lo ≤ a ∧ a < hi ∧ o = left.getD a 0 :: o' ∧ m = sumI e lo a + m' ∧ 0 ≤ m' ∧ m' < e.getD a 0 ∧ path Es (p + 1) (loZ (p + 1) a) (hiZ (p + 1) a (left.length - 1)) (left.eraseIdx a) o' m'
theorem path_len : ∀ (Es : List (List Int)) (p lo hi : Nat) (left o : List Int) (m : Int), path Es p lo hi left o m → o.length = Es.length
  | [], _, _, _, _, o, m, h => by rw [h.1]; rfl
  | e :: Es, p, lo, hi, left, o, m, ⟨a, m', o', h1, h2, h3, h4, h5, h6, h7⟩ => by
    rw [h3, List.length_cons, path_len Es _ _ _ _ _ _ h7, List.length_cons]
theorem path_perm : ∀ (Es : List (List Int)) (p lo hi : Nat) (left o : List Int) (m : Int), GdE Es p left.length → hi ≤ left.length → path Es p lo hi left o m → o.Perm left
  | [], p, lo, hi, left, o, m, g, hh, h => by
    have : left = [] := List.length_eq_zero_iff.mp g
    rw [this, h.1]
  | e :: Es, p, lo, hi, left, o, m, g, hh, ⟨a, m', o', h1, h2, h3, h4, h5, h6, h7⟩ => by
    have ha : a < left.length := by omega
    have le : (left.eraseIdx a).length = left.length - 1 := by rw [List.length_eraseIdx, if_pos ha]
    have ih := path_perm Es (p + 1) _ _ _ _ _ (by rw [le]; exact g.2.2.2.2) (by
      rw [le]
      unfold hiZ
      split <;> omega) h7
    rw [h3, List.getD_eq_getElem?_getD, List.getElem?_eq_getElem ha]
    exact (ih.cons _).trans (perm_take_out' ha)
where
  perm_take_out' {l : List Int} {i : Nat} (h : i < l.length) : (l[i] :: l.eraseIdx i).Perm l := by
    induction l generalizing i with
    | nil => simp at h
    | cons a r ih =>
      cases i with
      | zero => exact .refl _
      | succ i =>
        have h : i < r.length := by simpa using h
        exact (List.Perm.swap _ _ _).trans ((ih h).cons a)
/-- each number in range has its way -/
theorem pick_ex {e : List Int} : ∀ (k lo : Nat) (m : Int), lo + k ≤ e.length → 0 ≤ m → m < sumI e lo (lo + k) → ∃ (a : Nat) (m' : Int), lo ≤ a ∧ a < lo + k ∧ m = sumI e lo a + m' ∧ 0 ≤ m' ∧ m' < e.getD a 0
  | 0, lo, m, h, h0, h1 => by rw [sumI_nil e (show lo + 0 ≤ lo by omega)] at h1; omega
  | k + 1, lo, m, h, h0, h1 => by
    by_cases q : m < e.getD lo 0
    · exact ⟨lo, m, by omega, by omega, by rw [sumI_nil e (Nat.le_refl lo)]; omega, h0, q⟩
    · rw [sumI_step (show lo < lo + (k + 1) by omega) h, show lo + (k + 1) = lo + 1 + k by omega] at h1
      obtain ⟨a, m', y1, y2, y3, y4, y5⟩ := pick_ex (e := e) k (lo + 1) (m - e.getD lo 0) (by omega) (by omega) (by omega)
      exact ⟨a, m', by omega, by omega, by rw [sumI_step (e := e) (show lo < a by omega) (by omega)]; omega, y4, y5⟩
/-- the greater number, the later order -/
theorem sum_mono {e : List Int} (hn : ∀ x ∈ e, 0 ≤ x) {lo : Nat} : ∀ (k a : Nat), lo ≤ a → a + k ≤ e.length → sumI e lo a ≤ sumI e lo (a + k)
  | 0, a, _, _ => Int.le_refl _
  | k + 1, a, h, h2 => by
    have h1 := sum_mono hn k a h (by omega)
    have h3 := sumI_last (e := e) (a + k - lo) lo (by omega)
    rw [show lo + (a + k - lo) = a + k by omega] at h3
    have h4 : 0 ≤ e.getD (a + k) 0 := by
      rw [List.getD_eq_getElem?_getD, List.getElem?_eq_getElem (show a + k < e.length by omega)]
      exact hn _ (List.getElem_mem _)
    rw [show a + (k + 1) = a + k + 1 by omega, h3]
    omega
theorem path_lt : ∀ (Es : List (List Int)) (p lo hi : Nat) (left o o2 : List Int) (m m2 : Int), GdE Es p left.length → hi ≤ left.length → left.Pairwise (· < ·) → path Es p lo hi left o m → path Es p lo hi left o2 m2 → m < m2 → lexI o o2 = true
  | [], _, _, _, _, _, _, m, m2, _, _, _, h, h2, hm => by have := h.2; have := h2.2; omega
  | e :: Es, p, lo, hi, left, o, o2, m, m2, g, hh, hs, ⟨a, m', o', h1, h2, h3, h4, h5, h6, h7⟩, ⟨b, n', u', k1, k2, k3, k4, k5, k6, k7⟩, hm => by
    obtain ⟨g1, g2, g3, g4, g5⟩ := g
    have ha : a < left.length := by omega
    have hb : b < left.length := by omega
    have ga : ∀ {i : Nat} (h : i < left.length), left.getD i 0 = left[i] := fun {i} h => by
      rw [List.getD_eq_getElem?_getD, List.getElem?_eq_getElem h]
      rfl
    have nxt : ∀ x : Nat, lo ≤ x → x < left.length → sumI e lo (x + 1) = sumI e lo x + e.getD x 0 := fun x hx hx2 => by
      have := sumI_last (e := e) (x - lo) lo (by omega)
      rwa [show lo + (x - lo) = x by omega] at this
    rw [h3, k3, lexI_c, ga ha, ga hb]
    rcases Nat.lt_trichotomy a b with q | q | q
    · have := List.pairwise_iff_getElem.mp hs a b ha hb q
      rw [if_neg (by omega)]
      exact decide_eq_true this
    · subst q
      rw [if_pos rfl]
      have le : (left.eraseIdx a).length = left.length - 1 := by rw [List.length_eraseIdx, if_pos ha]
      exact path_lt Es (p + 1) _ _ _ _ _ m' n' (by rw [le]; exact g5) (by
        rw [le]
        unfold hiZ
        split <;> omega) (hs.sublist (List.eraseIdx_sublist _ _)) h7 k7 (by omega)
    · exfalso
      have y1 := nxt b k1 hb
      have y2 := sum_mono g3 (lo := lo) (a - (b + 1)) (b + 1) (by omega) (by omega)
      rw [show b + 1 + (a - (b + 1)) = a by omega] at y2
      omega
where
  lexI_c (x y : Int) (xs ys : List Int) : lexI (x :: xs) (y :: ys) = if x = y then lexI xs ys else decide (x < y) := rfl
/-- where it falls -/
theorem path_falls : ∀ (Es : List (List Int)) (p lo hi : Nat) (left o : List Int) (m : Int), GdE Es p left.length → hi ≤ left.length → left.Pairwise (· < ·) → path Es p lo hi left o m → ∀ i : Nat, i + 1 < o.length → (o.getD (i + 1) 0 < o.getD i 0 ↔ (p + i + 1) % 2 = 0)
  | [], _, _, _, _, o, m, _, _, _, h, i, hi' => by rw [h.1] at hi'; simp at hi'
  | e :: Es, p, lo, hi, left, o, m, g, hh, hs, ⟨a, m', o', h1, h2, h3, h4, h5, h6, h7⟩, i, hi' => by
    have ha : a < left.length := by omega
    have le : (left.eraseIdx a).length = left.length - 1 := by rw [List.length_eraseIdx, if_pos ha]
    have hs2 := hs.sublist (List.eraseIdx_sublist left a)
    cases i with
    | succ i =>
      have := path_falls Es (p + 1) _ _ _ _ _ (by rw [le]; exact g.2.2.2.2) (by
        rw [le]
        unfold hiZ
        split <;> omega) hs2 h7 i (by rw [h3] at hi'; simpa using hi')
      rw [h3]
      show o'.getD (i + 1) 0 < o'.getD i 0 ↔ _
      rw [this, show p + 1 + i + 1 = p + (i + 1) + 1 by omega]
    | zero =>
      rw [h3]
      show o'.getD 0 0 < left.getD a 0 ↔ _
      cases Es with
      | nil =>
        rw [h3, h7.1] at hi'
        simp at hi'
      | cons e2 Es =>
        obtain ⟨b, n', u', k1, k2, k3, k4, k5, k6, k7⟩ := h7
        rw [k3]
        show (left.eraseIdx a).getD b 0 < left.getD a 0 ↔ _
        have hb : b < left.length - 1 := by
          unfold hiZ at k2
          split at k2 <;> omega
        rw [List.getD_eq_getElem?_getD, List.getD_eq_getElem?_getD, List.getElem?_eraseIdx, List.getElem?_eq_getElem ha]
        unfold loZ at k1
        unfold hiZ at k2
        by_cases q : (p + 1) % 2 = 0
        · rw [if_pos q] at k2
          rw [if_pos k2, List.getElem?_eq_getElem (show b < left.length by omega)]
          have := List.pairwise_iff_getElem.mp hs b a (by omega) ha k2
          exact ⟨fun _ => q, fun _ => this⟩
        · rw [if_neg q] at k1
          rw [if_neg (by omega), List.getElem?_eq_getElem (show b + 1 < left.length by omega)]
          have := List.pairwise_iff_getElem.mp hs a (b + 1) ha (by omega) (by omega)
          constructor
          · intro z
            have z : left[b + 1] < left[a] := z
            omega
          · exact fun z => absurd z q
end PF

/-! Cf: fits_order, need_order -/
namespace PF
namespace K
theorem fits_ok {l : List Int} (h : IsO l) (hl : l.length ≤ 30) : p_fits_order (eT D.int l) = sp true := by
  unfold p_fits_order
  have e1 : p_is_tuple_of (eT D.int l) 0 30 = sp true := by
    show sp (decide ((0 : Int) ≤ ((l.map D.int).length : Int)) && decide (((l.map D.int).length : Int) ≤ 30)) = sp true
    rw [List.length_map, decide_eq_true (by omega), decide_eq_true (by omega)]
    rfl
  have e2 : seqD (eT D.int l) = some (l.map D.int) := rfl
  have e4 : intOf (b1D .len (eT D.int l)) = some (l.length : Int) := by rw [w_lenT]; rfl
  have e3 : ∀ x ∈ l.map D.int, (so (intOf (b1D .len (eT D.int l))) fun x4 => sb (p_is_whole x 0 (x4 - 1)) fun r5 => sp r5) = sp true := fun x hx => by
    obtain ⟨i, hi, rfl⟩ := List.mem_map.mp hx
    have := h.mem.mp hi
    rw [so_of e4, sb_r]
    show sp (decide ((0 : Int) ≤ i) && decide (i ≤ (l.length : Int) - 1)) = sp true
    rw [decide_eq_true (by omega), decide_eq_true (by omega)]
    rfl
  have e5 : szOk (l.map D.int).length = true := szOk_of (by rw [List.length_map]; omega)
  have e6 : intsOf (b1D .sorted (eT D.int l)) = some (upto l.length) := by
    rw [w_sortT (szOk_of (by omega)), intsOf_eL, sortI_of h (upto_sorted _)]
  have e7 : (b62 (l.length : Int) && szOk (l.length : Int).toNat) = true := by rw [b62_lt (by omega) (by omega), szOk_of (by omega)]; rfl
  rw [e1, sb_sp, e2, so_some', gd_of e5, smap_pure (g := fun _ => true) e3, sb_sp]
  have e8 : (!(((l.map D.int).map fun _ => true).all id)) = false := by simp
  rw [e8]
  show (so (intsOf (b1D .sorted (eT D.int l))) fun x8 => so (intOf (b1D .len (eT D.int l))) fun x9 => so (gd (b62 x9 && szOk x9.toNat)) fun _ => sp (x8 == rgI 0 x9.toNat)) = sp true
  rw [so_of e6, so_of e4, gd_of e7, rgI_toNat]
  simp
theorem need_ok {l : List Int} (h : IsO l) (hl : l.length ≤ 30) : p_need_order (eT D.int l) = sp () := by
  unfold p_need_order
  rw [fits_ok h hl]
  rfl
end K
end PF

/-! K15a: the program's numbers of zigzags -/
namespace PF
def nxE (p n : Nat) (later : List Int) : List Int := (List.range (n + 1)).map fun l => sumI later (loZ p l) (hiZ p l n)
theorem nxE_len (p n : Nat) (l : List Int) : (nxE p n l).length = n + 1 := by simp [nxE]
def endsR (size : Nat) : Nat → List (List Int)
  | 0 => [[1]]
  | j + 1 => nxE (size - 1 - j) (j + 1) ((endsR size j).headD []) :: endsR size j
theorem endsR_len (size : Nat) : ∀ j, (endsR size j).length = j + 1
  | 0 => rfl
  | j + 1 => congrArg Nat.succ (endsR_len size j)
theorem endsR_head (size : Nat) : ∀ j, ∃ e Es, endsR size j = e :: Es ∧ e.length = j + 1
  | 0 => ⟨_, _, rfl, rfl⟩
  | j + 1 => ⟨_, _, rfl, nxE_len _ _ _⟩
theorem endsR_gd (size : Nat) : ∀ j, j < size → GdE (endsR size j) (size - 1 - j) (j + 1)
  | 0, h => ⟨rfl, by omega, (fun x hx => by rw [List.mem_singleton.mp hx]; omega), (fun a ha => by
      have : a = 0 := by omega
      subst this
      rfl), rfl⟩
  | j + 1, h => by
    have ih := endsR_gd size j (by omega)
    obtain ⟨e, Es, e1, e2⟩ := endsR_head size j
    have hp : size - 1 - (j + 1) + 1 = size - 1 - j := by omega
    refine ⟨nxE_len _ _ _, by omega, fun x hx => ?_, fun a ha => ?_, by rw [hp]; exact ih⟩
    · obtain ⟨l, _, rfl⟩ := List.mem_map.mp hx
      rw [e1] at ih ⊢
      exact sumI_nn ih.2.2.1 _ _
    · rw [hp, e1]
      show (nxE (size - 1 - j) (j + 1) e).getD a 0 = sumI e (loZ (size - 1 - j) a) (hiZ (size - 1 - j) a (j + 1 + 1 - 1))
      rw [List.getD_eq_getElem?_getD, List.getElem?_eq_getElem (by rw [nxE_len]; omega)]
      unfold nxE
      rw [List.getElem_map, List.getElem_range]
      rfl
def turnsI (n : Nat) : List Int := rgS 2 2 (rgN 2 (n : Int) 2).toNat
theorem turns_gd : ∀ n : Nat, n < 31 → rg3Ok' 2 (n : Int) 2 = true := by decide +kernel
theorem down_gd' : ∀ n : Nat, n < 31 → rg3Ok ((n : Int) - 1) 0 (-1) = true := by decide +kernel
theorem down_ls : ∀ n : Nat, n < 31 → rgS ((n : Int) - 1) (-1) (rgN ((n : Int) - 1) 0 (-1)).toNat = (List.range' 0 (n - 1)).map fun i : Nat => (n : Int) - 1 - (i : Int) := by decide +kernel
theorem turns_mem : ∀ n : Nat, n < 31 → ∀ p : Nat, p < 31 → 1 ≤ p → p < n → memB (turnsI n) (p : Int) = decide (p % 2 = 0) := by decide +kernel
namespace K
theorem turns_ok {n : Nat} (h : n ≤ 30) : p_turns_of (n : Int) = sp (turnsI n) := by
  unfold p_turns_of
  rw [gd_of (turns_gd n (by omega))]
  rfl
theorem last_rev {α : Type} (x : α) (r : List α) : atI (x :: r).reverse (-(1 : Int)) = some x := by
  unfold atI
  rw [if_neg (by omega), List.reverse_cons]
  simp
  refine ⟨by omega, ?_⟩
  rw [show (-1 + ((r.length : Int) + 1)).toNat = r.reverse.length by simp; omega]
  simp
theorem nx_even {p n : Nat} {later : List Int} (hp : p % 2 = 0) (hn : later.length = n) : (rgI 0 (n + 1)).map (fun lesser => (cut later none (some lesser)).sum) = nxE p n later := by
  unfold nxE
  rw [rgI_eq, List.map_map]
  refine List.map_congr_left fun l hl => ?_
  show (cut later none (some (0 + (l : Int)))).sum = _
  rw [cutT _ _ (by omega), show (0 + (l : Int)).toNat = l by omega]
  unfold sumI loZ hiZ
  rw [if_pos hp, if_pos hp]
  rfl
theorem nx_odd {p n : Nat} {later : List Int} (hp : ¬ p % 2 = 0) (hn : later.length = n) : (rgI 0 (n + 1)).map (fun lesser => (cut later (some lesser) none).sum) = nxE p n later := by
  unfold nxE
  rw [rgI_eq, List.map_map]
  refine List.map_congr_left fun l hl => ?_
  show (cut later (some (0 + (l : Int))) none).sum = _
  rw [cutF _ _ (by omega), show (0 + (l : Int)).toNat = l by omega]
  unfold sumI loZ hiZ
  rw [if_neg hp, if_neg hp, ← hn, List.take_length]
theorem ends_step {n j : Nat} (h : n ≤ 30) (hj : j + 1 < n) : p_ends_by_b1 (n : Int) (turnsI n) (endsR n j).reverse ((n : Int) - 1 - (j : Int)) = sp (endsR n (j + 1)).reverse := by
  obtain ⟨e, Es, e1, e2⟩ := endsR_head n j
  have hl := endsR_len n j
  have hm : memB (turnsI n) ((n : Int) - 1 - (j : Int)) = decide ((n - 1 - j) % 2 = 0) := by
    rw [show (n : Int) - 1 - (j : Int) = ((n - 1 - j : Nat) : Int) by omega]
    exact turns_mem n (by omega) _ (by omega) (by omega) (by omega)
  have hr : ((n : Int) - ((n : Int) - 1 - (j : Int))) + 1 = ((j + 2 : Nat) : Int) := by omega
  unfold p_ends_by_b1
  have hat : atI (endsR n j).reverse (-(1 : Int)) = some e := by rw [e1]; exact last_rev _ _
  rw [so_of hat, slet_eq, slet_eq, hm, hr]
  have fin : endsR n (j + 1) = nxE (n - 1 - j) (j + 1) e :: endsR n j := by
    show nxE (n - 1 - j) (j + 1) ((endsR n j).headD []) :: endsR n j = _
    rw [e1]
    rfl
  rw [fin, List.reverse_cons]
  by_cases q : (n - 1 - j) % 2 = 0
  · rw [decide_eq_true q, if_pos rfl, gB1 (by omega) (by omega), gSz (by rw [rgI_length]; omega), gSz (by rw [List.length_reverse]; omega), slet_eq, sb_sp, Int.toNat_natCast, nx_even q e2]
  · rw [decide_eq_false q, if_neg (by simp), gB1 (by omega) (by omega), gSz (by rw [rgI_length]; omega), gSz (by rw [List.length_reverse]; omega), slet_eq, sb_sp, Int.toNat_natCast, nx_odd q e2]
theorem ends_loop {n : Nat} (h : n ≤ 30) : ∀ (k j : Nat), j + k + 1 = n → sfold (p_ends_by_b1 (n : Int) (turnsI n)) ((List.range' j k).map fun i : Nat => (n : Int) - 1 - (i : Int)) (endsR n j).reverse = sp (endsR n (n - 1)).reverse
  | 0, j, e => by
    have : j = n - 1 := by omega
    subst this
    rfl
  | k + 1, j, e => by
    rw [List.range'_succ, List.map_cons, sfold_cons, ends_step h (by omega), sb_sp]
    exact ends_loop h k (j + 1) (by omega)
theorem ends_ok {n : Nat} (h : n ≤ 30) : p_ends_by (n : Int) (turnsI n) = sp (endsR n (n - 1)) := by
  unfold p_ends_by
  rw [slet_eq, gd_of (down_gd' n (by omega)), down_ls n (by omega)]
  cases n with
  | zero => rfl
  | succ n =>
    have := ends_loop h n 0 (by omega)
    rw [show (endsR (n + 1) 0).reverse = [[1]] from rfl] at this
    rw [show n + 1 - 1 = n by omega] at this ⊢
    rw [this, sb_sp, List.reverse_reverse]
def firstsI (n : Nat) : List Int := (endsR n (n - 1)).headD []
theorem firsts_ok {n : Nat} (h : n ≤ 30) (h0 : 0 < n) : p_firsts_in (n : Int) = sp (firstsI n) := by
  unfold p_firsts_in firstsI
  obtain ⟨e, Es, e1, e2⟩ := endsR_head n (n - 1)
  rw [decide_eq_true (by omega), sif_sp, if_pos rfl, turns_ok h, sb_sp, ends_ok h, sb_sp, e1, so_of (show atI (e :: Es) 0 = some e from rfl), sb_sp]
  rfl
def cntZ (n : Nat) : Int := if n = 0 then 1 else (firstsI n).sum
theorem count_ok {n : Nat} (h : n ≤ 30) : p_count_in (n : Int) = sp (cntZ n) := by
  unfold p_count_in cntZ
  by_cases h0 : n = 0
  · subst h0
    rfl
  · rw [decide_eq_true (by omega), sif_sp, if_pos rfl, firsts_ok h (by omega), sb_sp, sb_sp, if_neg h0]
theorem whole_nat {n a b : Int} (h : a ≤ n) (h2 : n ≤ b) : p_need_whole (D.int n) a b = sp () := by
  unfold p_need_whole
  have e : p_is_whole (D.int n) a b = sp true := by
    show sp (decide (a ≤ n) && decide (n ≤ b)) = _
    rw [decide_eq_true h, decide_eq_true h2]
    rfl
  rw [e, sb_sp, if_neg (by simp)]
theorem count_zig {n : Nat} (h : n ≤ 30) : p_count_zigzags (n : Int) = sp (cntZ n) := by
  unfold p_count_zigzags
  rw [whole_nat (by omega) (by omega), sb_sp, count_ok h, sb_sp]
theorem from_zig {n : Nat} (h : n ≤ 30) (h0 : 0 < n) {i : Nat} (hi : i < n) : p_zigzags_from (n : Int) (i : Int) = sp ((firstsI n).getD i 0) := by
  obtain ⟨e, Es, e1, e2⟩ := endsR_head n (n - 1)
  have hl : (firstsI n).length = n := by
    unfold firstsI
    rw [e1]
    show e.length = n
    omega
  unfold p_zigzags_from
  rw [whole_nat (by omega) (by omega), sb_sp, whole_nat (by omega) (by omega), sb_sp, firsts_ok h h0, sb_sp, so_of (atI_n (show i < (firstsI n).length by omega)), List.getD_eq_getElem?_getD, List.getElem?_eq_getElem (show i < (firstsI n).length by omega)]
  rfl
/-! which may come -/
theorem enI_f : ∀ (l : List Int) (k : Int), (enI k l).map (·.1) = rgI k l.length
  | [], _ => rfl
  | a :: r, k => congrArg (k :: ·) (enI_f r (k + 1))
theorem enI_l : ∀ (l : List Int) (k : Int), (enI k l).length = l.length
  | [], _ => rfl
  | a :: r, k => congrArg Nat.succ (enI_l r (k + 1))
theorem enI_mem : ∀ (l : List Int) (k : Nat) (q : Int × Int), q ∈ enI (k : Int) l → ∃ i : Nat, q.1 = (i : Int) ∧ k ≤ i ∧ i < k + l.length ∧ q.2 = l.getD (i - k) 0
  | a :: r, k, q, h => by
    have h : q ∈ ((k : Int), a) :: enI ((k : Int) + 1) r := h
    rcases List.mem_cons.mp h with e | h
    · refine ⟨k, by rw [e], Nat.le_refl _, by simp, ?_⟩
      rw [e, Nat.sub_self]
      rfl
    · obtain ⟨i, h1, h2, h3, h4⟩ := enI_mem r (k + 1) q (by exact h)
      refine ⟨i, h1, by omega, by rw [List.length_cons]; omega, ?_⟩
      rw [h4, show i - k = (i - (k + 1)) + 1 by omega]
      rfl
theorem rg_lt {n a : Nat} (h : a ≤ n) : (rgI 0 n).filter (fun i => decide (i < (a : Int))) = rgI 0 a := by
  obtain ⟨k, rfl⟩ := Nat.exists_eq_add_of_le h
  rw [rgI_app, List.filter_append, List.filter_eq_self.mpr fun x hx => by have := mem_rgI.mp hx; exact decide_eq_true (by omega), List.filter_eq_nil_iff.mpr fun x hx => by have := mem_rgI.mp hx; simp; omega, List.append_nil]
theorem rg_ge {n a : Nat} (h : a ≤ n) : (rgI 0 n).filter (fun i => !decide (i < (a : Int))) = rgI (a : Int) (n - a) := by
  obtain ⟨k, rfl⟩ := Nat.exists_eq_add_of_le h
  rw [rgI_app, List.filter_append, List.filter_eq_nil_iff.mpr fun x hx => by have := mem_rgI.mp hx; simp; omega, List.filter_eq_self.mpr fun x hx => by have := mem_rgI.mp hx; simp; omega, List.nil_append, show a + k - a = k by omega, Int.zero_add]
theorem able_zero (row : D) (left : List Int) (h : left.length ≤ 1000) : p_able_from row left 0 = sp (rgI ((0 : Nat) : Int) (left.length - 0)) := by
  unfold p_able_from
  rw [if_pos (show ((0 : Int) == 0) = true from rfl), gLs (by omega) (by omega), Int.toNat_natCast]
  rfl
theorem able_ok {row : D} {v : Int} {left : List Int} {p a : Nat} (hr : idxD row (.int (-(1 : Int))) = some (.int v)) (hp : 0 < p) (hl : left.length ≤ 1000) (ha : a ≤ left.length) (hs : ∀ i, i < left.length → (left.getD i 0 < v ↔ i < a)) : p_able_from row left (p : Int) = sp (rgI ((loZ p a : Nat) : Int) (hiZ p a left.length - loZ p a)) := by
  unfold p_able_from
  rw [if_neg (by rw [beq_iff_eq]; omega), gSz (by rw [enI_l]; omega), sb_r]
  have key : sfm (fun at_1 : Int × Int => so (idxD row (D.int (-(1 : Int)))) fun v2 =>
so (blOf (op2D .gt v2 (D.int at_1.2))) fun x3 =>
sp (x3 == (((p : Int) % (2 : Int)) == (0 : Int)))) (fun at_1 => sp at_1.1) (enI 0 left) = sp (((enI 0 left).filter fun q => decide (q.1 < (a : Int)) == decide (p % 2 = 0)).map (·.1)) := by
    refine sfm_pure' (fun q hq => ?_) fun q _ _ => rfl
    obtain ⟨i, h1, h2, h3, h4⟩ := enI_mem left 0 q hq
    rw [so_of hr, so_of (show blOf (op2D .gt (.int v) (.int q.2)) = some (decide (q.2 < v)) from rfl)]
    congr 1
    have e1 : (((p : Int) % (2 : Int)) == (0 : Int)) = decide (p % 2 = 0) := by
      rw [Bool.eq_iff_iff, beq_iff_eq, decide_eq_true_eq]
      omega
    have e2 : decide (q.2 < v) = decide (q.1 < (a : Int)) := by
      rw [h4, Nat.sub_zero, h1]
      exact decide_eq_decide.mpr ((hs i (by omega)).trans (by omega))
    rw [e1, e2]
  rw [key]
  congr 1
  have e3 : ((enI 0 left).filter fun q => decide (q.1 < (a : Int)) == decide (p % 2 = 0)).map (·.1) = (rgI 0 left.length).filter fun i => decide (i < (a : Int)) == decide (p % 2 = 0) := by
    rw [← enI_f left 0, List.filter_map]
    rfl
  rw [e3]
  unfold loZ hiZ
  by_cases q : p % 2 = 0
  · rw [if_pos q, if_pos q, decide_eq_true q, Nat.sub_zero, show ((0 : Nat) : Int) = 0 from rfl, ← rg_lt ha]
    refine List.filter_congr fun x _ => ?_
    cases decide (x < (a : Int)) <;> rfl
  · rw [if_neg q, if_neg q, decide_eq_false q, ← rg_ge ha]
    refine List.filter_congr fun x _ => ?_
    cases decide (x < (a : Int)) <;> rfl
end K
end PF

/-! K15b: from a number to a zigzag, and back -/
namespace PF
namespace K
theorem getD_at {l : List Int} {i : Nat} (h : i < l.length) : l.getD i 0 = l[i] := by
  rw [List.getD_eq_getElem?_getD, List.getElem?_eq_getElem h]
  rfl
theorem atI_D {l : List Int} {i : Nat} (h : i < l.length) : atI l (i : Int) = some (l.getD i 0) := by rw [atI_n h, getD_at h]
theorem sfoldR_n {α σ ρ : Type} {f : σ → α → S (Lp σ ρ)} {x : α} {r : List α} {s s' : σ} (h : f s x = sp (.next s')) : sfoldR f (x :: r) s = sfoldR f r s' := by
  show sb (f s x) (fun o => match o with
    | .next s' => sfoldR f r s'
    | .brk s' => sp (.next s')
    | .ret v => sp (.ret v)) = _
  rw [h, sb_sp]
theorem sfoldR_b {α σ ρ : Type} {f : σ → α → S (Lp σ ρ)} {x : α} {r : List α} {s s' : σ} (h : f s x = sp (.brk s')) : sfoldR f (x :: r) s = sp (.next s') := by
  show sb (f s x) (fun o => match o with
    | .next s' => sfoldR f r s'
    | .brk s' => sp (.next s')
    | .ret v => sp (.ret v)) = _
  rw [h, sb_sp]
/-- the loop that picks -/
theorem pick_run {ends : List (List Int)} {e : List Int} {p : Nat} (he : ends[p]? = some e) : ∀ (k lo : Nat) (m : Int) (row left : List Int), lo + k ≤ e.length → e.length = left.length → row.length ≤ 1000 → left.length ≤ 1000 → 0 ≤ m → m < sumI e lo (lo + k) →
    ∃ (a : Nat) (m' : Int), lo ≤ a ∧ a < lo + k ∧ m = sumI e lo a + m' ∧ 0 ≤ m' ∧ m' < e.getD a 0 ∧ sfoldR (p_zigzag_at_b1 ends (p : Int)) (rgI (lo : Int) k) (m, row, left) = sp (.next (m', row ++ [left.getD a 0], left.eraseIdx a))
  | 0, lo, m, row, left, h, hl, hr, hll, h0, h1 => by rw [sumI_nil e (show lo + 0 ≤ lo by omega)] at h1; omega
  | k + 1, lo, m, row, left, h, hl, hr, hll, h0, h1 => by
    have e1 : atI ends (p : Int) = some e := by rw [atI_nat, he]
    have e2 : atI e (lo : Int) = some (e.getD lo 0) := atI_D (by omega)
    by_cases q : m < e.getD lo 0
    · refine ⟨lo, m, Nat.le_refl _, by omega, by rw [sumI_nil e (Nat.le_refl lo)]; omega, h0, q, ?_⟩
      have : p_zigzag_at_b1 ends (p : Int) (m, row, left) (lo : Int) = sp (.brk (m, row ++ [left.getD lo 0], left.eraseIdx lo)) := by
        unfold p_zigzag_at_b1
        rw [so_of e1, so_of e2, decide_eq_true q, if_pos rfl, so_of (show popI left (lo : Int) = some (left.eraseIdx lo, left.getD lo 0) by
          rw [popI_get (by omega) (show (lo : Int).toNat < left.length by omega) (by omega), getD_at (show lo < left.length by omega)]
          simp), gSz (by show row.length ≤ _; omega), slet_eq, slet_eq]
      exact sfoldR_b this
    · rw [sumI_step (e := e) (show lo < lo + (k + 1) by omega) h, show lo + (k + 1) = lo + 1 + k by omega] at h1
      obtain ⟨a, m', y1, y2, y3, y4, y5, y6⟩ := pick_run he k (lo + 1) (m - e.getD lo 0) row left (by omega) hl hr hll (by omega) (by omega)
      refine ⟨a, m', by omega, by omega, by rw [sumI_step (e := e) (show lo < a by omega) (by omega)]; omega, y4, y5, ?_⟩
      have : p_zigzag_at_b1 ends (p : Int) (m, row, left) (lo : Int) = sp (.next (m - e.getD lo 0, row, left)) := by
        unfold p_zigzag_at_b1
        rw [so_of e1, so_of e2, decide_eq_false q, if_neg (by simp), so_of e1, so_of e2, slet_eq]
      exact (sfoldR_n (r := rgI ((lo : Int) + 1) k) this).trans y6
theorem idx_last (row : List Int) (v : Int) : idxD (eL D.int (row ++ [v])) (.int (-(1 : Int))) = some (.int v) := w_idxL v (by
  unfold atI
  rw [if_neg (by omega)]
  simp
  refine ⟨by omega, ?_⟩
  rw [show (-1 + ((row.length : Int) + 1)).toNat = row.length by omega]
  simp)
theorem idx_lastT (row : List Int) (v : Int) : idxD (eT D.int (row ++ [v])) (.int (-(1 : Int))) = some (.int v) := idx_last row v
/-- what is left falls apart where the last one was -/
theorem apart {left : List Int} (hs : left.Pairwise (· < ·)) {a : Nat} (ha : a < left.length) : ∀ i, i < (left.eraseIdx a).length → ((left.eraseIdx a).getD i 0 < left.getD a 0 ↔ i < a) := fun i hi => by
  rw [List.length_eraseIdx, if_pos ha] at hi
  rw [List.getD_eq_getElem?_getD, List.getElem?_eraseIdx, getD_at ha]
  by_cases q : i < a
  · rw [if_pos q, List.getElem?_eq_getElem (show i < left.length by omega)]
    have := List.pairwise_iff_getElem.mp hs i a (by omega) ha q
    exact ⟨fun _ => q, fun _ => this⟩
  · rw [if_neg q, List.getElem?_eq_getElem (show i + 1 < left.length by omega)]
    have := List.pairwise_iff_getElem.mp hs a (i + 1) ha (by omega) (by omega)
    constructor
    · intro z
      have z : left[i + 1] < left[a] := z
      omega
    · exact fun z => absurd z q
theorem hiZ_le {p a n : Nat} (h : a ≤ n) : loZ p a ≤ n ∧ hiZ p a n ≤ n := by
  unfold loZ hiZ
  constructor <;> split <;> omega
theorem sum_out {e : List Int} {lo hi : Nat} {m : Int} (h0 : 0 ≤ m) (h : m < sumI e lo hi) : lo < hi := by
  by_cases q : lo < hi
  · exact q
  · rw [sumI_nil e (by omega)] at h
    omega
theorem at_run {ends : List (List Int)} : ∀ (Es : List (List Int)) (p lo hi : Nat) (m : Int) (row left : List Int), ends.drop p = Es → GdE Es p left.length → hi ≤ left.length → left.Pairwise (· < ·) → left.length ≤ 500 → row.length + left.length ≤ 1000 → 0 ≤ m →
    (∀ e E', Es = e :: E' → m < sumI e lo hi) → (Es = [] → m = 0) → p_able_from (eL D.int row) left (p : Int) = sp (rgI (lo : Int) (hi - lo)) →
    ∃ o m2 l2, sfold (p_zigzag_at_b2 ends) (rgI (p : Int) Es.length) (m, row, left) = sp (m2, row ++ o, l2) ∧ path Es p lo hi left o m
  | [], p, lo, hi, m, row, left, hd, g, hh, hs, h5, h6, h0, hm, hz, ab => ⟨[], m, left, by rw [List.append_nil]; rfl, rfl, hz rfl⟩
  | e :: Es, p, lo, hi, m, row, left, hd, g, hh, hs, h5, h6, h0, hm, hz, ab => by
    obtain ⟨g1, g2, g3, g4, g5⟩ := g
    have hm := hm e Es rfl
    have hlt := sum_out h0 hm
    have he : ends[p]? = some e := by
      have := congrArg List.head? hd
      rw [List.head?_drop] at this
      exact this
    have hd2 : ends.drop (p + 1) = Es := by
      have := congrArg List.tail hd
      rw [List.tail_drop] at this
      exact this
    rw [show hi = lo + (hi - lo) by omega] at hm
    obtain ⟨a, m', y1, y2, y3, y4, y5, y6⟩ := pick_run he (hi - lo) lo m row left (by omega) g1 (by omega) (by omega) h0 hm
    have ha : a < left.length := by omega
    have le : (left.eraseIdx a).length = left.length - 1 := by rw [List.length_eraseIdx, if_pos ha]
    have hs2 := hs.sublist (List.eraseIdx_sublist left a)
    have hab := able_ok (left := left.eraseIdx a) (p := p + 1) (a := a) (idx_last row (left.getD a 0)) (by omega) (by omega) (by omega) (apart hs ha)
    have hb := hiZ_le (p := p + 1) (a := a) (n := left.length - 1) (by omega)
    rw [le] at hab
    have tot := g4 a (by omega)
    obtain ⟨o, m2, l2, z1, z2⟩ := at_run (ends := ends) Es (p + 1) (loZ (p + 1) a) (hiZ (p + 1) a (left.length - 1)) m' (row ++ [left.getD a 0]) (left.eraseIdx a) hd2 (by rw [le]; exact g5) (by rw [le]; exact hb.2) hs2 (by omega) (by rw [List.length_append]; simp; omega) y4 (fun e2 E2 q => by
        rw [q] at tot
        rw [tot] at y5
        exact y5) (fun q => by
        rw [q] at tot
        have tot : e.getD a 0 = 1 := tot
        omega) (by exact hab)
    refine ⟨left.getD a 0 :: o, m2, l2, ?_, a, m', o, y1, by omega, rfl, y3, y4, y5, z2⟩
    show sb (p_zigzag_at_b2 ends (m, row, left) (p : Int)) (fun s' => sfold (p_zigzag_at_b2 ends) (rgI ((p : Int) + 1) Es.length) s') = _
    have : p_zigzag_at_b2 ends (m, row, left) (p : Int) = sp (m', row ++ [left.getD a 0], left.eraseIdx a) := by
      unfold p_zigzag_at_b2
      show sb (p_able_from (eL D.int row) left (p : Int)) _ = _
      rw [ab, sb_sp, y6, sb_sp, srest_next]
    rw [this, sb_sp, show (p : Int) + 1 = ((p + 1 : Nat) : Int) by omega, z1]
    simp
/-- and back -/
theorem num_inner {ends : List (List Int)} {e : List Int} {p a : Nat} {left : List Int} (he : ends[p]? = some e) (hl : e.length = left.length) (hs : left.Pairwise (· < ·)) (ha : a < left.length) (f0 : Int) : ∀ (k lo : Nat) (f : Int), lo + k ≤ left.length → sfold (p_number_in_b1 ends (f0, left) ((p : Int), left.getD a 0)) (rgI (lo : Int) k) f = sp (f + sumI e lo (min (max a lo) (lo + k)))
  | 0, lo, f, h => by
    rw [sumI_nil e (show min (max a lo) (lo + 0) ≤ lo by omega), Int.add_zero]
    rfl
  | k + 1, lo, f, h => by
    have e1 : atI ends (p : Int) = some e := by rw [atI_nat, he]
    have e2 : atI e (lo : Int) = some (e.getD lo 0) := atI_D (by omega)
    have e3 : atI left (lo : Int) = some (left.getD lo 0) := atI_D (by omega)
    show sb (p_number_in_b1 ends (f0, left) ((p : Int), left.getD a 0) f (lo : Int)) (fun s' => sfold (p_number_in_b1 ends (f0, left) ((p : Int), left.getD a 0)) (rgI ((lo : Int) + 1) k) s') = _
    by_cases q : lo < a
    · have hv : left.getD lo 0 < left.getD a 0 := by
        rw [getD_at (show lo < left.length by omega), getD_at ha]
        exact List.pairwise_iff_getElem.mp hs lo a (by omega) ha q
      have : p_number_in_b1 ends (f0, left) ((p : Int), left.getD a 0) f (lo : Int) = sp (f + e.getD lo 0) := by
        unfold p_number_in_b1
        rw [so_of e3, decide_eq_true hv, if_pos rfl, so_of e1, so_of e2, slet_eq, sb_sp]
      rw [this, sb_sp, show (lo : Int) + 1 = ((lo + 1 : Nat) : Int) by omega, num_inner he hl hs ha f0 k (lo + 1) _ (by omega)]
      congr 1
      rw [show min (max a (lo + 1)) (lo + 1 + k) = min (max a lo) (lo + (k + 1)) by omega, sumI_step (e := e) (lo := lo) (hi := min (max a lo) (lo + (k + 1))) (by omega) (by omega)]
      omega
    · have hv : ¬ left.getD lo 0 < left.getD a 0 := by
        rw [getD_at (show lo < left.length by omega), getD_at ha]
        rcases Nat.lt_or_ge a lo with z | z
        · have := List.pairwise_iff_getElem.mp hs a lo ha (by omega) z
          omega
        · have : lo = a := by omega
          subst this
          omega
      have : p_number_in_b1 ends (f0, left) ((p : Int), left.getD a 0) f (lo : Int) = sp f := by
        unfold p_number_in_b1
        rw [so_of e3, decide_eq_false hv, if_neg (by simp), sb_sp]
      rw [this, sb_sp, show (lo : Int) + 1 = ((lo + 1 : Nat) : Int) by omega, num_inner he hl hs ha f0 k (lo + 1) _ (by omega), sumI_nil e (show min (max a (lo + 1)) (lo + 1 + k) ≤ lo + 1 by omega), sumI_nil e (show min (max a lo) (lo + (k + 1)) ≤ lo by omega)]
theorem rem_at {left : List Int} (hn : left.Nodup) {a : Nat} (ha : a < left.length) : remI left (left.getD a 0) = some (left.eraseIdx a) := by
  unfold remI
  rw [getD_at ha, hn.idxOf_getElem a ha, if_pos ha]
theorem num_run {ends : List (List Int)} {order : List Int} : ∀ (Es : List (List Int)) (p lo hi : Nat) (m f : Int) (o left : List Int), ends.drop p = Es → GdE Es p left.length → hi ≤ left.length → left.Pairwise (· < ·) → left.length ≤ 500 → order.drop p = o → p_able_from (eT D.int (cut order none (some (p : Int)))) left (p : Int) = sp (rgI (lo : Int) (hi - lo)) → path Es p lo hi left o m →
    ∃ l2, sfold (p_number_in_b2 order ends) (enI (p : Int) o) (f, left) = sp (f + m, l2)
  | [], p, lo, hi, m, f, o, left, hd, g, hh, hs, h5, ho, ab, h => by
    refine ⟨left, ?_⟩
    rw [h.1, h.2, Int.add_zero]
    rfl
  | e :: Es, p, lo, hi, m, f, o, left, hd, g, hh, hs, h5, ho, ab, ⟨a, m', o', y1, y2, y3, y4, y5, y6, y7⟩ => by
    obtain ⟨g1, g2, g3, g4, g5⟩ := g
    have he : ends[p]? = some e := by
      have := congrArg List.head? hd
      rw [List.head?_drop] at this
      exact this
    have hd2 : ends.drop (p + 1) = Es := by
      have := congrArg List.tail hd
      rw [List.tail_drop] at this
      exact this
    have ha : a < left.length := by omega
    have le : (left.eraseIdx a).length = left.length - 1 := by rw [List.length_eraseIdx, if_pos ha]
    have hs2 := hs.sublist (List.eraseIdx_sublist left a)
    have hn : left.Nodup := hs.imp fun h => by omega
    have ho1 : order[p]? = some (left.getD a 0) := by
      have := congrArg List.head? ho
      rw [List.head?_drop, y3] at this
      exact this
    have ho2 : order.drop (p + 1) = o' := by
      have := congrArg List.tail ho
      rw [List.tail_drop, y3] at this
      exact this
    have hp : p < order.length := (List.getElem?_eq_some_iff.mp ho1).1
    have hcut : cut order none (some ((p + 1 : Nat) : Int)) = order.take p ++ [left.getD a 0] := by
      rw [cutT _ _ (by omega), Int.toNat_natCast, List.take_succ, ho1]
      rfl
    have hab := able_ok (row := eT D.int (cut order none (some ((p + 1 : Nat) : Int)))) (left := left.eraseIdx a) (p := p + 1) (a := a) (v := left.getD a 0) (by rw [hcut]; exact idx_lastT _ _) (by omega) (by omega) (by omega) (apart hs ha)
    have hb := hiZ_le (p := p + 1) (a := a) (n := left.length - 1) (by omega)
    rw [le] at hab
    obtain ⟨l2, z⟩ := num_run (ends := ends) (order := order) Es (p + 1) (loZ (p + 1) a) (hiZ (p + 1) a (left.length - 1)) m' (f + sumI e lo a) o' (left.eraseIdx a) hd2 (by rw [le]; exact g5) (by rw [le]; exact hb.2) hs2 (by omega) ho2 hab y7
    refine ⟨l2, ?_⟩
    have : p_number_in_b2 order ends (f, left) ((p : Int), left.getD a 0) = sp (f + sumI e lo a, left.eraseIdx a) := by
      unfold p_number_in_b2
      show sb (p_able_from (eT D.int (cut order none (some (p : Int)))) left (p : Int)) _ = _
      rw [ab, sb_sp, num_inner he g1 hs ha f (hi - lo) lo f (by omega), sb_sp, so_of (rem_at hn ha), show min (max a lo) (lo + (hi - lo)) = a by omega]
    rw [y3]
    show sb (p_number_in_b2 order ends (f, left) ((p : Int), left.getD a 0)) (fun s' => sfold (p_number_in_b2 order ends) (enI ((p : Int) + 1) o') s') = _
    rw [this, sb_sp, show (p : Int) + 1 = ((p + 1 : Nat) : Int) by omega, z, y4]
    congr 2
    omega
end K
end PF

/-! C2o: _law_order -/
namespace PF
namespace K
theorem wfuel_ge : 100000 < wfuel := by unfold wfuel; omega
theorem order_ok (n : Nat) (hn : n ≤ 1000) : Ok (p__law_order (n : Int)) fun l => IsO l ∧ l.length = n := by
  unfold p__law_order
  refine ok_gd (by rw [b62_lt (by omega) (by omega), szOk_of (by omega)]; rfl) ?_
  rw [slet_eq, slet_eq, rgI_toNat]
  refine ok_sb (ok_swhile (I := fun s : List Int × List Int => (s.1 ++ s.2).Perm (upto n)) (b := fun s : List Int × List Int => !(s.1 == [])) (fun s : List Int × List Int => s.1.length) (fun s _ => rfl) (fun s hs hb => ?_) wfuel _ (by simp) ?_) fun s ⟨h1, h2⟩ => ok_sp ?_
  · obtain ⟨L, F⟩ := s
    have hl : L.length + F.length = n := by
      have := hs.length_eq
      rw [List.length_append, upto_len] at this
      exact this
    have hne : L ≠ [] := by
      intro e
      subst e
      cases hb
    have hpos : 0 < L.length := List.length_pos_iff.mpr hne
    unfold p__law_order_b1
    refine ok_sb (ok_roll (many := (L.length : Int)) (by omega) (by omega)) fun r ⟨h3, h4⟩ => ?_
    have hlt : r.toNat < L.length := by omega
    refine ok_so (popI_get h3 hlt (by omega)) (ok_gd (szOk_of (by show F.length ≤ _; omega)) (ok_sp ⟨?_, ?_⟩))
    · show (L.eraseIdx r.toNat ++ (F ++ [L[r.toNat]])).Perm (upto n)
      refine List.Perm.trans ?_ hs
      have p1 : (L.eraseIdx r.toNat ++ (F ++ [L[r.toNat]])).Perm (L[r.toNat] :: (L.eraseIdx r.toNat ++ F)) := by
        rw [← List.append_assoc]
        exact List.perm_append_singleton _ _
      exact p1.trans (List.Perm.append_right F (perm_take_out hlt))
    · show (L.eraseIdx r.toNat).length < L.length
      rw [List.length_eraseIdx, if_pos hlt]
      omega
  · show (upto n).length < wfuel
    rw [upto_len]
    exact Nat.lt_of_le_of_lt hn (by have := wfuel_ge; omega)
  · obtain ⟨L, F⟩ := s
    have e : L = [] := by
      cases L with
      | nil => rfl
      | cons a r => cases h2
    subst e
    have h1 : F.Perm (upto n) := h1
    exact ⟨IsO.of h1, by rw [h1.length_eq, upto_len]⟩
end K
end PF

/-! C2: fits_order, need_order, _law_order, _law_near_order -/
namespace PF
namespace K
theorem near_ok (n : Nat) (hn : n ≤ 1000) : Ok (p__law_near_order (n : Int)) fun l => IsO l ∧ l.length = n := by
  unfold p__law_near_order
  refine ok_sb (ok_roll (by omega) (by omega)) fun w hw => ?_
  refine ok_gd (by rw [b62_lt (by omega) (by omega), szOk_of (by omega)]; rfl) ?_
  rw [slet_eq, slet_eq, rgI_toNat]
  refine ok_if (fun _ => ok_sb (order_ok n hn) fun l h => ok_sp h) fun _ => ?_
  refine ok_sb (Q := fun y => 0 ≤ y ∧ y < 4 ∧ (n = 0 → y = 0)) ?_ fun y hy => ?_
  · by_cases h0 : n = 0
    · subst h0
      exact ok_sp (by omega)
    · have : (sif (sp (decide ((n : Int) > 0))) (sb (p__law_roll 4) fun r5 => sp r5) (sp 0)) = p__law_roll 4 := by
        rw [decide_eq_true (by omega), sif_sp, sb_r]
        rfl
      rw [this]
      exact ok_mono (ok_roll (by omega) (by omega)) fun a ha => ⟨ha.1, ha.2, fun e => absurd e h0⟩
  · refine ok_gd (b62_lt (by omega) (by omega)) ?_
    refine ok_sb (ok_sfold (I := fun s => s.Perm (upto n)) (.refl _) fun s x hx hs => ?_) fun s hs => ok_sp ?_
    · have hn0 : n ≠ 0 := by
        intro e
        have := mem_rgI.mp hx
        have := hy.2.2 e
        omega
      have hl : s.length = n := by rw [hs.length_eq, upto_len]
      unfold p__law_near_order_b1
      refine ok_sb (ok_roll (by omega) (by omega)) fun a ha => ok_sb (ok_roll (by omega) (by omega)) fun b hb => ?_
      rw [slet_eq, slet_eq]
      have hA : a.toNat < s.length := by omega
      have hB : b.toNat < s.length := by omega
      refine ok_so (atI_get ha.1 hA) (ok_so (atI_get hb.1 hB) (ok_so (stI_set _ ha.1 hA) (ok_so (stI_set _ hb.1 (by rw [List.length_set]; exact hB)) (ok_sp ?_))))
      exact (List.set_set_perm hA hB).trans hs
    · have h2 : (if (w == 2) = true then s else s.reverse).Perm (upto n) := by
        split
        · exact hs
        · exact (List.reverse_perm s).trans hs
      exact ⟨IsO.of h2, by rw [h2.length_eq, upto_len]⟩
end K
end PF

/-! G4: orders upside down, behind one another -/
namespace PF
theorem upto_rg (n : Nat) : upto n = rgI 0 n := (rgI_upto n).symm
theorem IsO.rg {l : List Int} (h : IsO l) : l.Perm (rgI 0 l.length) := by rw [rgI_upto]; exact h
def compl (l : List Int) : List Int := l.map fun v => (l.length : Int) - 1 - v
@[simp] theorem compl_len (l : List Int) : (compl l).length = l.length := by simp [compl]
theorem compl_compl (l : List Int) : compl (compl l) = l := by
  show (compl l).map (fun v => ((compl l).length : Int) - 1 - v) = l
  rw [compl_len]
  unfold compl
  rw [List.map_map]
  refine (List.map_congr_left (g := id) fun x _ => ?_).trans (List.map_id _)
  show (l.length : Int) - 1 - ((l.length : Int) - 1 - x) = x
  omega
theorem flip_rg (n : Nat) (a c : Int) : ((rgI a n).map fun v => c - v).Perm (rgI (c - a - n + 1) n) := by
  refine perm_of ?_ (rgI_nodup _ _) fun x => ?_
  · exact (List.nodup_iff_pairwise_ne.mp (rgI_nodup n a)).map _ fun a b h e => h (by omega)
  · rw [List.mem_map, mem_rgI]
    constructor
    · rintro ⟨y, hy, rfl⟩
      have := mem_rgI.mp hy
      omega
    · exact fun h => ⟨c - x, mem_rgI.mpr (by omega), by omega⟩
theorem compl_O {l : List Int} (h : IsO l) : IsO (compl l) := by
  unfold IsO
  rw [compl_len, upto_rg]
  have h1 : (compl l).Perm ((rgI 0 l.length).map fun v => (l.length : Int) - 1 - v) := h.rg.map _
  refine h1.trans ?_
  have := flip_rg l.length 0 ((l.length : Int) - 1)
  rwa [show (l.length : Int) - 1 - 0 - l.length + 1 = 0 by omega] at this
theorem rev_O {l : List Int} (h : IsO l) : IsO l.reverse := by
  unfold IsO at h ⊢
  rw [List.length_reverse]
  exact (List.reverse_perm l).trans h
theorem compl_rev (l : List Int) : compl l.reverse = (compl l).reverse := by
  unfold compl
  rw [List.length_reverse, List.map_reverse]
theorem upto_O (n : Nat) : IsO (upto n) := by
  unfold IsO
  rw [upto_len]
def compI (a b : List Int) : List Int := b.map fun v => a.getD v.toNat 0
@[simp] theorem compI_len (a b : List Int) : (compI a b).length = b.length := by simp [compI]
theorem map_get (a : List Int) : (upto a.length).map (fun v => a.getD v.toNat 0) = a := by
  refine List.ext_getElem? fun i => ?_
  by_cases hi : i < a.length
  · rw [List.getElem?_map, upto_get hi]
    show some (a.getD ((i : Int)).toNat 0) = _
    rw [Int.toNat_natCast, List.getD_eq_getElem?_getD, List.getElem?_eq_getElem hi]
    rfl
  · rw [List.getElem?_eq_none (by simp; omega), List.getElem?_eq_none (by omega)]
theorem compI_O {a b : List Int} (ha : IsO a) (hb : IsO b) (h : a.length = b.length) : IsO (compI a b) := by
  have h1 : (compI a b).Perm a := by
    have := hb.map fun v => a.getD v.toNat 0
    rw [← h, map_get] at this
    exact this
  unfold IsO at ha ⊢
  rw [compI_len, ← h]
  exact h1.trans ha
theorem compI_get {a b : List Int} (hb : IsO b) (h : a.length = b.length) {i : Nat} {v : Int} (e : b[i]? = some v) : (compI a b)[i]? = a[v.toNat]? := by
  obtain ⟨hi, q⟩ := List.getElem?_eq_some_iff.mp e
  have hv := hb.mem.mp (q ▸ List.getElem_mem hi)
  unfold compI
  rw [List.getElem?_map, e]
  show some (a.getD v.toNat 0) = _
  rw [List.getD_eq_getElem?_getD, List.getElem?_eq_getElem (show v.toNat < a.length by omega)]
  rfl
theorem idx_get {l : List Int} (h : IsO l) {x : Int} (hx : 0 ≤ x ∧ x < l.length) : ∃ i : Nat, i < l.length ∧ l[i]? = some x ∧ l.idxOf x = i := by
  have hm : x ∈ l := h.mem.mpr hx
  have hi := List.idxOf_lt_length_of_mem hm
  exact ⟨l.idxOf x, hi, by rw [List.getElem?_eq_getElem hi, List.getElem_idxOf hi], rfl⟩
theorem idx_of {l : List Int} (h : IsO l) {i : Nat} {x : Int} (e : l[i]? = some x) : l.idxOf x = i := by
  obtain ⟨hi, q⟩ := List.getElem?_eq_some_iff.mp e
  rw [← q]
  exact h.nodup.idxOf_getElem i hi
theorem inv_get {l : List Int} {i : Nat} (hi : i < l.length) : (invI l)[i]? = some ((l.idxOf (i : Int) : Nat) : Int) := by
  unfold invI
  rw [List.getElem?_map, upto_get hi]
  rfl
end PF

/-! Bk: backwards, upside down -/
namespace PF
namespace K
theorem upside_ok {l : List Int} (h : IsO l) (hl : l.length ≤ 30) : p_upside_down l = sp (compl l) := by
  unfold p_upside_down p_upside_down_in
  rw [need_ok h hl, sb_sp, sb_r, gd_of (szOk_of (by omega))]
  rfl
end K
end PF

/-! Go: all orders of few values, as lists -/
namespace PF
theorem sfold_cat {α β : Type} {f : List β → α → S (List β)} {g : α → List β} (B : Nat) : ∀ (xs : List α) (s : List β), s.length + (xs.flatMap g).length ≤ B → (∀ s, ∀ x ∈ xs, s.length + (g x).length ≤ B → f s x = sp (s ++ g x)) → sfold f xs s = sp (s ++ xs.flatMap g)
  | [], s, _, _ => by
    show sp s = _
    rw [List.flatMap_nil, List.append_nil]
  | x :: r, s, hB, h => by
    rw [List.flatMap_cons, List.length_append] at hB
    show sb (f s x) (fun s' => sfold f r s') = _
    rw [h s x (by simp) (by omega), sb_sp, sfold_cat B r (s ++ g x) (by rw [List.length_append]; omega) fun s y hy => h s y (List.mem_cons_of_mem _ hy), List.flatMap_cons, List.append_assoc]
def stepO (n : Nat) (s : List Int) : List (List Int) := ((upto n).filter fun v => !(memB s v)).map fun v => s ++ [v]
def itO (n : Nat) : Nat → List (List Int)
  | 0 => [[]]
  | t + 1 => (itO n t).flatMap (stepO n)
theorem stepO_len (n : Nat) (s : List Int) : (stepO n s).length ≤ n := by
  unfold stepO
  rw [List.length_map]
  exact Nat.le_trans (List.length_filter_le _ _) (by rw [upto_len]; exact Nat.le_refl _)
theorem flat_le {α β : Type} {g : α → List β} {n : Nat} (h : ∀ x, (g x).length ≤ n) : ∀ l : List α, (l.flatMap g).length ≤ n * l.length
  | [] => by simp
  | x :: r => by
    rw [List.flatMap_cons, List.length_append, List.length_cons, Nat.mul_succ]
    have := flat_le h r
    have := h x
    omega
theorem itO_le (n : Nat) : ∀ t, (itO n t).length ≤ n ^ t
  | 0 => by simp [itO]
  | t + 1 => by
    refine Nat.le_trans (flat_le (stepO_len n) (itO n t)) ?_
    rw [Nat.pow_succ, Nat.mul_comm]
    exact Nat.mul_le_mul_right n (itO_le n t)
theorem itO_mem (n : Nat) : ∀ t, ∀ s ∈ itO n t, s.length = t
  | 0, s, h => by
    rw [show s = [] by simpa [itO] using h]
    rfl
  | t + 1, s, h => by
    obtain ⟨u, hu, hs⟩ := List.mem_flatMap.mp h
    obtain ⟨v, _, rfl⟩ := List.mem_map.mp hs
    rw [List.length_append, itO_mem n t u hu]
    rfl
theorem itO_in (n : Nat) : ∀ t, ∀ s ∈ itO n t, s.Nodup ∧ ∀ x ∈ s, 0 ≤ x ∧ x < n
  | 0, s, h => by
    rw [show s = [] by simpa [itO] using h]
    exact ⟨List.nodup_nil, fun x hx => by cases hx⟩
  | t + 1, s, h => by
    obtain ⟨u, hu, hs⟩ := List.mem_flatMap.mp h
    obtain ⟨v, hv, rfl⟩ := List.mem_map.mp hs
    obtain ⟨h1, h2⟩ := itO_in n t u hu
    obtain ⟨h3, h4⟩ := List.mem_filter.mp hv
    have hv' : v ∉ u := by
      rw [memB_iff] at h4
      simpa using h4
    refine ⟨?_, fun x hx => ?_⟩
    · rw [List.nodup_append]
      exact ⟨h1, List.pairwise_singleton _ _, fun a ha b hb e => hv' (by rw [List.mem_singleton] at hb; subst hb; exact e ▸ ha)⟩
    · rcases List.mem_append.mp hx with z | z
      · exact h2 x z
      · rw [List.mem_singleton.mp z]
        exact mem_upto.mp h3
theorem itO_O (n : Nat) : ∀ s ∈ itO n n, IsO s ∧ s.length = n := fun s hs => by
  have h1 := itO_mem n n s hs
  obtain ⟨h2, h3⟩ := itO_in n n s hs
  refine ⟨?_, h1⟩
  unfold IsO
  exact perm_of_sub h2 (fun x hx => mem_upto.mpr (by rw [h1]; exact h3 x hx)) (by rw [upto_len]; exact Nat.le_refl _)
end PF

/-! Bo: _law_orders -/
namespace PF
namespace K
theorem orders_b1 (n : Nat) (hn : n ≤ 1000) (F : List (List Int)) (s : List Int) (hs : s.length ≤ 1000) (h : F.length + (stepO n s).length ≤ 1000000) : p__law_orders_b1 (n : Int) F s = sp (F ++ stepO n s) := by
  unfold p__law_orders_b1
  rw [gB1 (by omega) (by omega), gSz (by rw [rgI_len]; omega), rgI_toNat]
  rw [sfm_pure' (p := fun v => !(memB s v)) (g := fun v => s ++ [v]) (fun _ _ => rfl) (fun v _ _ => by rw [gSz (by simp; omega)]), sb_sp]
  show so (gd (szOk (F.length + (stepO n s).length))) _ = _
  rw [gSz h]
  rfl
theorem orders_loop (n : Nat) (hn : n ≤ 7) : ∀ (j t : Nat) (a : Int), t + j ≤ n → sfold (p__law_orders_b2 (n : Int)) (rgI a j) (itO n t) = sp (itO n (t + j))
  | 0, t, a, _ => rfl
  | j + 1, t, a, h => by
    show sb (p__law_orders_b2 (n : Int) (itO n t) a) (fun s' => sfold (p__law_orders_b2 (n : Int)) (rgI (a + 1) j) s') = _
    have hle : ∀ t, t ≤ n → (itO n t).length ≤ 1000000 := fun t ht => by
      refine Nat.le_trans (itO_le n t) (Nat.le_trans (Nat.pow_le_pow_left hn t) (Nat.le_trans (Nat.pow_le_pow_right (by omega) (show t ≤ 7 by omega)) (by decide)))
    have e : p__law_orders_b2 (n : Int) (itO n t) a = sp (itO n (t + 1)) := by
      unfold p__law_orders_b2
      rw [slet_eq, sb_r, sfold_cat (g := stepO n) 1000000 (itO n t) [] (by
        rw [List.length_nil, Nat.zero_add]
        exact hle (t + 1) (by omega)) fun F s hs hB => orders_b1 n (by omega) F s (by rw [itO_mem n t s hs]; omega) hB]
      rfl
    rw [e, sb_sp, orders_loop n hn j (t + 1) (a + 1) (by omega), show t + 1 + j = t + (j + 1) by omega]
theorem law_orders_ok (n : Nat) (hn : n ≤ 7) : p__law_orders (n : Int) = sp (itO n n) := by
  unfold p__law_orders
  rw [slet_eq, gB1 (by omega) (by omega), sb_r, Int.toNat_natCast]
  have := orders_loop n hn n 0 0 (by omega)
  rw [Nat.zero_add] at this
  exact this
end K
end PF

/-! Jd: judging any value: common steps -/
namespace PF
namespace K
theorem tup_run (d : D) (lo hi : Int) : p_is_tuple_of d lo hi = sp (tupB d lo hi) := rfl
theorem whole_run (d : D) (lo hi : Int) : p_is_whole d lo hi = sp (wholeB d lo hi) := rfl
def okI (n : Nat) : D → Bool
  | .int i => decide (0 ≤ i) && decide (i < (n : Int))
  | _ => false
theorem whole_okI (n : Nat) (d : D) : wholeB d 0 ((n : Int) - 1) = okI n d := by
  cases d with
  | int i =>
    show (decide (0 ≤ i) && decide (i ≤ (n : Int) - 1)) = (decide (0 ≤ i) && decide (i < (n : Int)))
    congr 1
    exact decide_eq_decide.mpr (by omega)
  | _ => rfl
theorem at_ok (n : Nat) (d : D) : (sb (sor (sb (p__law_sort d) fun r9 => sp (!(r9 == (2 : Int)))) (sb (so (blOf (op2D .le (D.int (0 : Int)) d)) fun u => sand (sp u) (sb (sp (n : Int)) fun z11 => so (blOf (op2D .lt d (D.int z11))) fun v => sp v)) fun b10 => sp (!b10))) fun b12 => sp b12) = sp (!(okI n d)) := by
  cases d with
  | int i =>
    have e1 : p__law_sort (.int i) = sp 2 := rfl
    rw [e1, sb_sp, show (!((2 : Int) == 2)) = false from rfl, sor_f, so_of (show blOf (op2D .le (D.int 0) (D.int i)) = some (decide (0 ≤ i)) from rfl), sb_sp, so_of (show blOf (op2D .lt (D.int i) (D.int (n : Int))) = some (decide (i < (n : Int))) from rfl)]
    unfold sand
    rw [sb_sp]
    show _ = sp (!(decide (0 ≤ i) && decide (i < (n : Int))))
    by_cases q : 0 ≤ i
    · rw [decide_eq_true q, if_pos rfl, sb_sp, sb_sp, Bool.true_and]
    · rw [decide_eq_false q, if_neg (by simp), sb_sp, sb_sp, Bool.false_and]
  | _ => rfl
theorem goodL_of {n : Nat} : ∀ {l : List D}, (∀ x ∈ l, D.good n x = true) → D.goodL n l = true
  | [], _ => goodL_nil n
  | a :: r, h => by rw [goodL_cons', h a (by simp), goodL_of fun x hx => h x (List.mem_cons_of_mem _ hx)]; rfl
theorem eqv_nil (l : List D) : D.eqv (eL eD l) (eL D.int []) = l.isEmpty := by
  cases l <;> rfl
theorem good_fil {n : Nat} (hn : n ≤ 49) {l : List D} (h : D.goodL n l = true) (p : D → Bool) : (D.good 50 ((eL eD) (l.filter p)) && D.good 50 ((eL D.int) ([] : List Int))) = true := by
  have : D.good 50 (eL eD (l.filter p)) = true := by
    show D.goodL 49 ((l.filter p).map eD) = true
    rw [show (l.filter p).map eD = l.filter p from List.map_id _]
    exact goodL_of fun x hx => good_up n 49 x hn (goodL_mem h x (List.mem_filter.mp hx).1)
  rw [this]
  rfl
theorem fil_all {α : Type} (p : α → Bool) : ∀ xs : List α, (xs.filter fun x => !p x).isEmpty = xs.all p
  | [] => rfl
  | a :: r => by
    rw [List.filter_cons, List.all_cons]
    cases h : p a with
    | true => rw [if_neg (by simp)]; exact (fil_all p r).trans (by simp)
    | false => rfl
/-- a filter that collects what is bad, and asks whether there is any -/
theorem fil_run {β : Type} {n : Nat} (hn : n ≤ 49) {ds : List D} (hg : D.goodL n ds = true) {C : D → S Bool} {p : D → Bool} (hc : ∀ d ∈ ds, C d = sp (!p d)) (k : Bool → S β) :
    (sb (sfm C (fun d => sp d) ds) fun l => so (gd (D.good 50 ((eL eD) l) && D.good 50 ((eL D.int) ([] : List Int)))) fun _ => k (D.eqv ((eL eD) l) ((eL D.int) ([] : List Int)))) = k (ds.all p) := by
  rw [sfm_pure' (p := fun d => !(p d)) (g := fun d => d) hc (fun _ _ _ => rfl), sb_sp, List.map_id'' (fun _ => rfl), gd_of (good_fil hn hg _), eqv_nil, fil_all]
theorem all_and {α : Type} (p q : α → Bool) : ∀ xs : List α, (xs.all fun x => p x && q x) = (xs.all p && xs.all q)
  | [] => rfl
  | a :: r => by
    rw [List.all_cons, List.all_cons, List.all_cons, all_and p q r]
    cases p a <;> cases q a <;> simp
theorem len_tup (es : List D) (lo hi : Nat) : tupB (.tup es) (lo : Int) (hi : Int) = (decide (lo ≤ es.length) && decide (es.length ≤ hi)) := by
  show (decide ((lo : Int) ≤ (es.length : Int)) && decide ((es.length : Int) ≤ (hi : Int))) = _
  congr 1
  · exact decide_eq_decide.mpr (by omega)
  · exact decide_eq_decide.mpr (by omega)
theorem pair_of {d : D} (h : tupB d 2 2 = true) : ∃ x y, d = .tup [x, y] := by
  cases d with
  | tup es =>
    have := len_tup es 2 2
    have h : tupB (.tup es) ((2 : Nat) : Int) ((2 : Nat) : Int) = true := h
    rw [h] at this
    match es, this with
    | [], t => simp at t
    | [a], t => simp at t
    | [a, b], _ => exact ⟨a, b, rfl⟩
    | a :: b :: c :: r, t => simp at t
  | _ => cases h
end K
end PF

/-! Jo: which values are orders -/
namespace PF
namespace K
def isOB : D → Bool
  | .tup ds => decide (ds.length ≤ 30) && (match ints? ds with
    | some l => sortI l == upto l.length
    | none => false)
  | _ => false
theorem ints_no : ∀ {ds : List D}, ints? ds = none → ∃ d ∈ ds, ∀ i, d ≠ .int i
  | [], h => by cases h
  | d :: r, h => by
    by_cases q : ∃ i, d = .int i
    · obtain ⟨i, rfl⟩ := q
      have h : (match ints? r with | some l => some (i :: l) | none => none) = none := h
      cases e : ints? r with
      | none =>
        obtain ⟨x, hx, hn⟩ := ints_no e
        exact ⟨x, List.mem_cons_of_mem _ hx, hn⟩
      | some l => rw [e] at h; cases h
    · exact ⟨d, List.mem_cons_self .., fun i e => q ⟨i, e⟩⟩
theorem okI_ni {n : Nat} {d : D} (h : ∀ i, d ≠ .int i) : okI n d = false := by
  cases d with
  | int i => exact absurd rfl (h i)
  | _ => rfl
theorem sort_upto {l : List Int} : (sortI l == upto l.length) = true ↔ IsO l := by
  rw [beq_iff_eq]
  exact sortI_iff (upto_sorted _)
theorem isOB_int {l : List Int} : isOB (eT D.int l) = (decide (l.length ≤ 30) && (sortI l == upto l.length)) := by
  show (decide ((l.map D.int).length ≤ 30) && (match ints? (l.map D.int) with
    | some l => sortI l == upto l.length
    | none => false)) = _
  rw [ints_map, List.length_map]
theorem isOB_O {l : List Int} (h : IsO l) (hl : l.length ≤ 30) : isOB (eT D.int l) = true := by
  rw [isOB_int, decide_eq_true hl, sort_upto.mpr h]
  rfl
theorem fits_any (v : D) : p_fits_order v = sp (isOB v) := by
  unfold p_fits_order
  rw [tup_run, sb_sp]
  cases v with
  | tup ds =>
    have e0 : tupB (.tup ds) 0 30 = decide (ds.length ≤ 30) := by
      have := len_tup ds 0 30
      rw [decide_eq_true (Nat.zero_le _), Bool.true_and] at this
      exact this
    have el : intOf (b1D .len (.tup ds)) = some (ds.length : Int) := rfl
    rw [e0]
    show _ = sp (decide (ds.length ≤ 30) && _)
    by_cases q : ds.length ≤ 30
    · rw [decide_eq_true q, show (!true) = false from rfl, sor_f, Bool.true_and, so_of (show seqD (.tup ds) = some ds from rfl), gSz (by omega)]
      rw [smap_pure (g := okI ds.length) fun d _ => by rw [so_of el, whole_run, sb_sp, whole_okI], sb_sp, sb_sp, List.all_map]
      show (if (!(ds.all fun d => okI ds.length d)) = true then _ else _) = _
      cases e : ints? ds with
      | none =>
        obtain ⟨d, hd, hn⟩ := ints_no e
        have : (ds.all fun d => okI ds.length d) = false := by
          rw [List.all_eq_false]
          exact ⟨d, hd, by rw [okI_ni hn]; simp⟩
        rw [this]
        rfl
      | some l =>
        have ed : ds = l.map D.int := ints_of e
        have es : intsOf (b1D .sorted (.tup ds)) = some (sortI l) := by
          have h1 := w_sortT (x := l) (szOk_of (by rw [ed, List.length_map] at q; omega))
          rw [show D.tup ds = eT D.int l by rw [ed]; rfl, h1]
          exact intsOf_eL _
        have hlen : ds.length = l.length := by rw [ed, List.length_map]
        cases a : (ds.all fun d => okI ds.length d) with
        | true =>
          rw [if_neg (by simp), so_of es, so_of el, gLs (by omega) (by omega), rgI_toNat, hlen]
        | false =>
          show sp false = sp (sortI l == upto l.length)
          congr 1
          symm
          rw [Bool.eq_false_iff]
          intro z
          have hO := sort_upto.mp z
          rw [List.all_eq_false] at a
          obtain ⟨d, hd, hn⟩ := a
          rw [ed] at hd
          obtain ⟨i, hi, rfl⟩ := List.mem_map.mp hd
          have := hO.mem.mp hi
          apply hn
          show (decide (0 ≤ i) && decide (i < (ds.length : Int))) = true
          rw [decide_eq_true this.1, decide_eq_true (by omega)]
          rfl
    · rw [decide_eq_false q, show (!false) = true from rfl, sor_t, sb_sp, if_pos rfl, Bool.false_and]
  | _ => rfl
theorem is_any (v : D) : p_is_order v = sp (isOB v) := by
  unfold p_is_order
  rw [fits_any, sb_sp]
end K
end PF

/-! K15c: closed cases (printed by K15tab.py) -/
namespace PF
namespace K
def eulL : List Int := [1, 1, 1, 2, 5, 16, 61, 272, 1385, 7936, 50521, 353792, 2702765, 22368256, 199360981, 1903757312, 19391512145, 209865342976, 2404879675441, 29088885112832, 370371188237525, 4951498053124096, 69348874393137901, 1015423886506852352, 15514534163557086905, 246921480190207983616, 4087072509293123892361, 70251601603943959887872, 1252259641403629865468285, 23119184187809597841473536, 441543893249023104553682821]
def triT : Nat → List Int
  | 1 => [1]
  | 2 => [1, 0]
  | 3 => [1, 1, 0]
  | 4 => [2, 2, 1, 0]
  | 5 => [5, 5, 4, 2, 0]
  | 6 => [16, 16, 14, 10, 5, 0]
  | 7 => [61, 61, 56, 46, 32, 16, 0]
  | 8 => [272, 272, 256, 224, 178, 122, 61, 0]
  | 9 => [1385, 1385, 1324, 1202, 1024, 800, 544, 272, 0]
  | 10 => [7936, 7936, 7664, 7120, 6320, 5296, 4094, 2770, 1385, 0]
  | 11 => [50521, 50521, 49136, 46366, 42272, 36976, 30656, 23536, 15872, 7936, 0]
  | 12 => [353792, 353792, 345856, 329984, 306448, 275792, 238816, 196544, 150178, 101042, 50521, 0]
  | 13 => [2702765, 2702765, 2652244, 2551202, 2401024, 2204480, 1965664, 1689872, 1383424, 1053440, 707584, 353792, 0]
  | 14 => [22368256, 22368256, 22014464, 21306880, 20253440, 18870016, 17180144, 15214480, 13010000, 10608976, 8057774, 5405530, 2702765, 0]
  | 15 => [199360981, 199360981, 196658216, 191252686, 183194912, 172585936, 159575936, 144361456, 127181312, 108311296, 88057856, 66750976, 44736512, 22368256, 0]
  | 16 => [1903757312, 1903757312, 1881389056, 1836652544, 1769901568, 1681843712, 1573532416, 1446351104, 1301989648, 1142413712, 969827776, 786632864, 595380178, 398721962, 199360981, 0]
  | 17 => [19391512145, 19391512145, 19192151164, 18793429202, 18198049024, 17411416160, 16441588384, 15299174672, 13997185024, 12550833920, 10977301504, 9295457792, 7525556224, 5688903680, 3807514624, 1903757312, 0]
  | 18 => [209865342976, 209865342976, 207961585664, 204154071040, 198465167360, 190939611136, 181644153344, 170666851840, 158116017920, 144118832896, 128819658224, 112378069840, 94966653680, 76768604656, 57975175454, 38783024290, 19391512145, 0]
  | 19 => [2404879675441, 2404879675441, 2385488163296, 2346705139006, 2288729963552, 2211961358896, 2116994705216, 2004616635376, 1875796977152, 1731678144256, 1573562126336, 1402895274496, 1221251121152, 1030311510016, 831846342656, 627692271616, 419730685952, 209865342976, 0]
  | 20 => [29088885112832, 29088885112832, 28879019769856, 28459289083904, 27831596812288, 26999750469632, 25969438959616, 24748187838464, 23345292563968, 21771730437632, 20040052293376, 18164255316224, 16159638680848, 14042643975632, 11830682616736, 9541952653184, 7195247514178, 4809759350882, 2404879675441, 0]
  | 21 => [370371188237525, 370371188237525, 367966308562084, 363156549211202, 355961301697024, 346419349043840, 334588666427104, 320546022451472, 304386383770624, 286222128454400, 266182076161024, 244410345723392, 221065053159424, 196316865320960, 170347426361344, 143347675891712, 115516079079424, 87056789995520, 58177770225664, 29088885112832, 0]
  | 22 => [4951498053124096, 4951498053124096, 4922409168011264, 4864231397785600, 4777174607790080, 4661658528710656, 4518310852818944, 4347963426457600, 4151646561136640, 3930581507977216, 3686171162253824, 3419989086092800, 3133766957638400, 2829380573867776, 2508834551416304, 2174245884989200, 1827826535945360, 1471865234248336, 1108708685037134, 740742376475050, 370371188237525, 0]
  | 23 => [69348874393137901, 69348874393137901, 68978503204900376, 68237760828425326, 67129052143388192, 65657186909139856, 63829360373194496, 61655114488205296, 59146279936788992, 56316899362921216, 53183132405282816, 49763143319190016, 46076972156936192, 42146390648958976, 37994744087822336, 33646780661364736, 29128469808545792, 24466811279835136, 19689636672045056, 14825405274259456, 9902996106248192, 4951498053124096, 0]
  | 24 => [1015423886506852352, 1015423886506852352, 1010472388453728256, 1000569392347480064, 985743987073220608, 966054350401175552, 941587539121340416, 912459069312794624, 878812288651429888, 840817544563607552, 798671153914648576, 752594181757712384, 702831038438522368, 649647906033239552, 593331006670318336, 534184726733529344, 472529612245324048, 408700251872129552, 343043064962989696, 275914012819601504, 207676251991176178, 138697748786275802, 69348874393137901, 0]
  | 25 => [15514534163557086905, 15514534163557086905, 15445185289163949004, 15306487540377673202, 15098811288386497024, 14822897275566895520, 14479854210603905824, 14071153958731776272, 13598624346486452224, 13064439619752922880, 12471108613082604544, 11821460707049364992, 11118629668610842624, 10366035486853130240, 9567364332938481664, 8726546788374874112, 7847734499723444224, 6935275430410649600, 5993687891289309184, 5027633540888133632, 4041889553814913024, 3041320161467432960, 2030847773013704704, 1015423886506852352, 0]
  | 26 => [246921480190207983616, 246921480190207983616, 245906056303701131264, 243875208530687426560, 240833888369219993600, 236791998815405080576, 231764365274516946944, 225770677383227637760, 218835401952816988160, 210987667453093543936, 202261120664718669824, 192693756331780188160, 182327720844927057920, 171209091176316215296, 159387630469266850304, 146916521856184245760, 133852082236431322880, 120253457889944870656, 106182303931213094384, 91702449720609188560, 76879552445042293040, 61780741156655796016, 46474253616278122814, 31029068327114173810, 15514534163557086905, 0]
  | 27 => [4087072509293123892361, 4087072509293123892361, 4071557975129566805456, 4040528906802452631646, 3994054653186174508832, 3932273912029518712816, 3855394359584476419776, 3763691909863867231216, 3657509605932654136832, 3537256148042709266176, 3403404065806277943296, 3256487543950093697536, 3097099913480826847232, 2925890822304510631936, 2743563101459583574016, 2550869345127803385856, 2348608224463084716032, 2137620557009991172096, 1918785155057174183936, 1693014477673946546176, 1461250112399429599232, 1224458113584024518656, 983624225214804525056, 739749016684117098496, 493842960380415967232, 246921480190207983616, 0]
  | 28 => [70251601603943959887872, 70251601603943959887872, 70004680123753751904256, 69510837163373335937024, 68771088146689218838528, 67787463921474414313472, 66563005807890389794816, 65101755695490960195584, 63408741217817013649408, 61489956062759839465472, 59352335505749848293376, 57003727281286763577344, 54452857936158960191488, 51709294834699376617472, 48783404012394865985536, 45686304098914039138304, 42429816554963945440768, 39026412489157667497472, 35489156341114958231296, 31831646735182304094464, 28067954825318436863248, 24212560465733960443472, 20280286553704441730656, 16286231900518267221824, 12245702993715814590178, 8174145018586247784722, 4087072509293123892361, 0]
  | 29 => [1252259641403629865468285, 1252259641403629865468285, 1248172568894336741575924, 1239998423875750493791202, 1227752720882034679201024, 1211466488981516411979200, 1191186202427811970248544, 1166973641962078009805072, 1138905687136759572941824, 1107074040401577268847360, 1071584884060462310616064, 1032558471571304643118592, 990128655016340697677824, 944442350917426658539520, 895658946905031792553984, 843949652070332415936512, 789496794134173455745024, 732493066852886692167680, 673140731347136843874304, 611650775284377004408832, 548242034066559990759424, 483140278371069030563840, 416577272563178640769024, 348789808641704226455552, 280018720495015007617024, 210507883331641671680000, 140503203207887919775744, 70251601603943959887872, 0]
  | 30 => [23119184187809597841473536, 23119184187809597841473536, 23048932586205653881585664, 22908429382997765961809920, 22697921499666124290129920, 22417902779171109282512896, 22069112970529405056057344, 21652535697966226415288320, 21169395419595157384724480, 20621153385528597393965056, 20009502610244220389556224, 19336361878897083545681920, 18603868812044196853514240, 17814372017910023397769216, 16970422365839690981832704, 16074763418934659189278720, 15130321068017232530739200, 14140192413000891833061376, 13107633941429587189942784, 12036049057369124879326720, 10928975016967547610479360, 9790069329830788037537536, 8623095687868710027732464, 7431909485440898057483920, 6220442996459381645504720, 4992690275577346966303696, 3752691851701596472512494, 2504519282807259730936570, 1252259641403629865468285, 0]
  | _ => []
theorem cnt_0 : p__law_counts ((0 : Nat) : Int) = sp (eulL.take 1) := by kernel_rfl
theorem cnt_1 : p__law_counts ((1 : Nat) : Int) = sp (eulL.take 2) := by kernel_rfl
theorem cnt_2 : p__law_counts ((2 : Nat) : Int) = sp (eulL.take 3) := by kernel_rfl
theorem cnt_3 : p__law_counts ((3 : Nat) : Int) = sp (eulL.take 4) := by kernel_rfl
theorem cnt_4 : p__law_counts ((4 : Nat) : Int) = sp (eulL.take 5) := by kernel_rfl
theorem cnt_5 : p__law_counts ((5 : Nat) : Int) = sp (eulL.take 6) := by kernel_rfl
theorem cnt_6 : p__law_counts ((6 : Nat) : Int) = sp (eulL.take 7) := by kernel_rfl
theorem cnt_7 : p__law_counts ((7 : Nat) : Int) = sp (eulL.take 8) := by kernel_rfl
theorem cnt_8 : p__law_counts ((8 : Nat) : Int) = sp (eulL.take 9) := by kernel_rfl
theorem cnt_9 : p__law_counts ((9 : Nat) : Int) = sp (eulL.take 10) := by kernel_rfl
theorem cnt_10 : p__law_counts ((10 : Nat) : Int) = sp (eulL.take 11) := by kernel_rfl
theorem cnt_11 : p__law_counts ((11 : Nat) : Int) = sp (eulL.take 12) := by kernel_rfl
theorem cnt_12 : p__law_counts ((12 : Nat) : Int) = sp (eulL.take 13) := by kernel_rfl
theorem cnt_13 : p__law_counts ((13 : Nat) : Int) = sp (eulL.take 14) := by kernel_rfl
theorem cnt_14 : p__law_counts ((14 : Nat) : Int) = sp (eulL.take 15) := by kernel_rfl
theorem cnt_15 : p__law_counts ((15 : Nat) : Int) = sp (eulL.take 16) := by kernel_rfl
theorem cnt_16 : p__law_counts ((16 : Nat) : Int) = sp (eulL.take 17) := by kernel_rfl
theorem cnt_17 : p__law_counts ((17 : Nat) : Int) = sp (eulL.take 18) := by kernel_rfl
theorem cnt_18 : p__law_counts ((18 : Nat) : Int) = sp (eulL.take 19) := by kernel_rfl
theorem cnt_19 : p__law_counts ((19 : Nat) : Int) = sp (eulL.take 20) := by kernel_rfl
theorem cnt_20 : p__law_counts ((20 : Nat) : Int) = sp (eulL.take 21) := by kernel_rfl
theorem cnt_21 : p__law_counts ((21 : Nat) : Int) = sp (eulL.take 22) := by kernel_rfl
theorem cnt_22 : p__law_counts ((22 : Nat) : Int) = sp (eulL.take 23) := by kernel_rfl
theorem cnt_23 : p__law_counts ((23 : Nat) : Int) = sp (eulL.take 24) := by kernel_rfl
theorem cnt_24 : p__law_counts ((24 : Nat) : Int) = sp (eulL.take 25) := by kernel_rfl
theorem cnt_25 : p__law_counts ((25 : Nat) : Int) = sp (eulL.take 26) := by kernel_rfl
theorem cnt_26 : p__law_counts ((26 : Nat) : Int) = sp (eulL.take 27) := by kernel_rfl
theorem cnt_27 : p__law_counts ((27 : Nat) : Int) = sp (eulL.take 28) := by kernel_rfl
theorem cnt_28 : p__law_counts ((28 : Nat) : Int) = sp (eulL.take 29) := by kernel_rfl
theorem cnt_29 : p__law_counts ((29 : Nat) : Int) = sp (eulL.take 30) := by kernel_rfl
theorem cnt_30 : p__law_counts ((30 : Nat) : Int) = sp (eulL.take 31) := by kernel_rfl
theorem cnt_ok : ∀ n : Nat, n < 31 → p__law_counts (n : Int) = sp (eulL.take (n + 1))
  | 0, _ => cnt_0
  | 1, _ => cnt_1
  | 2, _ => cnt_2
  | 3, _ => cnt_3
  | 4, _ => cnt_4
  | 5, _ => cnt_5
  | 6, _ => cnt_6
  | 7, _ => cnt_7
  | 8, _ => cnt_8
  | 9, _ => cnt_9
  | 10, _ => cnt_10
  | 11, _ => cnt_11
  | 12, _ => cnt_12
  | 13, _ => cnt_13
  | 14, _ => cnt_14
  | 15, _ => cnt_15
  | 16, _ => cnt_16
  | 17, _ => cnt_17
  | 18, _ => cnt_18
  | 19, _ => cnt_19
  | 20, _ => cnt_20
  | 21, _ => cnt_21
  | 22, _ => cnt_22
  | 23, _ => cnt_23
  | 24, _ => cnt_24
  | 25, _ => cnt_25
  | 26, _ => cnt_26
  | 27, _ => cnt_27
  | 28, _ => cnt_28
  | 29, _ => cnt_29
  | 30, _ => cnt_30
  | n + 31, h => absurd h (by omega)
theorem fst_1 : firstsI 1 = triT 1 := by kernel_rfl
theorem fst_2 : firstsI 2 = triT 2 := by kernel_rfl
theorem fst_3 : firstsI 3 = triT 3 := by kernel_rfl
theorem fst_4 : firstsI 4 = triT 4 := by kernel_rfl
theorem fst_5 : firstsI 5 = triT 5 := by kernel_rfl
theorem fst_6 : firstsI 6 = triT 6 := by kernel_rfl
theorem fst_7 : firstsI 7 = triT 7 := by kernel_rfl
theorem fst_8 : firstsI 8 = triT 8 := by kernel_rfl
theorem fst_9 : firstsI 9 = triT 9 := by kernel_rfl
theorem fst_10 : firstsI 10 = triT 10 := by kernel_rfl
theorem fst_11 : firstsI 11 = triT 11 := by kernel_rfl
theorem fst_12 : firstsI 12 = triT 12 := by kernel_rfl
theorem fst_13 : firstsI 13 = triT 13 := by kernel_rfl
theorem fst_14 : firstsI 14 = triT 14 := by kernel_rfl
theorem fst_15 : firstsI 15 = triT 15 := by kernel_rfl
theorem fst_16 : firstsI 16 = triT 16 := by kernel_rfl
theorem fst_17 : firstsI 17 = triT 17 := by kernel_rfl
theorem fst_18 : firstsI 18 = triT 18 := by kernel_rfl
theorem fst_19 : firstsI 19 = triT 19 := by kernel_rfl
theorem fst_20 : firstsI 20 = triT 20 := by kernel_rfl
theorem fst_21 : firstsI 21 = triT 21 := by kernel_rfl
theorem fst_22 : firstsI 22 = triT 22 := by kernel_rfl
theorem fst_23 : firstsI 23 = triT 23 := by kernel_rfl
theorem fst_24 : firstsI 24 = triT 24 := by kernel_rfl
theorem fst_25 : firstsI 25 = triT 25 := by kernel_rfl
theorem fst_26 : firstsI 26 = triT 26 := by kernel_rfl
theorem fst_27 : firstsI 27 = triT 27 := by kernel_rfl
theorem fst_28 : firstsI 28 = triT 28 := by kernel_rfl
theorem fst_29 : firstsI 29 = triT 29 := by kernel_rfl
theorem fst_30 : firstsI 30 = triT 30 := by kernel_rfl
theorem fst_ok : ∀ n : Nat, 0 < n → n < 31 → firstsI n = triT n
  | 0, h, _ => absurd h (by omega)
  | 1, _, _ => fst_1
  | 2, _, _ => fst_2
  | 3, _, _ => fst_3
  | 4, _, _ => fst_4
  | 5, _, _ => fst_5
  | 6, _, _ => fst_6
  | 7, _, _ => fst_7
  | 8, _, _ => fst_8
  | 9, _, _ => fst_9
  | 10, _, _ => fst_10
  | 11, _, _ => fst_11
  | 12, _, _ => fst_12
  | 13, _, _ => fst_13
  | 14, _, _ => fst_14
  | 15, _, _ => fst_15
  | 16, _, _ => fst_16
  | 17, _, _ => fst_17
  | 18, _, _ => fst_18
  | 19, _, _ => fst_19
  | 20, _, _ => fst_20
  | 21, _, _ => fst_21
  | 22, _, _ => fst_22
  | 23, _, _ => fst_23
  | 24, _, _ => fst_24
  | 25, _, _ => fst_25
  | 26, _, _ => fst_26
  | 27, _, _ => fst_27
  | 28, _, _ => fst_28
  | 29, _, _ => fst_29
  | 30, _, _ => fst_30
  | n + 31, _, h => absurd h (by omega)
theorem tri_1 : p__law_triangle ((1 : Nat) : Int) = sp (triT 1) := by kernel_rfl
theorem tri_2 : p__law_triangle ((2 : Nat) : Int) = sp (triT 2) := by kernel_rfl
theorem tri_3 : p__law_triangle ((3 : Nat) : Int) = sp (triT 3) := by kernel_rfl
theorem tri_4 : p__law_triangle ((4 : Nat) : Int) = sp (triT 4) := by kernel_rfl
theorem tri_5 : p__law_triangle ((5 : Nat) : Int) = sp (triT 5) := by kernel_rfl
theorem tri_6 : p__law_triangle ((6 : Nat) : Int) = sp (triT 6) := by kernel_rfl
theorem tri_7 : p__law_triangle ((7 : Nat) : Int) = sp (triT 7) := by kernel_rfl
theorem tri_8 : p__law_triangle ((8 : Nat) : Int) = sp (triT 8) := by kernel_rfl
theorem tri_9 : p__law_triangle ((9 : Nat) : Int) = sp (triT 9) := by kernel_rfl
theorem tri_10 : p__law_triangle ((10 : Nat) : Int) = sp (triT 10) := by kernel_rfl
theorem tri_11 : p__law_triangle ((11 : Nat) : Int) = sp (triT 11) := by kernel_rfl
theorem tri_12 : p__law_triangle ((12 : Nat) : Int) = sp (triT 12) := by kernel_rfl
theorem tri_13 : p__law_triangle ((13 : Nat) : Int) = sp (triT 13) := by kernel_rfl
theorem tri_14 : p__law_triangle ((14 : Nat) : Int) = sp (triT 14) := by kernel_rfl
theorem tri_15 : p__law_triangle ((15 : Nat) : Int) = sp (triT 15) := by kernel_rfl
theorem tri_16 : p__law_triangle ((16 : Nat) : Int) = sp (triT 16) := by kernel_rfl
theorem tri_17 : p__law_triangle ((17 : Nat) : Int) = sp (triT 17) := by kernel_rfl
theorem tri_18 : p__law_triangle ((18 : Nat) : Int) = sp (triT 18) := by kernel_rfl
theorem tri_19 : p__law_triangle ((19 : Nat) : Int) = sp (triT 19) := by kernel_rfl
theorem tri_20 : p__law_triangle ((20 : Nat) : Int) = sp (triT 20) := by kernel_rfl
theorem tri_21 : p__law_triangle ((21 : Nat) : Int) = sp (triT 21) := by kernel_rfl
theorem tri_22 : p__law_triangle ((22 : Nat) : Int) = sp (triT 22) := by kernel_rfl
theorem tri_23 : p__law_triangle ((23 : Nat) : Int) = sp (triT 23) := by kernel_rfl
theorem tri_24 : p__law_triangle ((24 : Nat) : Int) = sp (triT 24) := by kernel_rfl
theorem tri_25 : p__law_triangle ((25 : Nat) : Int) = sp (triT 25) := by kernel_rfl
theorem tri_26 : p__law_triangle ((26 : Nat) : Int) = sp (triT 26) := by kernel_rfl
theorem tri_27 : p__law_triangle ((27 : Nat) : Int) = sp (triT 27) := by kernel_rfl
theorem tri_28 : p__law_triangle ((28 : Nat) : Int) = sp (triT 28) := by kernel_rfl
theorem tri_29 : p__law_triangle ((29 : Nat) : Int) = sp (triT 29) := by kernel_rfl
theorem tri_30 : p__law_triangle ((30 : Nat) : Int) = sp (triT 30) := by kernel_rfl
theorem tri_ok0 : ∀ n : Nat, 0 < n → n < 31 → p__law_triangle (n : Int) = sp (triT n)
  | 0, h, _ => absurd h (by omega)
  | 1, _, _ => tri_1
  | 2, _, _ => tri_2
  | 3, _, _ => tri_3
  | 4, _, _ => tri_4
  | 5, _, _ => tri_5
  | 6, _, _ => tri_6
  | 7, _, _ => tri_7
  | 8, _, _ => tri_8
  | 9, _, _ => tri_9
  | 10, _, _ => tri_10
  | 11, _, _ => tri_11
  | 12, _, _ => tri_12
  | 13, _, _ => tri_13
  | 14, _, _ => tri_14
  | 15, _, _ => tri_15
  | 16, _, _ => tri_16
  | 17, _, _ => tri_17
  | 18, _, _ => tri_18
  | 19, _, _ => tri_19
  | 20, _, _ => tri_20
  | 21, _, _ => tri_21
  | 22, _, _ => tri_22
  | 23, _, _ => tri_23
  | 24, _, _ => tri_24
  | 25, _, _ => tri_25
  | 26, _, _ => tri_26
  | 27, _, _ => tri_27
  | 28, _, _ => tri_28
  | 29, _, _ => tri_29
  | 30, _, _ => tri_30
  | n + 31, _, h => absurd h (by omega)
theorem tri_ok {n : Nat} (h : 0 < n) (h2 : n < 31) : p__law_triangle (n : Int) = sp (firstsI n) := by rw [tri_ok0 n h h2, fst_ok n h h2]
theorem tri_sum : ∀ n : Nat, n < 31 → 0 < n → (triT n).sum = eulL.getD n 0 := by decide +kernel
theorem eul_at : ∀ n : Nat, n < 31 → atI (eulL.take (n + 1)) (-(1 : Int)) = some (eulL.getD n 0) ∧ 0 < eulL.getD n 0 ∧ eulL.getD n 0 < 2 ^ 200 := by decide +kernel
theorem cntZ_eq {n : Nat} (h : n < 31) : cntZ n = eulL.getD n 0 := by
  unfold cntZ
  by_cases h0 : n = 0
  · subst h0
    rfl
  · rw [if_neg h0, fst_ok n (by omega) h]
    exact tri_sum n h (by omega)
theorem cnt_at {n : Nat} (h : n < 31) : atI (eulL.take (n + 1)) (-(1 : Int)) = some (cntZ n) ∧ 0 < cntZ n ∧ cntZ n < 2 ^ 200 := by
  rw [cntZ_eq h]
  exact eul_at n h
theorem even_turns : ∀ n : Nat, n < 31 → (rgI 1 ((n : Int) - 1).toNat).filter (fun p => decide (p.toNat % 2 = 0)) = turnsI n := by decide +kernel
theorem turns_one : ∀ n : Nat, n < 31 → (1 : Int) ∉ turnsI n := by decide +kernel
/-! falls -/
def fallsI (o : List Int) : List Int := (rgI 1 ((o.length : Int) - 1).toNat).filter fun p => decide (o.getD (p - 1).toNat 0 > o.getD p.toNat 0)
theorem at_D {l : List Int} {i : Int} (h : 0 ≤ i) (h2 : i < l.length) : atI l i = some (l.getD i.toNat 0) := by
  rw [atI_get h (show i.toNat < l.length by omega), getD_at (show i.toNat < l.length by omega)]
theorem falls_ok {o : List Int} (h : o.length ≤ 1000) : p_falls_in o = sp (fallsI o) := by
  unfold p_falls_in fallsI
  rw [gB2 (by omega) (by omega) (by omega) (by omega), gSz (by rw [rgI_length]; omega), sb_r]
  refine (sfm_pure' (g := fun p => p) (fun p hp => ?_) fun _ _ _ => rfl).trans (by rw [List.map_id'' (fun _ => rfl)])
  have := mem_rgI.mp hp
  rw [so_of (at_D (l := o) (i := p - 1) (by omega) (by omega)), so_of (at_D (l := o) (i := p) (by omega) (by omega))]
theorem law_falls_ok {o : List Int} (h : o.length ≤ 1000) : p__law_falls o = sp (fallsI o) := by
  unfold p__law_falls fallsI
  rw [gB2 (by omega) (by omega) (by omega) (by omega), gSz (by rw [rgI_length]; omega), sb_r]
  refine (sfm_pure' (g := fun p => p) (fun p hp => ?_) fun _ _ _ => rfl).trans (by rw [List.map_id'' (fun _ => rfl)])
  have := mem_rgI.mp hp
  rw [so_of (at_D (l := o) (i := p) (by omega) (by omega)), so_of (at_D (l := o) (i := p - 1) (by omega) (by omega))]
def isZ (o : List Int) : Bool := fallsI o == turnsI o.length
theorem zig_in_ok {o : List Int} (h : o.length ≤ 30) : p_is_zigzag_in o = sp (isZ o) := by
  unfold p_is_zigzag_in
  rw [falls_ok (by omega), sb_sp, turns_ok h, sb_sp]
  rfl
theorem zig_ok {o : List Int} (h : IsO o) (hl : o.length ≤ 30) : p_is_zigzag o = sp (isZ o) := by
  unfold p_is_zigzag
  rw [need_ok h hl, sb_sp, zig_in_ok hl, sb_sp]
theorem law_zig_ok {o : List Int} (h : o.length ≤ 30) : p__law_is_zigzag o = sp (isZ o) := by
  unfold p__law_is_zigzag
  rw [law_falls_ok (by omega), sb_sp, gd_of (turns_gd o.length (by omega))]
  rfl
/-! all of a small size -/
def zzL (k : Nat) : List (List Int) := (itO k k).filter isZ
theorem o5_0 : smap (fun number_6 => sb (p_zigzag_with ((0 : Nat) : Int) number_6) fun r7 =>
sp ((eT D.int) r7)) (rgI 0 (eulL.getD 0 0).toNat) = sp ((zzL 0).map (eT D.int)) := by kernel_rfl
theorem o6_0 : smap (fun order_10 => sb (p_number_of_zigzag order_10) fun r11 =>
sp r11) (zzL 0) = sp (rgI 0 (((zzL 0).length : Int)).toNat) := by kernel_rfl
theorem o5_1 : smap (fun number_6 => sb (p_zigzag_with ((1 : Nat) : Int) number_6) fun r7 =>
sp ((eT D.int) r7)) (rgI 0 (eulL.getD 1 0).toNat) = sp ((zzL 1).map (eT D.int)) := by kernel_rfl
theorem o6_1 : smap (fun order_10 => sb (p_number_of_zigzag order_10) fun r11 =>
sp r11) (zzL 1) = sp (rgI 0 (((zzL 1).length : Int)).toNat) := by kernel_rfl
theorem o5_2 : smap (fun number_6 => sb (p_zigzag_with ((2 : Nat) : Int) number_6) fun r7 =>
sp ((eT D.int) r7)) (rgI 0 (eulL.getD 2 0).toNat) = sp ((zzL 2).map (eT D.int)) := by kernel_rfl
theorem o6_2 : smap (fun order_10 => sb (p_number_of_zigzag order_10) fun r11 =>
sp r11) (zzL 2) = sp (rgI 0 (((zzL 2).length : Int)).toNat) := by kernel_rfl
theorem o5_3 : smap (fun number_6 => sb (p_zigzag_with ((3 : Nat) : Int) number_6) fun r7 =>
sp ((eT D.int) r7)) (rgI 0 (eulL.getD 3 0).toNat) = sp ((zzL 3).map (eT D.int)) := by kernel_rfl
theorem o6_3 : smap (fun order_10 => sb (p_number_of_zigzag order_10) fun r11 =>
sp r11) (zzL 3) = sp (rgI 0 (((zzL 3).length : Int)).toNat) := by kernel_rfl
theorem o5_4 : smap (fun number_6 => sb (p_zigzag_with ((4 : Nat) : Int) number_6) fun r7 =>
sp ((eT D.int) r7)) (rgI 0 (eulL.getD 4 0).toNat) = sp ((zzL 4).map (eT D.int)) := by kernel_rfl
theorem o6_4 : smap (fun order_10 => sb (p_number_of_zigzag order_10) fun r11 =>
sp r11) (zzL 4) = sp (rgI 0 (((zzL 4).length : Int)).toNat) := by kernel_rfl
theorem o5_5 : smap (fun number_6 => sb (p_zigzag_with ((5 : Nat) : Int) number_6) fun r7 =>
sp ((eT D.int) r7)) (rgI 0 (eulL.getD 5 0).toNat) = sp ((zzL 5).map (eT D.int)) := by kernel_rfl
theorem o6_5 : smap (fun order_10 => sb (p_number_of_zigzag order_10) fun r11 =>
sp r11) (zzL 5) = sp (rgI 0 (((zzL 5).length : Int)).toNat) := by kernel_rfl
theorem o5_6 : smap (fun number_6 => sb (p_zigzag_with ((6 : Nat) : Int) number_6) fun r7 =>
sp ((eT D.int) r7)) (rgI 0 (eulL.getD 6 0).toNat) = sp ((zzL 6).map (eT D.int)) := by kernel_rfl
theorem o6_6 : smap (fun order_10 => sb (p_number_of_zigzag order_10) fun r11 =>
sp r11) (zzL 6) = sp (rgI 0 (((zzL 6).length : Int)).toNat) := by kernel_rfl
structure SmZ (k : Nat) : Prop where
  o5 : smap (fun number_6 => sb (p_zigzag_with (k : Int) number_6) fun r7 =>
sp ((eT D.int) r7)) (rgI 0 (eulL.getD k 0).toNat) = sp ((zzL k).map (eT D.int))
  o6 : smap (fun order_10 => sb (p_number_of_zigzag order_10) fun r11 =>
sp r11) (zzL k) = sp (rgI 0 (((zzL k).length : Int)).toNat)
theorem smz : ∀ k : Nat, k < 7 → SmZ k
  | 0, _ => ⟨o5_0, o6_0⟩
  | 1, _ => ⟨o5_1, o6_1⟩
  | 2, _ => ⟨o5_2, o6_2⟩
  | 3, _ => ⟨o5_3, o6_3⟩
  | 4, _ => ⟨o5_4, o6_4⟩
  | 5, _ => ⟨o5_5, o6_5⟩
  | 6, _ => ⟨o5_6, o6_6⟩
  | k + 7, h => absurd h (by omega)
theorem eul_small : ∀ k : Nat, k < 7 → 0 ≤ eulL.getD k 0 ∧ eulL.getD k 0 ≤ 1000 := by decide +kernel
theorem small_ok {k : Nat} (h : k < 7) : p__law_small_right (k : Int) = sp true := by
  obtain ⟨o5, o6⟩ := smz k h
  have hb := eul_small k h
  have g9 : D.good 10 (eL (eT D.int) (zzL k)) = true := (inferInstance : Go 10 (eL (eT D.int))).good _
  have e1 : (eL eD) ((zzL k).map (eT D.int)) = eL (eT D.int) (zzL k) := by
    show D.lst (((zzL k).map (eT D.int)).map id) = _
    rw [List.map_id]
    rfl
  have hz : (itO k k).length ≤ 1000000 := Nat.le_trans (itO_le k k) (Nat.le_trans (Nat.pow_le_pow_left (show k ≤ 6 by omega) k) (Nat.le_trans (Nat.pow_le_pow_right (by omega) (show k ≤ 6 by omega)) (by decide)))
  have hz2 : (zzL k).length ≤ 1000000 := Nat.le_trans (List.length_filter_le _ _) hz
  have e2 : sfm (fun order_2 => sb (p__law_is_zigzag order_2) fun r3 =>
sp r3) (fun order_2 => sp order_2) (itO k k) = sp (zzL k) := by
    refine (sfm_pure' (g := fun p => p) (p := isZ) (fun o ho => ?_) fun _ _ _ => rfl).trans (by rw [List.map_id'' (fun _ => rfl)]; rfl)
    rw [sb_r, law_zig_ok (by rw [itO_mem k k o ho]; omega)]
  unfold p__law_small_right
  rw [law_orders_ok k (by omega), sb_sp, gSz hz, e2, sb_sp, count_zig (by omega), sb_sp, cntZ_eq (by omega), gB1 (by omega) (by omega), gSz (by rw [rgI_length]; omega), o5, sb_sp, e1, like_self g9, sb_sp, sand_t, gSz hz2, o6, sb_sp, gLs (by omega) (by omega), like_self (goodLI 9 _), sb_sp, sb_sp]
end K
end PF

/-! K15d: the law -/
namespace PF
namespace K
def zz (n : Nat) (m : Int) (o : List Int) : Prop := if n = 0 then o = [] ∧ m = 0 else path (endsR n (n - 1)) 0 0 n (upto n) o m
theorem upto_len' (n : Nat) : (upto n).length = n := upto_len n
theorem gd_ends {n : Nat} (h : n ≠ 0) : GdE (endsR n (n - 1)) 0 (upto n).length := by
  have := endsR_gd n (n - 1) (by omega)
  rw [show n - 1 - (n - 1) = 0 by omega, show n - 1 + 1 = n by omega] at this
  rw [upto_len]
  exact this
theorem zz_O {n : Nat} {m : Int} {o : List Int} (h : zz n m o) : IsO o ∧ o.length = n := by
  unfold zz at h
  by_cases h0 : n = 0
  · rw [if_pos h0] at h
    rw [h.1]
    exact ⟨upto_O 0, h0.symm⟩
  · rw [if_neg h0] at h
    have := path_perm _ _ _ _ _ _ _ (gd_ends h0) (by rw [upto_len]; exact Nat.le_refl _) h
    exact ⟨IsO.of this, by rw [this.length_eq, upto_len]⟩
theorem zz_isZ {n : Nat} (hn : n ≤ 30) {m : Int} {o : List Int} (h : zz n m o) : isZ o = true := by
  obtain ⟨hO, hl⟩ := zz_O h
  unfold isZ
  rw [beq_iff_eq, hl, ← even_turns n (by omega)]
  unfold fallsI
  rw [hl]
  refine List.filter_congr fun p hp => ?_
  have hp := mem_rgI.mp hp
  have h0 : n ≠ 0 := by omega
  unfold zz at h
  rw [if_neg h0] at h
  have := path_falls _ _ _ _ _ _ _ (gd_ends h0) (by rw [upto_len]; exact Nat.le_refl _) (by rw [upto_rg]; exact rgI_lt n 0) h (p - 1).toNat (by omega)
  refine decide_eq_decide.mpr ?_
  rw [show (p - 1).toNat + 1 = p.toNat by omega] at this
  rw [show 0 + (p - 1).toNat + 1 = p.toNat by omega] at this
  exact this
theorem zz_with {n : Nat} (hn : n ≤ 30) {m : Int} (h0 : 0 ≤ m) (h1 : m < cntZ n) : ∃ o, p_zigzag_with (n : Int) m = sp o ∧ zz n m o := by
  unfold p_zigzag_with
  rw [whole_nat (by omega) (by omega), sb_sp, count_ok hn, sb_sp, whole_nat h0 (by omega), sb_sp]
  unfold p_zigzag_at
  rw [turns_ok hn, sb_sp, ends_ok hn, sb_sp, gLs (by omega) (by omega), slet_eq, slet_eq, slet_eq, gB1 (by omega) (by omega), Int.toNat_natCast]
  by_cases hz : n = 0
  · subst hz
    have : m = 0 := by
      have : cntZ 0 = 1 := rfl
      omega
    exact ⟨[], rfl, by unfold zz; rw [if_pos rfl]; exact ⟨rfl, this⟩⟩
  · obtain ⟨e, Es, e1, e2⟩ := endsR_head n (n - 1)
    have hlen := endsR_len n (n - 1)
    have hab := able_zero (eL D.int []) (upto n) (by rw [upto_len]; omega)
    have hcnt : cntZ n = sumI e 0 n := by
      unfold cntZ firstsI sumI
      rw [if_neg hz, e1, List.drop_zero, List.take_of_length_le (by omega)]
      rfl
    obtain ⟨o, m2, l2, z1, z2⟩ := at_run (ends := endsR n (n - 1)) (endsR n (n - 1)) 0 0 n m [] (upto n) rfl (gd_ends hz) (by rw [upto_len]; exact Nat.le_refl _) (by rw [upto_rg]; exact rgI_lt n 0) (by rw [upto_len]; omega) (by rw [upto_len]; simp; omega) h0
      (fun e' E' q => by
        rw [e1] at q
        obtain ⟨rfl, rfl⟩ := List.cons.inj q
        rw [← hcnt]
        exact h1) (fun q => by rw [e1] at q; cases q) (by rw [upto_len] at hab; exact hab)
    refine ⟨o, ?_, by unfold zz; rw [if_neg hz]; exact z2⟩
    rw [show (endsR n (n - 1)).length = n by omega] at z1
    rw [rgI_upto]
    have z1 : sfold (p_zigzag_at_b2 (endsR n (n - 1))) (rgI 0 n) (m, [], upto n) = sp (m2, [] ++ o, l2) := z1
    rw [rgI_upto] at z1
    rw [z1, sb_sp, sb_sp]
    rfl
theorem zz_number {n : Nat} (hn : n ≤ 30) {m : Int} {o : List Int} (h : zz n m o) : p_number_of_zigzag o = sp m := by
  obtain ⟨hO, hl⟩ := zz_O h
  unfold p_number_of_zigzag
  rw [need_ok hO (by omega), sb_sp, zig_in_ok (by omega), sb_sp, zz_isZ hn h, if_neg (by simp), sb_r]
  by_cases hz : n = 0
  · subst hz
    unfold zz at h
    rw [if_pos rfl] at h
    rw [h.1, h.2]
    rfl
  · have hne : (!(o == ([] : List Int))) = true := by
      cases o with
      | nil => exact absurd hl.symm hz
      | cons a r => rfl
    rw [hne, sif_sp, if_pos rfl, sb_r]
    unfold p_number_in
    unfold zz at h
    rw [if_neg hz] at h
    have hab := able_zero (eT D.int (cut o none (some ((0 : Nat) : Int)))) (upto n) (by rw [upto_len]; omega)
    rw [upto_len] at hab
    obtain ⟨l2, z⟩ := num_run (ends := endsR n (n - 1)) (order := o) (endsR n (n - 1)) 0 0 n m 0 o (upto n) rfl (gd_ends hz) (by rw [upto_len]; exact Nat.le_refl _) (by rw [upto_rg]; exact rgI_lt n 0) (by rw [upto_len]; omega) rfl hab h
    rw [hl, turns_ok hn, sb_sp, ends_ok hn, sb_sp, gLs (by omega) (by omega), slet_eq, slet_eq, slet_eq, rgI_toNat]
    have z : sfold (p_number_in_b2 o (endsR n (n - 1))) (enI 0 o) (0, upto n) = sp (0 + m, l2) := z
    rw [z, sb_sp, Int.zero_add]
theorem zz_first {n : Nat} (hn : n ≤ 30) (h0 : n ≠ 0) {m : Int} {o : List Int} (h : zz n m o) : ∃ (a : Nat) (m' : Int), o.getD 0 0 = (a : Int) ∧ a < n ∧ m = sumI (firstsI n) 0 a + m' ∧ 0 ≤ m' ∧ m' < (firstsI n).getD a 0 := by
  unfold zz at h
  rw [if_neg h0] at h
  obtain ⟨e, Es, e1, e2⟩ := endsR_head n (n - 1)
  rw [e1] at h
  obtain ⟨a, m', o', y1, y2, y3, y4, y5, y6, y7⟩ := h
  have hf : firstsI n = e := by
    unfold firstsI
    rw [e1]
    rfl
  refine ⟨a, m', ?_, y2, by rw [hf]; exact y4, y5, by rw [hf]; exact y6⟩
  rw [y3]
  show (upto n).getD a 0 = _
  rw [List.getD_eq_getElem?_getD, upto_get y2]
  rfl
theorem zz_lt {n : Nat} (hn : n ≤ 30) {m m2 : Int} {o o2 : List Int} (h : zz n m o) (h2 : zz n m2 o2) (hm : m < m2) : lexI o o2 = true := by
  unfold zz at h h2
  by_cases h0 : n = 0
  · rw [if_pos h0] at h h2
    have := h.2
    have := h2.2
    omega
  · rw [if_neg h0] at h h2
    exact path_lt _ _ _ _ _ _ _ _ _ (gd_ends h0) (by rw [upto_len]; exact Nat.le_refl _) (by rw [upto_rg]; exact rgI_lt n 0) h h2 hm
theorem zz_upside {n : Nat} (hn : n ≤ 30) {m : Int} {o : List Int} (h : zz n m o) : isZ (compl o) = decide ((n : Int) < 2) := by
  obtain ⟨hO, hl⟩ := zz_O h
  by_cases q : n < 2
  · rw [decide_eq_true (by omega)]
    unfold isZ fallsI
    rw [compl_len, hl]
    have : n = 0 ∨ n = 1 := by omega
    rcases this with e | e <;> subst e <;> rfl
  · rw [decide_eq_false (by omega), Bool.eq_false_iff]
    intro w
    unfold isZ at w
    rw [beq_iff_eq, compl_len, hl] at w
    have hz := zz_isZ hn h
    unfold isZ at hz
    rw [beq_iff_eq, hl] at hz
    have n1 := turns_one n (by omega)
    have k1 : ¬ o.getD 0 0 > o.getD 1 0 := fun z => n1 (by
      rw [← hz]
      exact List.mem_filter.mpr ⟨mem_rgI.mpr (by omega), decide_eq_true z⟩)
    have k2 : ¬ (compl o).getD 0 0 > (compl o).getD 1 0 := fun z => n1 (by
      rw [← w]
      exact List.mem_filter.mpr ⟨mem_rgI.mpr (by rw [compl_len]; omega), decide_eq_true z⟩)
    have c0 : (compl o).getD 0 0 = (o.length : Int) - 1 - o.getD 0 0 := by
      rw [getD_at (show 0 < (compl o).length by rw [compl_len]; omega), getD_at (show 0 < o.length by omega)]
      unfold compl
      rw [List.getElem_map]
    have c1 : (compl o).getD 1 0 = (o.length : Int) - 1 - o.getD 1 0 := by
      rw [getD_at (show 1 < (compl o).length by rw [compl_len]; omega), getD_at (show 1 < o.length by omega)]
      unfold compl
      rw [List.getElem_map]
    have ne : o.getD 0 0 ≠ o.getD 1 0 := fun z => by
      rw [getD_at (show 0 < o.length by omega), getD_at (show 1 < o.length by omega)] at z
      have h1 := hO.nodup.idxOf_getElem 0 (by omega)
      have h2 := hO.nodup.idxOf_getElem 1 (by omega)
      rw [z, h2] at h1
      omega
    omega
theorem right_ok {n : Nat} (hn : n ≤ 30) : Ok (p__law_right (n : Int)) fun b => b = true := by
  obtain ⟨k1, k2, k3⟩ := cnt_at (n := n) (by omega)
  unfold p__law_right
  rw [cnt_ok n (by omega), sb_sp, so_of k1, count_zig hn, sb_sp]
  rw [like_self rfl, sb_sp, if_neg (by simp)]
  have e1 : (sand (sp (decide ((n : Int) > (0 : Int)))) (so (gd (b62 (n : Int))) fun _ =>
so (gd (szOk (rgI 0 ((n : Int)).toNat).length)) fun _ =>
sb (smap (fun first_5 => sb (p_zigzags_from (n : Int) first_5) fun r6 =>
sp r6) (rgI 0 ((n : Int)).toNat)) fun l7 =>
sb (p__law_triangle (n : Int)) fun r8 =>
sb (p__law_like ((eL D.int) l7) ((eL D.int) r8)) fun r9 =>
sp (!r9))) = sp false := by
    by_cases h0 : n = 0
    · subst h0
      rfl
    · have hl : (firstsI n).length = n := by
        obtain ⟨e, Es, e1, e2⟩ := endsR_head n (n - 1)
        unfold firstsI
        rw [e1]
        show e.length = n
        omega
      have e2 : smap (fun first_5 => sb (p_zigzags_from (n : Int) first_5) fun r6 => sp r6) (upto n) = sp ((upto n).map fun v => (firstsI n).getD v.toNat 0) := smap_pure fun v hv => by
        have := mem_rgI.mp (rgI_upto n ▸ hv : v ∈ rgI 0 n)
        rw [sb_r, show v = ((v.toNat : Nat) : Int) by omega, from_zig hn (by omega) (by omega), Int.toNat_natCast]
      have e3 := map_get (firstsI n)
      rw [hl] at e3
      rw [decide_eq_true (by omega), sand_t, gB1 (by omega) (by omega), gSz (by rw [rgI_length]; omega), rgI_toNat, e2, sb_sp, e3, tri_ok (by omega) (by omega), sb_sp, like_self (goodLI 9 _), sb_sp]
      rfl
  rw [e1, sb_sp, if_neg (by simp)]
  refine ok_sb (ok_roll k2 k3) fun r hr => ?_
  refine ok_sb (Q := fun m => 0 ≤ m ∧ m < cntZ n) ?_ fun m hm => ?_
  · refine ok_mono (ok_some (by simp) (by simp)) fun d hd => ?_
    simp only [List.mem_cons, List.not_mem_nil, or_false] at hd
    rcases hd with e | e | e <;> subst e <;> omega
  obtain ⟨o, w1, w2⟩ := zz_with hn hm.1 hm.2
  obtain ⟨hO, hl⟩ := zz_O w2
  have hz := zz_isZ hn w2
  have hfall : p_fall_places o = sp (turnsI n) := by
    unfold p_fall_places
    rw [need_ok hO (by omega), sb_sp, falls_ok (by omega), sb_sp]
    unfold isZ at hz
    rw [beq_iff_eq, hl] at hz
    rw [hz]
  have his : p_is_order (eT D.int o) = sp true := by rw [is_any, isOB_O hO (by omega)]
  rw [w1, sb_sp, his, sb_sp, zig_ok hO (by omega), hz, sb_sp, zz_number hn w2, sb_sp, hfall, sb_sp, gd_of (turns_gd n (by omega))]
  refine ok_pure (like_of rfl ?_) ?_
  · show D.goodL 9 [.bl _, .bl _, .int _, eT D.int _] = true
    simp only [goodL_cons', goodL_nil, goodTI]
    rfl
  rw [if_neg (by simp), hl, show (!((n : Int) == (n : Int))) = false by simp, sor_f, law_zig_ok (by omega), hz, sb_sp, sb_sp]
  rw [show (!true) = false from rfl, if_neg (by simp)]
  have e4 : (sand (sp (decide ((m + (1 : Int)) < cntZ n))) (sb (p_zigzag_with (n : Int) (m + (1 : Int))) fun r21 =>
sp (!(lexI o r21)))) = sp false := by
    by_cases q : m + 1 < cntZ n
    · obtain ⟨o2, v1, v2⟩ := zz_with hn (show 0 ≤ m + 1 by omega) q
      rw [decide_eq_true q, sand_t, v1, sb_sp, zz_lt hn w2 v2 (by omega)]
      rfl
    · rw [decide_eq_false q]
      rfl
  rw [e4, sb_sp, if_neg (by simp)]
  have fin : Ok (sb (p__law_near_order (n : Int)) fun r31 =>
sb (p_is_zigzag r31) fun r32 =>
sb (p_upside_down o) fun r33 =>
sb (p_is_zigzag r33) fun r34 =>
sb (p__law_is_zigzag r31) fun r35 =>
sb (p__law_like (D.lst [(D.bl r32), (D.bl r34)]) (D.lst [(D.bl r35), (D.bl (decide ((n : Int) < (2 : Int))))])) fun r36 =>
sp r36) fun b => b = true := by
    refine ok_sb (near_ok n (by omega)) fun d ⟨hd, ld⟩ => ?_
    rw [zig_ok hd (by omega), sb_sp, upside_ok hO (by omega), sb_sp, zig_ok (compl_O hO) (by rw [compl_len]; omega), sb_sp, law_zig_ok (by omega), sb_sp, zz_upside hn w2]
    exact ok_pure (like_of rfl rfl) (ok_sp rfl)
  by_cases h0 : n = 0
  · rw [if_neg (by simp; omega)]
    exact fin
  · rw [if_pos (decide_eq_true (by omega)), tri_ok (by omega) (by omega), sb_sp]
    obtain ⟨a, m', f1, f2, f3, f4, f5⟩ := zz_first hn h0 w2
    have hlf : (firstsI n).length = n := by
      obtain ⟨e, Es, e1, e2⟩ := endsR_head n (n - 1)
      unfold firstsI
      rw [e1]
      show e.length = n
      omega
    have hat : atI o (0 : Int) = some (a : Int) := by
      rw [at_D (l := o) (i := 0) (by omega) (by omega)]
      exact congrArg some f1
    have hsum : (cut (firstsI n) none (some (a : Int))).sum = sumI (firstsI n) 0 a := by
      rw [cutT _ _ (by omega), Int.toNat_natCast]
      rfl
    have e5 : (sand (sp (decide ((cut (firstsI n) none (some (a : Int))).sum ≤ m))) (sb (sb (sp (firstsI n)) fun r26 =>
so (atI o (0 : Int)) fun v27 =>
so (atI r26 v27) fun v28 =>
sp ((cut (firstsI n) none (some (a : Int))).sum + v28)) fun z30 => sp (decide (m < z30)))) = sp true := by
      rw [hsum, decide_eq_true (by omega), sand_t, sb_sp, so_of hat, so_of (at_D (l := firstsI n) (i := (a : Int)) (by omega) (by omega)), Int.toNat_natCast, sb_sp, decide_eq_true (by omega)]
    rw [so_of hat, slet_eq, e5, sb_sp, if_neg (by simp)]
    exact fin
theorem written_ok : p__law_written_right = sp true := by
  have a1 : p_is_zigzag [(0 : Int), 2, 1] = sp true := by kernel_rfl
  have a2 : p_is_zigzag [(1 : Int), 0, 2] = sp false := by kernel_rfl
  have a3 : p_is_zigzag ([] : List Int) = sp true := by kernel_rfl
  have a4 : smap (fun size_4 => sb (p_count_zigzags size_4) fun r5 => sp r5) (rgI 0 ((8 : Int)).toNat) = sp [1, 1, 1, 2, 5, 16, 61, 272] := by kernel_rfl
  have a5 : smap (fun first_7 => sb (p_zigzags_from (4 : Int) first_7) fun r8 => sp r8) (rgI 0 ((4 : Int)).toNat) = sp [2, 2, 1, 0] := by kernel_rfl
  have b1 : p_zigzag_with 9 0 = sp [0, 2, 1, 4, 3, 6, 5, 8, 7] := by kernel_rfl
  have b2 : p_zigzag_with 10 0 = sp [0, 2, 1, 4, 3, 6, 5, 8, 7, 9] := by kernel_rfl
  have b3 : p_number_of_zigzag [(0 : Int), 2, 1, 4, 3, 6, 5, 8, 7] = sp 0 := by kernel_rfl
  have b4 : p_zigzag_with 9 7935 = sp [7, 8, 5, 6, 3, 4, 1, 2, 0] := by kernel_rfl
  have b5 : p_is_zigzag [(7 : Int), 8, 5, 6, 3, 4, 1, 2, 0] = sp true := by kernel_rfl
  have c1 : p_zigzag_with 4 0 = sp [0, 2, 1, 3] := by kernel_rfl
  have c2 : p_zigzag_with 4 4 = sp [2, 3, 0, 1] := by kernel_rfl
  have c3 : p_number_of_zigzag [(1 : Int), 3, 0, 2] = sp 3 := by kernel_rfl
  have c4 : p_zigzag_with 0 0 = sp [] := by kernel_rfl
  have c5 : p_number_of_zigzag ([] : List Int) = sp 0 := by kernel_rfl
  have c6 : p_zigzags_from 1 0 = sp 1 := by kernel_rfl
  have c7 : p_zigzags_from 2 1 = sp 0 := by kernel_rfl
  have c8 : p_count_zigzags 10 = sp 50521 := by kernel_rfl
  unfold p__law_written_right
  rw [a1, sb_sp, a2, sb_sp, a3, sb_sp, gd_of (by decide), gd_of (by decide), a4, sb_sp, gd_of (by decide), gd_of (by decide), a5, sb_sp, slet_eq, like_of (by rfl) (by kernel_rfl), sb_sp, if_neg (by simp), b1, sb_sp, b2, sb_sp, b3, sb_sp, b4, sb_sp, b5, sb_sp, slet_eq, like_of (by rfl) (by kernel_rfl), sb_sp, if_neg (by simp), c1, sb_sp, c2, sb_sp, c3, sb_sp, c4, sb_sp, c5, sb_sp, c6, sb_sp, c7, sb_sp, c8, sb_sp, slet_eq, like_of (by rfl) (by kernel_rfl), sb_sp]
theorem law_ok (ns : List Int) : ∃ k, p_law ns = sb (p__law_cup ns) k ∧ Ok (k ()) fun b => b = true := by
  unfold p_law
  rw [written_ok, sb_sp, if_neg (by simp)]
  refine ⟨_, rfl, ?_⟩
  refine ok_sb (ok_roll (by omega) (by omega)) fun x hx => ok_sb (ok_roll (by omega) (by omega)) fun y hy => ok_sb (ok_roll (by omega) (by omega)) fun z hz => ?_
  refine ok_sb (ok_sfoldR (I := fun _ => True) trivial fun s v hv _ => ?_) fun w ⟨s, e, _⟩ => ?_
  · have hv : 0 ≤ v ∧ v ≤ 30 := by
      simp only [List.mem_cons, List.not_mem_nil, or_false] at hv
      omega
    obtain ⟨n, rfl⟩ := Int.eq_ofNat_of_zero_le hv.1
    unfold p_law_b1
    refine ok_sb (right_ok (n := n) (by omega)) fun b hb => ?_
    subst hb
    rw [if_neg (by simp)]
    exact ok_sp ⟨(), rfl, trivial⟩
  subst e
  rw [srest_next]
  refine ok_sb (ok_roll (by omega) (by omega)) fun r hr => ?_
  obtain ⟨k, rfl⟩ := Int.eq_ofNat_of_zero_le hr.1
  rw [sb_r, small_ok (k := k) (by omega)]
  exact ok_sp rfl
end K
end PF

namespace PF
namespace K
theorem law_true : ∀ ns : List Int, ns.length ≤ 63 → ∃ c, callN Φ 40 39 [.scr ns] none = .ok (.bl true) c := fun ns h => by
  obtain ⟨k, e, h2⟩ := law_ok ns
  exact law_of (q_law 26 ns) e h h2
end K
end PF

open PySem PySem.W PySem.Calls PyProof.Rows
theorem PySem.Challenge.cw_orderschanged_k15_whole_zigzags_holds : PySem.Challenge.rw_orderschanged_k15_whole_zigzags.Holds := by
  w_on; o_law
  refine HandSHeadRun.head_any (r := OpenLaw.row PySem.Challenge.rw_orderschanged_k15_whole_zigzags) (q := view (OpenLaw.row PySem.Challenge.rw_orderschanged_k15_whole_zigzags).prog [50]) (H := PF.K.hkk) (ob := PF.K.obb) (M := 6000) (loose := PF.K.loose) (d := HandSHeadRun.topDef (OpenLaw.row PySem.Challenge.rw_orderschanged_k15_whole_zigzags).prog 50) (kwd := []) PF.K.obb_eq
    (by kernel_rfl) (fun s => by kernel_rfl) PF.K.runTop (by kernel_rfl) (by kernel_rfl) (by kernel_rfl) (by rfl) (by first | assumption | decide +kernel) (by decide +kernel) ⟨rfl, rfl, rfl, rfl, rfl, by decide +kernel⟩ ?hw ?hc
  case hw => w_witness2
  case hc =>
    refine L2.walk_ofE (l := PySem.Challenge.rw_orderschanged_k15_whole_zigzags) (n := 63) (k := 40) (x := "script") (CX := L2.CX0) rfl (by decide) (by kernel_rfl) ⟨rfl, by decide, by decide⟩ ?F (fun _ _ _ _ z => z)
    intro w mg fa h Y G hmg0
    obtain ⟨K, KX, c⟩ := Y
    have M := PF.K.mf KX G c
    have hmg : mg ("law" : PySem.Str) = some (.ref fa) := by
      have e : (HandSHeadRun.topDef (OpenLaw.row PySem.Challenge.rw_orderschanged_k15_whole_zigzags).prog 50).name = ("law" : PySem.Str) := by kernel_rfl
      rw [← e]
      exact hmg0
    exact PF.law_end (levels := 40) M.d_law M.g_law hmg KX (fun _ _ _ _ _ _ us hl => match us, hl with | [_], _ => rfl) (fun base fd F => PF.K.fo_law M (PF.K.allOk M 39) F) PF.K.law_true
