import PyProof.Rows.All
import Wide.All
import OpenK.AllK
import Wide.FinOn
import HandS.ForMost
import HandS.Wide
import KE.SortData
import KE.KDictKeyed
import HandS.Lambda
import HandS.TupAny
import HandS.Deep
import HandS.Conv
import HandS.IsInst
import HandS.Zip
import HandS.Style
import HandS.TupMul
import PyProof.ReprLen
import KE.DataMinMax
import KE.GoesMore
import KE.GoesEnum
import KE.KNestM
import HandS.EndTab
import HandS.TryOnly
import HandS.Dict
import PyProof.Rows.TupTab
import KE.KDictDisplayH
import KE.BitLaws
import PySem.Challenge.RW_everysky_k06_orders_by_sets
set_option Elab.async false
set_option linter.all false
set_option maxRecDepth 100000
set_option maxHeartbeats 4000000
/-! EV.1: values, the store, what an expression, a test, a statement comes to, in plain Lean. -/
namespace EV
open PySem (Str PyData)

/-- a value: what never changes by itself, or a cell of the store -/
inductive D where
  | non | bl (b : Bool) | int (i : Int) | str (s : Str) | tup (l : List D) | lst (l : List D) | ref (n : Nat)
  /-- the law's script -/
  | scr (l : List Int)
  deriving Inhabited
inductive Cell where
  | lst (l : List D) | dct (l : List (D × D)) | ins (c : Nat) (fs : List (Str × D))
abbrev Sto := List Cell
abbrev Env := List (Option D)
abbrev E := Env → Sto → Option (D × Sto)
abbrev T := Env → Sto → Option (Bool × Sto)
abbrev A := Env → Sto → Option (List D × Sto)
/-- how a statement ends -/
inductive Out where
  | next (r : Env) | brk (r : Env) | cont (r : Env) | ret (d : D)
abbrev S := Env → Sto → Option (Out × Sto)
abbrev F := List D → Sto → Option (D × Sto)
abbrev G := D → Sto → Env → Option Env

mutual
/-- all cells that it speaks of are below n -/
def D.blw (n : Nat) : D → Bool
  | .tup l => blwAll n l
  | .lst l => blwAll n l
  | .ref m => decide (m < n)
  | _ => true
def blwAll (n : Nat) : List D → Bool
  | [] => true
  | d :: r => d.blw n && blwAll n r
end
mutual
/-- as the library's data; cells are none -/
def D.py : D → PyData
  | .non => .none
  | .bl b => .bool b
  | .int i => .int i
  | .str s => .str s
  | .tup l => .tuple (pyAll l)
  | .lst l => .list (pyAll l)
  | .ref _ => .none
  | .scr _ => .none
def pyAll : List D → List PyData
  | [] => []
  | d :: r => d.py :: pyAll r
end
mutual
/-- it speaks of no cell, nor of the script -/
def D.dat : D → Bool
  | .tup l => datAll l
  | .lst l => datAll l
  | .ref _ => false
  | .scr _ => false
  | _ => true
def datAll : List D → Bool
  | [] => true
  | d :: r => d.dat && datAll r
end
def Cell.blw (n : Nat) : Cell → Bool
  | .lst l => blwAll n l
  | .dct l => l.all fun p => p.1.blw n && p.2.blw n
  | .ins _ fs => fs.all fun p => p.2.blw n

/-- the longest list, tuple -/
abbrev LIM : Nat := 16777216
/-- a list's items, be it a value or a cell -/
def asL (st : Sto) : D → Option (List D)
  | .lst l => some l
  | .ref n => match st[n]? with
    | some (.lst l) => some l
    | _ => none
  | _ => none
/-- the items of a list or tuple -/
def asSeq (st : Sto) : D → Option (List D)
  | .tup l => some l
  | .scr l => some (l.map D.int)
  | d => asL st d
/-- a list in a cell as the list itself -/
def seen (st : Sto) : D → D
  | .ref n => match st[n]? with
    | some (.lst l) => .lst l
    | _ => .ref n
  | d => d
def bv : D → Option Bool
  | .bl b => some b
  | _ => none

/-! ### expressions -/
def eVar (i : Nat) : E := fun r st => match r[i]? with
  | some (some d) => some (d, st)
  | _ => none
def eC (d : D) : E := fun _ st => some (d, st)
def aNil : A := fun _ st => some ([], st)
def aCons (a : E) (b : A) : A := fun r st => (a r st).bind fun x => (b r x.2).bind fun y => some (x.1 :: y.1, y.2)
def eTup (a : A) : E := fun r st => (a r st).bind fun x => if x.1.length ≤ LIM then some (.tup x.1, x.2) else none
def eLst (a : A) : E := fun r st => (a r st).bind fun x => if x.1.length ≤ LIM then some (.lst x.1, x.2) else none
/-- two places, one place, by values -/
def eOp (f : Sto → D → D → Option D) (a b : E) : E := fun r st => (a r st).bind fun x => (b r x.2).bind fun y => (f y.2 x.1 y.1).bind fun d => some (d, y.2)
def eUn (f : Sto → D → Option D) (a : E) : E := fun r st => (a r st).bind fun x => (f x.2 x.1).bind fun d => some (d, x.2)
/-- a builtin on values -/
def eBlt (f : Sto → List D → Option D) (a : A) : E := fun r st => (a r st).bind fun x => (f x.2 x.1).bind fun d => some (d, x.2)
def eCall (f : F) (a : A) : E := fun r st => (a r st).bind fun x => f x.1 x.2
def eIf (c : T) (a b : E) : E := fun r st => (c r st).bind fun x => if x.1 = true then a r x.2 else b r x.2
/-- a test's answer as a value, a value as a test -/
def tOf (a : E) : T := fun r st => (a r st).bind fun x => (bv x.1).bind fun b => some (b, x.2)
def tAnd (a b : T) : T := fun r st => (a r st).bind fun x => if x.1 = true then b r x.2 else some (false, x.2)
def tOr (a b : T) : T := fun r st => (a r st).bind fun x => if x.1 = true then some (true, x.2) else b r x.2
def tNot (a : T) : T := fun r st => (a r st).bind fun x => some (!x.1, x.2)
def eAnd (a b : E) : E := fun r st => (a r st).bind fun x => (bv x.1).bind fun c => if c = true then b r x.2 else some (.bl false, x.2)
def eOr (a b : E) : E := fun r st => (a r st).bind fun x => (bv x.1).bind fun c => if c = true then some (.bl true, x.2) else b r x.2
def eNot (a : E) : E := fun r st => (a r st).bind fun x => (bv x.1).bind fun c => some (.bl (!c), x.2)
/-- a < b < c -/
def eChain (f g : Sto → D → D → Option D) (a b c : E) : E := fun r st => (a r st).bind fun x => (b r x.2).bind fun y => (f y.2 x.1 y.1).bind fun d => (bv d).bind fun k =>
  if k = true then (c r y.2).bind fun z => (g z.2 y.1 z.1).bind fun e => some (e, z.2) else some (.bl false, y.2)

/-! ### operators -/
/-- products that are not too great -/
def MulOk (i j : Int) : Prop := (-(2 ^ 64) < i ∧ i < 2 ^ 64) ∨ (-(2 ^ 64) < j ∧ j < 2 ^ 64) ∨ i.natAbs.log2 + j.natAbs.log2 < 1000000
instance (i j : Int) : Decidable (MulOk i j) := by unfold MulOk; exact inferInstance
def oAdd (st : Sto) (a b : D) : Option D := match a, b with
  | .int i, .int j => some (.int (i + j))
  | .tup l, .tup m => if l.length + m.length ≤ LIM then some (.tup (l ++ m)) else none
  | .str x, .str y => if x.length + y.length ≤ LIM then some (.str (x ++ y)) else none
  | _, _ => (asL st a).bind fun l => (asL st b).bind fun m => if l.length + m.length ≤ LIM then some (.lst (l ++ m)) else none
def oSub (_ : Sto) (a b : D) : Option D := match a, b with
  | .int i, .int j => some (.int (i - j))
  | _, _ => none
def oMul (st : Sto) (a b : D) : Option D := match a, b with
  | .int i, .int j => if MulOk i j then some (.int (i * j)) else none
  | .tup l, .int k => if 0 < l.length ∧ 2 ≤ k ∧ k ≤ 1000 ∧ l.length ≤ 1000 then some (.tup (List.replicate k.toNat l).flatten) else none
  | _, .int k => (asL st a).bind fun l => if 0 ≤ k ∧ k < 1000000 ∧ l.length * k.toNat ≤ LIM then some (.lst (List.replicate k.toNat l).flatten) else none
  | _, _ => none
def oDiv (_ : Sto) (a b : D) : Option D := match a, b with
  | .int i, .int j => if 0 < j ∧ j.natAbs.log2 < 9000 then some (.int (i / j)) else none
  | _, _ => none
def oMod (_ : Sto) (a b : D) : Option D := match a, b with
  | .int i, .int j => if 0 < j then some (.int (i % j)) else none
  | _, _ => none
def PowOk (i j : Int) : Prop := 0 ≤ j ∧ j ≤ 1000000 ∧ i.natAbs < 2 ^ 64
instance (i j : Int) : Decidable (PowOk i j) := by unfold PowOk; exact inferInstance
def oPow (_ : Sto) (a b : D) : Option D := match a, b with
  | .int i, .int j => if PowOk i j then some (.int (i ^ j.toNat)) else none
  | _, _ => none
def oShl (_ : Sto) (a b : D) : Option D := match a, b with
  | .int i, .int j => if PowOk i j then some (.int (i * 2 ^ j.toNat)) else none
  | _, _ => none
def oShr (_ : Sto) (a b : D) : Option D := match a, b with
  | .int i, .int j => if 0 ≤ j then some (.int (i / 2 ^ j.toNat)) else none
  | _, _ => none
def oAnd (_ : Sto) (a b : D) : Option D := match a, b with
  | .int i, .int j => some (.int (PySem.Builtin.bitAnd i j))
  | _, _ => none
def oOr (_ : Sto) (a b : D) : Option D := match a, b with
  | .int i, .int j => some (.int (PySem.Builtin.bitOr i j))
  | _, _ => none
def oNeg (_ : Sto) (a : D) : Option D := match a with
  | .int i => some (.int (-i))
  | _ => none
/-! ### comparisons -/
/-- data that can be compared by == -/
def D.shp (d : D) : Bool := d.dat && PySem.SeqAt.shaped d.py
def oEq (st : Sto) (a b : D) : Option D := match a, b with
  | .str x, .str y => some (.bl (decide (x = y)))
  | .int i, .int j => some (.bl (decide (i = j)))
  | a, b => if (seen st a).shp = true ∧ (seen st b).shp = true then some (.bl (PyData.eqv (seen st a).py (seen st b).py)) else none
def oNe (st : Sto) (a b : D) : Option D := match a, b with
  | .str x, .str y => some (.bl (!decide (x = y)))
  | .int i, .int j => some (.bl (!decide (i = j)))
  | a, b => if (seen st a).shp = true ∧ (seen st b).shp = true then some (.bl (!PyData.eqv (seen st a).py (seen st b).py)) else none
/-- tuples of ints, one behind the other -/
def intsOf : List D → Option (List Int)
  | [] => some []
  | .int i :: r => (intsOf r).bind fun l => some (i :: l)
  | _ => none
def oLt (_ : Sto) (a b : D) : Option D := match a, b with
  | .int i, .int j => some (.bl (decide (i < j)))
  | .tup l, .tup m => (intsOf l).bind fun x => (intsOf m).bind fun y => some (.bl (HT.lexLt x y))
  | _, _ => none
def oLe (_ : Sto) (a b : D) : Option D := match a, b with
  | .int i, .int j => some (.bl (decide (i ≤ j)))
  | _, _ => none
def oGt (_ : Sto) (a b : D) : Option D := match a, b with
  | .int i, .int j => some (.bl (decide (j < i)))
  | _, _ => none
def oGe (_ : Sto) (a b : D) : Option D := match a, b with
  | .int i, .int j => some (.bl (decide (j ≤ i)))
  | _, _ => none
/-- is None, is True, is False -/
def D.cst : D → Bool
  | .non => true
  | .bl _ => true
  | _ => false
def oIs (_ : Sto) (a b : D) : Option D := match a, b with
  | .non, .non => some (.bl true)
  | .bl x, .bl y => some (.bl (x == y))
  | _, .non => some (.bl false)
  | _, .bl _ => some (.bl false)
  | _, _ => none
def oIsNot (st : Sto) (a b : D) : Option D := (oIs st a b).bind fun d => (bv d).bind fun b => some (.bl (!b))
/-- flat things -/
def D.flat : D → Bool
  | .int _ => true
  | .str _ => true
  | .non => true
  | .bl _ => true
  | _ => false

/-- x in y: y a list or tuple of flat things -/
def oIn (st : Sto) (x y : D) : Option D := (asSeq st y).bind fun l => if x.flat = true ∧ l.all D.flat = true then some (.bl (l.any fun z => PyData.eqv z.py x.py)) else none
def oNotIn (st : Sto) (x y : D) : Option D := (oIn st x y).bind fun d => (bv d).bind fun b => some (.bl (!b))
/-- xs[i] of a list or tuple -/
def oIdx (st : Sto) (x i : D) : Option D := match i with
  | .int k => (asSeq st x).bind fun l => L2.atI l k
  | _ => none

/-! ### slices -/
def cut {α : Type} (l : List α) (lo hi : Option Int) : List α := (l.drop (HT.sIx l.length 0 lo)).take (HT.sIx l.length l.length hi - HT.sIx l.length 0 lo)
abbrev P := Env → Sto → Option (Option Int × Sto)
def pNo : P := fun _ st => some (none, st)
def pSome (a : E) : P := fun r st => (a r st).bind fun x => match x.1 with
  | .int i => some (some i, x.2)
  | _ => none
def oCut (st : Sto) (d : D) (lo hi : Option Int) : Option D := match d with
  | .tup l => some (.tup (cut l lo hi))
  | d => (asL st d).bind fun l => some (.lst (cut l lo hi))
def eSlice (a : E) (lo hi : P) : E := fun r st => (a r st).bind fun x => (lo r x.2).bind fun l => (hi r l.2).bind fun h => (oCut h.2 x.1 l.1 h.1).bind fun d => some (d, h.2)
/-- t[::-1], t a tuple -/
def oRev (_ : Sto) (d : D) : Option D := match d with
  | .tup l => some (.tup l.reverse)
  | _ => none

/-! ### built-in functions -/
def bLen (st : Sto) (vs : List D) : Option D := match vs with
  | [d] => (asSeq st d).bind fun l => some (.int l.length)
  | _ => none
def bAbs (_ : Sto) (vs : List D) : Option D := match vs with
  | [.int i] => some (.int (if i < 0 then -i else i))
  | _ => none
def bInt (_ : Sto) (vs : List D) : Option D := match vs with
  | [.int i] => some (.int i)
  | [.bl b] => some (.int (if b = true then 1 else 0))
  | _ => none
def bSum (st : Sto) (vs : List D) : Option D := match vs with
  | [d] => (asSeq st d).bind fun l => (intsOf l).bind fun ns => some (.int ns.sum)
  | _ => none
def bls : List D → Option (List Bool)
  | [] => some []
  | .bl b :: r => (bls r).bind fun l => some (b :: l)
  | _ => none
def bAny (st : Sto) (vs : List D) : Option D := match vs with
  | [d] => (asL st d).bind fun l => (bls l).bind fun bs => some (.bl (bs.any id))
  | _ => none
def bAll (st : Sto) (vs : List D) : Option D := match vs with
  | [d] => (asL st d).bind fun l => (bls l).bind fun bs => some (.bl (bs.all id))
  | _ => none
def bTuple (st : Sto) (vs : List D) : Option D := match vs with
  | [d] => (asSeq st d).bind fun l => some (.tup l)
  | _ => none
def bList (st : Sto) (vs : List D) : Option D := match vs with
  | [d] => (asSeq st d).bind fun l => some (.lst l)
  | _ => none
/-- data of one make: they can be put in order -/
def D.nn : D → Bool
  | .non => false
  | .ref _ => false
  | .scr _ => false
  | _ => true
def Alk (l : List D) : Prop := (∀ a ∈ l, (a.shp && a.nn && l.all fun b => PySem.W.alike a.py b.py) = true)
instance (l : List D) : Decidable (Alk l) := by unfold Alk; exact inferInstance
def tupled : D → Bool
  | .tup (_ :: _) => true
  | _ => false
def untupled : D → Bool
  | .tup _ => false
  | .non => false
  | _ => true
def dLt (a b : D) : Bool := PySem.W.dataLt a.py b.py
/-- the least one, the first of equal ones -/
def least (a : D) (l : List D) : D := l.foldl (fun a b => if dLt b a = true then b else a) a
def most (a : D) (l : List D) : D := l.foldl (fun a b => if dLt a b = true then b else a) a
def bMin (st : Sto) (vs : List D) : Option D := match vs with
  | [.int i, .int j] => some (.int (if j < i then j else i))
  | [d] => (asSeq st d).bind fun l => match l with
    | [] => none
    | a :: r => if Alk (a :: r) then some (least a r) else none
  | _ => none
def bMax (st : Sto) (vs : List D) : Option D := match vs with
  | [.int i, .int j] => some (.int (if j > i then j else i))
  | [d] => (asSeq st d).bind fun l => match l with
    | [] => none
    | a :: r => if Alk (a :: r) then some (most a r) else none
  | _ => none
def dLe (a b : D) : Bool := !dLt b a
def bSorted (st : Sto) (vs : List D) : Option D := match vs with
  | [d] => (asL st d).bind fun l => if Alk l ∧ (l.all tupled = true ∨ l.all untupled = true) ∧ l.length ≤ LIM then some (.lst (l.mergeSort dLe)) else none
  | _ => none
/-- isinstance(x, T) -/
def D.ty : D → String
  | .non => "NoneType"
  | .bl _ => "bool"
  | .int _ => "int"
  | .str _ => "str"
  | .tup _ => "tuple"
  | .lst _ => "list"
  | .ref _ => "?"
  | .scr _ => "list"
def bIsInt (_ : Sto) (vs : List D) : Option D := match vs with
  | [d] => if d.dat = true then some (.bl (d.ty == "int" || d.ty == "bool")) else none
  | _ => none
def bIs (t : String) (_ : Sto) (vs : List D) : Option D := match vs with
  | [d] => if d.dat = true then some (.bl (d.ty == t)) else none
  | _ => none
/-- tuple(range(..)), list(range(..)) -/
def rng (lo hi : Int) : List D := (List.range (hi - lo).toNat).map fun (i : Nat) => .int (lo + (i : Int))
def RngOk (lo hi : Int) : Prop := -(2 ^ 62) ≤ lo ∧ lo < 2 ^ 62 ∧ -(2 ^ 62) ≤ hi ∧ hi < 2 ^ 62
instance (i j : Int) : Decidable (RngOk i j) := by unfold RngOk; exact inferInstance

/-! ### a new cell -/
def eNew (a : E) : E := fun r st => (a r st).bind fun x => match x.1 with
  | .lst l => some (.ref x.2.length, x.2 ++ [.lst l])
  | _ => none

/-! ### what is walked -/
inductive Src where
  | vals (l : List D) | cell (n len : Nat)
abbrev I := Env → Sto → Option (Src × Sto)
def Src.len : Src → Nat
  | .vals l => l.length
  | .cell _ k => k
/-- it stands as it stood -/
def Src.ok (st : Sto) : Src → Bool
  | .vals _ => true
  | .cell n k => match st[n]? with
    | some (.lst l) => l.length == k
    | _ => false
def Src.get (st : Sto) (i : Nat) : Src → Option D
  | .vals l => l[i]?
  | .cell n _ => match st[n]? with
    | some (.lst l) => l[i]?
    | _ => none
def iSeq (a : E) : I := fun r st => (a r st).bind fun x => match x.1 with
  | .tup l => some (.vals l, x.2)
  | .lst l => some (.vals l, x.2)
  | .ref n => match x.2[n]? with
    | some (.lst l) => some (.cell n l.length, x.2)
    | _ => none
  | _ => none
def iRange1 (a : E) : I := fun r st => (a r st).bind fun x => match x.1 with
  | .int j => if RngOk 0 j then some (.vals (rng 0 j), x.2) else none
  | _ => none
def iRange2 (a b : E) : I := fun r st => (a r st).bind fun x => (b r x.2).bind fun y => match x.1, y.1 with
  | .int i, .int j => if RngOk i j then some (.vals (rng i j), y.2) else none
  | _, _ => none
def enumD (l : List D) : List D := l.zipIdx.map fun p => .tup [.int p.2, p.1]
def iEnum (a : E) : I := fun r st => (a r st).bind fun x => match x.1 with
  | .tup l => some (.vals (enumD l), x.2)
  | .lst l => some (.vals (enumD l), x.2)
  | _ => none
def iZip (a b : E) : I := fun r st => (a r st).bind fun x => (b r x.2).bind fun y => match x.1, y.1 with
  | .tup l, .tup m => some (.vals ((l.zip m).map fun p => .tup [p.1, p.2]), y.2)
  | _, _ => none
def eTupRng (a : I) : E := fun r st => (a r st).bind fun x => match x.1 with
  | .vals l => if l.length ≤ LIM then some (.tup l, x.2) else none
  | _ => none
def eLstRng (a : I) : E := fun r st => (a r st).bind fun x => match x.1 with
  | .vals l => if l.length ≤ LIM then some (.lst l, x.2) else none
  | _ => none

/-! ### targets -/
def gNm (i : Nat) : G := fun d _ r => some (r.set i (some d))
abbrev Gs := List D → Sto → Env → Option Env
def gsNil : Gs := fun vs _ r => match vs with
  | [] => some r
  | _ => none
def gsCons (g : G) (h : Gs) : Gs := fun vs st r => match vs with
  | d :: ds => (g d st r).bind fun r1 => h ds st r1
  | [] => none
/-- (a, b, ..): a tuple of that length -/
def gTp (n : Nat) (g : Gs) : G := fun d st r => match d with
  | .tup l => if l.length = n then g l st r else none
  | _ => none
/-- (a, b, ..): a list of that length -/
def gLs (n : Nat) (g : Gs) : G := fun d st r => match d with
  | .lst l => if l.length = n then g l st r else none
  | _ => none

/-! ### list comprehensions -/
def wipeE (r : Env) : List Nat → Env
  | [] => r
  | v :: vs => (wipeE r vs).set v none
def tYes : T := fun _ st => some (true, st)
def lcL (r : Env) (g : G) (c : T) (e : E) : List D → Sto → Option (List D × Sto)
  | [], st => some ([], st)
  | d :: ds, st => (g d st r).bind fun r1 => (c r1 st).bind fun b => if b.1 = true then (e r1 b.2).bind fun y => (lcL r g c e ds y.2).bind fun z => some (y.1 :: z.1, z.2) else lcL r g c e ds b.2
def lcC (s : Src) (r : Env) (g : G) (c : T) (e : E) : Nat → Nat → Sto → Option (List D × Sto)
  | 0, _, st => if s.ok st = true then some ([], st) else none
  | m + 1, i, st => if s.ok st = true then (s.get st i).bind fun d => (g d st r).bind fun r1 => (c r1 st).bind fun b => if b.1 = true then (e r1 b.2).bind fun y => (lcC s r g c e m (i + 1) y.2).bind fun z => some (y.1 :: z.1, z.2) else lcC s r g c e m (i + 1) b.2 else none
def lcGo (s : Src) (r : Env) (g : G) (c : T) (e : E) (st : Sto) : Option (List D × Sto) := match s with
  | .vals l => lcL r g c e l st
  | s => lcC s r g c e s.len 0 st
def eLc (i : I) (own : List Nat) (g : G) (c : T) (e : E) : E := fun r st => (i r st).bind fun s => (lcGo s.1 (wipeE r own) g c e s.2).bind fun z => if z.1.length ≤ LIM then some (.lst z.1, z.2) else none
/-- two for: the inner one's own names are vs1 -/
def lc2L (r : Env) (g : G) (c : T) (i1 : I) (vs1 : List Nat) (g1 : G) (c1 : T) (e : E) : List D → Sto → Option (List D × Sto)
  | [], st => some ([], st)
  | d :: ds, st => (g d st r).bind fun r1 => (c r1 st).bind fun b => if b.1 = true then (i1 r1 b.2).bind fun s1 => (lcGo s1.1 (wipeE r1 vs1) g1 c1 e s1.2).bind fun y => (lc2L r g c i1 vs1 g1 c1 e ds y.2).bind fun z => some (y.1 ++ z.1, z.2) else lc2L r g c i1 vs1 g1 c1 e ds b.2

/-! ### statements -/
def sNext : S := fun r st => some (.next r, st)
def sNever : S := fun _ _ => none
def sBreak : S := fun r st => some (.brk r, st)
def sCont : S := fun r st => some (.cont r, st)
def sSeq (a b : S) : S := fun r st => (a r st).bind fun o => match o.1 with
  | .next r1 => b r1 o.2
  | x => some (x, o.2)
def sRet (e : E) : S := fun r st => (e r st).bind fun x => some (.ret x.1, x.2)
def sRetN : S := fun _ st => some (.ret .non, st)
def sDrop (e : E) : S := fun r st => (e r st).bind fun x => some (.next r, x.2)
def sIf (c : T) (a b : S) : S := fun r st => (c r st).bind fun x => if x.1 = true then a r x.2 else b r x.2
def sAsg (e : E) (g : G) : S := fun r st => (e r st).bind fun x => (g x.1 x.2 r).bind fun r1 => some (.next r1, x.2)
/-- x = y = .. op e at a name -/
def sAug (i : Nat) (f : Sto → D → D → Option D) (e : E) : S := fun r st => match r[i]? with
  | some (some d) => (e r st).bind fun x => (f x.2 d x.1).bind fun z => some (.next (r.set i (some z)), x.2)
  | _ => none
def setIdx (st : Sto) (o i v : D) : Option Sto := match o, i with
  | .ref n, .int k => match st[n]? with
    | some (.lst l) => (L2.ixN l.length k).bind fun j => some (st.set n (.lst (l.set j v)))
    | _ => none
  | _, _ => none
/-- o[i] = e -/
def sSetIx (o i e : E) : S := fun r st => (e r st).bind fun v => (o r v.2).bind fun x => (i r x.2).bind fun y => (setIdx y.2 x.1 y.1 v.1).bind fun st1 => some (.next r, st1)
/-- o[i] op= e -/
def sAugIx (o i : E) (f : Sto → D → D → Option D) (e : E) : S := fun r st => (o r st).bind fun x => (i r x.2).bind fun y => (oIdx y.2 x.1 y.1).bind fun old => (e r y.2).bind fun v => (f v.2 old v.1).bind fun z => (setIdx v.2 x.1 y.1 z).bind fun st1 => some (.next r, st1)
/-- o.append(e) -/
def sApp (o e : E) : S := fun r st => (o r st).bind fun x => (asL x.2 x.1).bind fun _ => (e r x.2).bind fun v => match x.1 with
  | .ref n => match v.2[n]? with
    | some (.lst l) => if l.length < LIM then some (.next r, v.2.set n (.lst (l ++ [v.1]))) else none
    | _ => none
  | _ => none
def forL (g : G) (b : S) : List D → Env → Sto → Option (Out × Sto)
  | [], r, st => some (.next r, st)
  | d :: ds, r, st => (g d st r).bind fun r1 => (b r1 st).bind fun o => match o.1 with
    | .next r2 => forL g b ds r2 o.2
    | .cont r2 => forL g b ds r2 o.2
    | .brk r2 => some (.next r2, o.2)
    | .ret d => some (.ret d, o.2)
def forC (s : Src) (g : G) (b : S) : Nat → Nat → Env → Sto → Option (Out × Sto)
  | 0, _, r, st => if s.ok st = true then some (.next r, st) else none
  | m + 1, i, r, st => if s.ok st = true then (s.get st i).bind fun d => (g d st r).bind fun r1 => (b r1 st).bind fun o => match o.1 with
    | .next r2 => forC s g b m (i + 1) r2 o.2
    | .cont r2 => forC s g b m (i + 1) r2 o.2
    | .brk r2 => some (.next r2, o.2)
    | .ret d => some (.ret d, o.2) else none
def forGo (s : Src) (g : G) (b : S) (r : Env) (st : Sto) : Option (Out × Sto) := match s with
  | .vals l => forL g b l r st
  | s => forC s g b s.len 0 r st
def sFor (i : I) (g : G) (b : S) : S := fun r st => (i r st).bind fun s => forGo s.1 g b r s.2
/-- at most so many turns -/
def whileN (c : T) (b : S) : Nat → Env → Sto → Option (Out × Sto)
  | 0, _, _ => none
  | m + 1, r, st => (c r st).bind fun x => if x.1 = true then (b r x.2).bind fun o => match o.1 with
    | .next r2 => whileN c b m r2 o.2
    | .cont r2 => whileN c b m r2 o.2
    | .brk r2 => some (.next r2, o.2)
    | .ret d => some (.ret d, o.2) else some (.next r, x.2)
open Classical in
noncomputable def sWhile (c : T) (b : S) : S := fun r st => if h : ∃ n x, whileN c b n r st = some x then some (choose (choose_spec h)) else none

/-! ### a def -/
def begin_ (n : Nat) (vs : List D) : Env := vs.map some ++ List.replicate (n - vs.length) none
/-- what a body hands back; cells of its own are forgotten where nothing speaks of them -/
def leave (n : Nat) (d : D) (st : Sto) : D × Sto := if d.blw n = true ∧ (st.take n).all (Cell.blw n) = true then (d, st.take n) else (d, st)
def fDef (np nn : Nat) (b : S) : F := fun vs st => if vs.length = np then match b (begin_ nn vs) st with
  | some (.ret d, st1) => some (leave st.length d st1)
  | some (.next _, st1) => some (leave st.length .non st1)
  | _ => none else none
end EV
/-! EV.2: how a value stands in the heap, the store in the heap. -/
namespace EV
open PySem PySem.Spec PyProof.Rows L2

/-- where the classes stand; the tables of code objects that are spoken of -/
structure Cl where
  cls : Nat → Addr
  tab : List (Addr × Str)
structure Cf where
  w : World
  K : PySem.W.Frag
  cl : Cl
abbrev cf (X : Cx) (cl : Cl) : Cf := ⟨X.w, X.K, cl⟩

mutual
inductive Is (C : Cf) (Γ : Hp) (φ : List Addr) : D → V → Prop
  | non : Is C Γ φ .non .non
  | bl (b : Bool) : Is C Γ φ (.bl b) (.bl b)
  | int (i : Int) : Is C Γ φ (.int i) (.int i)
  | str (x : Str) : Is C Γ φ (.str x) (.str x)
  | tup {a : Addr} {vs : List V} {ds : List D} : Γ a = some (.tup vs) → IsAll C Γ φ ds vs → Is C Γ φ (.tup ds) (.ref a)
  | lst {a : Addr} {vs : List V} {ds : List D} : Γ a = some (.lst vs) → IsAll C Γ φ ds vs → Is C Γ φ (.lst ds) (.ref a)
  | ref {n : Nat} {a : Addr} : φ[n]? = some a → Is C Γ φ (.ref n) (.ref a)
  | scr {a : Addr} {l : List Int} : SqL C.K Γ a (l.map V.int) → Is C Γ φ (.scr l) (.ref a)
inductive IsAll (C : Cf) (Γ : Hp) (φ : List Addr) : List D → List V → Prop
  | nil : IsAll C Γ φ [] []
  | cons {d : D} {v : V} {ds : List D} {vs : List V} : Is C Γ φ d v → IsAll C Γ φ ds vs → IsAll C Γ φ (d :: ds) (v :: vs)
end

/-- a row of fields -/
inductive FdIs (C : Cf) (Γ : Hp) (φ : List Addr) : List (Str × D) → List (Str × V) → Prop
  | nil : FdIs C Γ φ [] []
  | cons {x : Str} {d : D} {v : V} {ds : List (Str × D)} {vs : List (Str × V)} : Is C Γ φ d v → FdIs C Γ φ ds vs → FdIs C Γ φ ((x, d) :: ds) ((x, v) :: vs)

mutual
/-- a key -/
def D.key : D → Option NestedKey
  | .int i => some (.num i)
  | .str x => some (.text x)
  | .non => some .none
  | .tup l => (keyAll l).bind fun ks => some (.tup ks)
  | _ => none
def keyAll : List D → Option (List NestedKey)
  | [] => some []
  | d :: r => d.key.bind fun k => (keyAll r).bind fun ks => some (k :: ks)
end

/-- an entry of a dict -/
def EntIs (C : Cf) (Γ : Hp) (φ : List Addr) (p : D × D) (e : DictEntry) : Prop :=
  (∃ v, Is C Γ φ p.2 v ∧ RelV v e.val) ∧
  ((∃ i t, p.1 = .int i ∧ e.key = .int i t ∧ e.hash = hashInt i) ∨ (∃ ds k b, p.1 = .tup ds ∧ (D.tup ds).key = some k ∧ k.depth ≤ 8 ∧ e.key = .ref b ∧ Is C Γ φ (.tup ds) (.ref b) ∧ e.hash = k.hash C.w))
abbrev EntsIs (C : Cf) (Γ : Hp) (φ : List Addr) : List (D × D) → List DictEntry → Prop := Paired (EntIs C Γ φ)
def DAt (a : Addr) (es : List DictEntry) (h : Heap) : Prop := (a == sysModules) = false ∧ ∃ o ep, h.get? a = some o ∧ o.ExactDict ∧ o.data = .dict es.toArray ep

def CellOk (C : Cf) (Γ : Hp) (φ : List Addr) (H : Hp) : Cell → Addr → Prop
  | .lst ds, a => ∃ vs, H a = some (.lst vs) ∧ IsAll C Γ φ ds vs
  | .dct kvs, a => ∃ es, H a = some (.ext (DAt a es)) ∧ EntsIs C Γ φ kvs es ∧ (kvs.map (fun p => p.1.key)).Nodup ∧ kvs.length ≤ sizeLine
  | .ins c fs, a => ∃ dx fv, H a = some (.ins (C.cl.cls c) dx fv) ∧ H dx = some (.own a) ∧ Γ dx = none ∧ dx ∉ φ ∧ FdIs C Γ φ fs fv

structure Sim (C : Cf) (Γ : Hp) (H : Hp) (φ : List Addr) (st : Sto) : Prop where
  sub : ∀ a o, Γ a = some o → H a = some o
  off : ∀ a ∈ φ, Γ a = none
  nd : φ.Nodup
  len : φ.length = st.length
  cell : ∀ (n : Nat) (c : Cell) (a : Addr), st[n]? = some c → φ[n]? = some a → CellOk C Γ φ H c a
  tb : LamX.Tabs C.cl.tab H
  ta : ∀ a ps, H a = some (.tbl ps) → ∃ q, (a, q) ∈ C.cl.tab
  tg : ∀ x ∈ C.cl.tab, Γ x.1 = none
abbrev NT (o : HO) : Prop := ∀ ps, o ≠ .tbl ps

/-- how a state goes on -/
structure Ext (Γ H : Hp) (φ : List Addr) (Γ' H' : Hp) (φ' : List Addr) : Prop where
  gs : ∀ a o, Γ a = some o → Γ' a = some o
  ps : φ <+: φ'
  fr : ∀ a o, H a = some o → a ∉ φ → NT o → H' a = some o
  gn : ∀ a o, Γ' a = some o → Γ a = some o ∨ H a = none
  pn : ∀ a ∈ φ', a ∈ φ ∨ H a = none
  al : ∀ a ∈ φ, ∃ o, H' a = some o
  tl : ∀ a ps, H a = some (.tbl ps) → ∃ qs, H' a = some (.tbl qs)

def EnvOk (C : Cf) (Γ : Hp) (φ : List Addr) (r : Env) (σ : L2.St) : Prop := r.length = σ.length ∧ ∀ (i : Nat) (d : D), r[i]? = some (some d) → ∃ v, σ[i]? = some (some v) ∧ Is C Γ φ d v

theorem pre_get {φ φ' : List Addr} {n : Nat} {a : Addr} (h : φ <+: φ') (e : φ[n]? = some a) : φ'[n]? = some a := by
  obtain ⟨t, rfl⟩ := h
  rw [List.getElem?_append_left (by exact (List.getElem?_eq_some_iff.mp e).1)]
  exact e
theorem rd_mono {Γ Γ' : Hp} (g : ∀ a o, Γ a = some o → Γ' a = some o) {a : Addr} {u : HO} (h : Rd Γ a u) : Rd Γ' a u := by
  rcases h with h | ⟨o, h⟩
  · exact .inl (g _ _ h)
  · exact .inr ⟨o, g _ _ h⟩
theorem sql_mono {K : PySem.W.Frag} {Γ Γ' : Hp} (g : ∀ a o, Γ a = some o → Γ' a = some o) {a : Addr} {xs : List V} (h : SqL K Γ a xs) : SqL K Γ' a xs := h.elim (fun q => .inl (rd_mono g q)) .inr
theorem sqt_mono {K : PySem.W.Frag} {Γ Γ' : Hp} (g : ∀ a o, Γ a = some o → Γ' a = some o) {a : Addr} {xs : List V} (h : SqT K Γ a xs) : SqT K Γ' a xs := h.elim (fun q => .inl (rd_mono g q)) .inr

mutual
theorem Is.mono {C : Cf} {Γ Γ' : Hp} {φ φ' : List Addr} (g : ∀ a o, Γ a = some o → Γ' a = some o) (p : φ <+: φ') : ∀ {d : D} {v : V}, Is C Γ φ d v → Is C Γ' φ' d v
  | _, _, .non => .non
  | _, _, .bl b => .bl b
  | _, _, .int i => .int i
  | _, _, .str x => .str x
  | _, _, .tup h q => .tup (g _ _ h) (IsAll.mono g p q)
  | _, _, .lst h q => .lst (g _ _ h) (IsAll.mono g p q)
  | _, _, .ref h => .ref (pre_get p h)
  | _, _, .scr h => .scr (sql_mono g h)
theorem IsAll.mono {C : Cf} {Γ Γ' : Hp} {φ φ' : List Addr} (g : ∀ a o, Γ a = some o → Γ' a = some o) (p : φ <+: φ') : ∀ {ds : List D} {vs : List V}, IsAll C Γ φ ds vs → IsAll C Γ' φ' ds vs
  | _, _, .nil => .nil
  | _, _, .cons h q => .cons (Is.mono g p h) (IsAll.mono g p q)
end
theorem FdIs.mono {C : Cf} {Γ Γ' : Hp} {φ φ' : List Addr} (g : ∀ a o, Γ a = some o → Γ' a = some o) (p : φ <+: φ') : ∀ {ds vs}, FdIs C Γ φ ds vs → FdIs C Γ' φ' ds vs
  | _, _, .nil => .nil
  | _, _, .cons h q => .cons (Is.mono g p h) (FdIs.mono g p q)
theorem EntIs.mono {C : Cf} {Γ Γ' : Hp} {φ φ' : List Addr} (g : ∀ a o, Γ a = some o → Γ' a = some o) (p : φ <+: φ') {x : D × D} {e : DictEntry} (h : EntIs C Γ φ x e) : EntIs C Γ' φ' x e := by
  obtain ⟨⟨v, h1, h2⟩, h3⟩ := h
  refine ⟨⟨v, h1.mono g p, h2⟩, ?_⟩
  rcases h3 with h3 | ⟨ds, k, b, e1, e2, e3, e4, e5, e6⟩
  · exact .inl h3
  · exact .inr ⟨ds, k, b, e1, e2, e3, e4, e5.mono g p, e6⟩
theorem EntsIs.mono {C : Cf} {Γ Γ' : Hp} {φ φ' : List Addr} (g : ∀ a o, Γ a = some o → Γ' a = some o) (p : φ <+: φ') {x : List (D × D)} {e : List DictEntry} (h : EntsIs C Γ φ x e) : EntsIs C Γ' φ' x e :=
  Paired.mapP h fun _ _ q => q.mono g p
theorem Ext.is {C : Cf} {Γ H Γ' H' : Hp} {φ φ' : List Addr} (x : Ext Γ H φ Γ' H' φ') {d : D} {v : V} (h : Is C Γ φ d v) : Is C Γ' φ' d v := h.mono x.gs x.ps
theorem Ext.all {C : Cf} {Γ H Γ' H' : Hp} {φ φ' : List Addr} (x : Ext Γ H φ Γ' H' φ') {d : List D} {v : List V} (h : IsAll C Γ φ d v) : IsAll C Γ' φ' d v := h.mono x.gs x.ps
theorem Ext.env {C : Cf} {Γ H Γ' H' : Hp} {φ φ' : List Addr} (x : Ext Γ H φ Γ' H' φ') {r : Env} {σ : L2.St} (h : EnvOk C Γ φ r σ) : EnvOk C Γ' φ' r σ := ⟨h.1, fun i d e => let ⟨v, h1, h2⟩ := h.2 i d e; ⟨v, h1, x.is h2⟩⟩

theorem Sim.there {C : Cf} {Γ H : Hp} {φ : List Addr} {st : Sto} (s : Sim C Γ H φ st) {a : Addr} (ha : a ∈ φ) : ∃ o, H a = some o := by
  obtain ⟨n, hn⟩ := List.mem_iff_getElem?.mp ha
  have hl : n < st.length := by
    rw [← s.len]
    exact (List.getElem?_eq_some_iff.mp hn).1
  have q := s.cell n st[n] a (List.getElem?_eq_getElem hl) hn
  cases e : st[n] with
  | lst ds => rw [e] at q; obtain ⟨vs, h, _⟩ := q; exact ⟨_, h⟩
  | dct kvs => rw [e] at q; obtain ⟨es, h, _⟩ := q; exact ⟨_, h⟩
  | ins c fs => rw [e] at q; obtain ⟨dx, fv, h, _⟩ := q; exact ⟨_, h⟩
theorem Ext.refl {C : Cf} {Γ H : Hp} {φ : List Addr} {st : Sto} (s : Sim C Γ H φ st) : Ext Γ H φ Γ H φ :=
  ⟨fun _ _ h => h, List.prefix_rfl, fun _ _ h _ _ => h, fun _ _ h => .inl h, fun _ h => .inl h, fun _ h => s.there h, fun _ ps h => ⟨ps, h⟩⟩
theorem Ext.new0 {Γ H Γ1 H1 : Hp} {φ φ1 : List Addr} (x : Ext Γ H φ Γ1 H1 φ1) {a : Addr} (e : H1 a = none) : H a = none := by
  cases q : H a with
  | none => rfl
  | some o =>
    by_cases ha : a ∈ φ
    · obtain ⟨o', e'⟩ := x.al a ha
      rw [e] at e'; cases e'
    · by_cases nt : NT o
      · rw [x.fr a o q ha nt] at e; cases e
      · cases o with
        | tbl ps =>
          obtain ⟨qs, e'⟩ := x.tl a ps q
          rw [e] at e'; cases e'
        | _ => exact absurd (fun ps z => nomatch z) nt
theorem Ext.trans {Γ H Γ1 H1 Γ2 H2 : Hp} {φ φ1 φ2 : List Addr} (x : Ext Γ H φ Γ1 H1 φ1) (y : Ext Γ1 H1 φ1 Γ2 H2 φ2) : Ext Γ H φ Γ2 H2 φ2 := by
  have new : ∀ a, H1 a = none → H a = none := fun a e => x.new0 e
  refine ⟨fun a o h => y.gs a o (x.gs a o h), x.ps.trans y.ps, fun a o h ha nt => ?_, fun a o h => ?_, fun a h => ?_, fun a h => y.al a (x.ps.subset h), fun a ps h => ?_⟩
  · refine y.fr a o (x.fr a o h ha nt) (fun q => ?_) nt
    rcases x.pn a q with z | z
    · exact ha z
    · rw [h] at z; cases z
  · rcases y.gn a o h with q | q
    · exact x.gn a o q
    · exact .inr (new a q)
  · rcases y.pn a h with q | q
    · exact x.pn a q
    · exact .inr (new a q)
  · obtain ⟨qs, h1⟩ := x.tl a ps h
    exact y.tl a qs h1
theorem Ext.new {Γ H Γ1 H1 : Hp} {φ φ1 : List Addr} (x : Ext Γ H φ Γ1 H1 φ1) {a : Addr} (e : H1 a = none) : H a = none := x.new0 e

section
variable {C : Cf} {Γ H : Hp} {φ : List Addr} {st : Sto} {p : Addr}
theorem Sim.notIn (s : Sim C Γ H φ st) (h : H p = none) : p ∉ φ := fun q => by
  obtain ⟨o, e⟩ := s.there q
  rw [h] at e; cases e
theorem Sim.fresh (s : Sim C Γ H φ st) (h : H p = none) : Γ p = none := by
  cases q : Γ p with
  | none => rfl
  | some o => rw [s.sub _ _ q] at h; cases h
theorem updG {o : HO} (h : Γ p = none) : ∀ a u, Γ a = some u → upd Γ p o a = some u := fun a u e => by
  rw [upd_ne (ne_of_none e h)]; exact e
/-- the cells are as they were where the heap is as it was at them -/
theorem CellOk.keep {Γ' H' : Hp} {φ' : List Addr} {c : Cell} {a : Addr} (h : CellOk C Γ φ H c a) (g : ∀ a o, Γ a = some o → Γ' a = some o) (p : φ <+: φ') (ha : ∀ o, H a = some o → H' a = some o) (hd : ∀ dx, H dx = some (.own a) → dx ∉ φ → Γ dx = none → H' dx = some (.own a) ∧ Γ' dx = none ∧ dx ∉ φ') : CellOk C Γ' φ' H' c a := by
  cases c with
  | lst ds => obtain ⟨vs, h1, h2⟩ := h; exact ⟨vs, ha _ h1, h2.mono g p⟩
  | dct kvs => obtain ⟨es, h1, h2, h3⟩ := h; exact ⟨es, ha _ h1, EntsIs.mono g p h2, h3⟩
  | ins c fs =>
    obtain ⟨dx, fv, h1, h2, h3, h4, h5⟩ := h
    obtain ⟨q1, q2, q3⟩ := hd dx h2 h4 h3
    exact ⟨dx, fv, ha _ h1, q1, q2, q3, h5.mono g p⟩
/-- tables where a new thing stands -/
theorem tabs_new {T : List (Addr × Str)} {o : HO} (t : LamX.Tabs T H) (h : H p = none) : LamX.Tabs T (upd H p o) := t.ext fun b u e => by rw [upd_ne (ne_of_none e h)]; exact e
theorem ta_new {T : List (Addr × Str)} {o : HO} (t : ∀ a ps, H a = some (.tbl ps) → ∃ q, (a, q) ∈ T) (h : NT o) : ∀ a ps, upd H p o a = some (.tbl ps) → ∃ q, (a, q) ∈ T := fun a ps e => by
  by_cases q : a = p
  · subst q; rw [upd_same] at e; exact absurd (Option.some.inj e) (h ps)
  · rw [upd_ne q] at e; exact t a ps e
theorem tl_upd {o : HO} (h : ∀ ps, H p ≠ some (.tbl ps)) : ∀ a ps, H a = some (.tbl ps) → ∃ qs, upd H p o a = some (.tbl qs) := fun a ps e => ⟨ps, by
  rw [upd_ne (fun q : a = p => h ps (by rw [← q]; exact e))]; exact e⟩
/-- .. and where it is frozen from now on -/
theorem tg_new {o : HO} (s : Sim C Γ H φ st) (h : ∀ ps, H p ≠ some (.tbl ps)) : ∀ x ∈ C.cl.tab, upd Γ p o x.1 = none := fun x hx => by
  obtain ⟨ps, e, _⟩ := s.tb x hx
  rw [upd_ne (fun q : x.1 = p => h ps (by rw [← q]; exact e))]
  exact s.tg x hx
/-- a new thing that does not change -/
theorem Sim.frozen {o : HO} (s : Sim C Γ H φ st) (h : H p = none) (nt : NT o := by exact fun _ z => nomatch z) : Sim C (upd Γ p o) (upd H p o) φ st ∧ Ext Γ H φ (upd Γ p o) (upd H p o) φ := by
  have hp := s.notIn h
  have hg := s.fresh h
  refine ⟨⟨fun a u e => ?_, fun a ha => ?_, s.nd, s.len, fun n c a h1 h2 => ?_, tabs_new s.tb h, ta_new s.ta nt, tg_new s fun ps z => by rw [h] at z; cases z⟩, ⟨updG hg, List.prefix_rfl, fun a u e _ _ => ?_, fun a u e => ?_, fun a ha => .inl ha, fun a ha => ?_, tl_upd fun ps z => by rw [h] at z; cases z⟩⟩
  · by_cases e1 : a = p
    · subst e1; rw [upd_same] at e ⊢; exact e
    · rw [upd_ne e1] at e ⊢; exact s.sub a u e
  · rw [upd_ne (fun e : a = p => hp (by rw [← e]; exact ha))]; exact s.off a ha
  · refine (s.cell n c a h1 h2).keep (updG hg) List.prefix_rfl (fun u e => ?_) fun dx e e1 e2 => ?_
    · rw [upd_ne (ne_of_none e h)]; exact e
    · exact ⟨by rw [upd_ne (ne_of_none e h)]; exact e, by rw [upd_ne (ne_of_none e h)]; exact e2, e1⟩
  · rw [upd_ne (ne_of_none e h)]; exact e
  · by_cases e1 : a = p
    · subst e1; exact .inr h
    · rw [upd_ne e1] at e; exact .inl e
  · obtain ⟨u, e⟩ := s.there ha
    exact ⟨u, by rw [upd_ne (ne_of_none e h)]; exact e⟩
/-- a new thing that neither is frozen nor a cell -/
theorem Sim.other {o : HO} (s : Sim C Γ H φ st) (h : H p = none) (nt : NT o := by exact fun _ z => nomatch z) : Sim C Γ (upd H p o) φ st ∧ Ext Γ H φ Γ (upd H p o) φ := by
  refine ⟨⟨fun a u e => ?_, s.off, s.nd, s.len, fun n c a h1 h2 => ?_, tabs_new s.tb h, ta_new s.ta nt, s.tg⟩, ⟨fun _ _ e => e, List.prefix_rfl, fun a u e _ _ => ?_, fun _ _ e => .inl e, fun a ha => .inl ha, fun a ha => ?_, tl_upd fun ps z => by rw [h] at z; cases z⟩⟩
  · have := s.sub a u e
    rw [upd_ne (ne_of_none this h)]; exact this
  · refine (s.cell n c a h1 h2).keep (fun _ _ e => e) List.prefix_rfl (fun u e => ?_) fun dx e e1 e2 => ?_
    · rw [upd_ne (ne_of_none e h)]; exact e
    · exact ⟨by rw [upd_ne (ne_of_none e h)]; exact e, e2, e1⟩
  · rw [upd_ne (ne_of_none e h)]; exact e
  · obtain ⟨u, e⟩ := s.there ha
    exact ⟨u, by rw [upd_ne (ne_of_none e h)]; exact e⟩
/-- what stands, and is neither frozen nor a cell, is frozen from now on -/
theorem Sim.freeze {o : HO} (s : Sim C Γ H φ st) (h : H p = some o) (hn : p ∉ φ) (hg : Γ p = none) (ho : ∀ a, o ≠ .own a) (nt : NT o) : Sim C (upd Γ p o) H φ st := by
  refine ⟨fun a u e => ?_, fun a ha => ?_, s.nd, s.len, fun n c a h1 h2 => ?_, s.tb, s.ta, tg_new s fun ps z => nt ps (Option.some.inj (h.symm.trans z))⟩
  · by_cases e1 : a = p
    · subst e1; rw [upd_same] at e; rw [← e]; exact h
    · rw [upd_ne e1] at e; exact s.sub a u e
  · rw [upd_ne (fun e : a = p => hn (by rw [← e]; exact ha))]; exact s.off a ha
  · refine (s.cell n c a h1 h2).keep (updG hg) List.prefix_rfl (fun u e => e) fun dx e e1 e2 => ⟨e, ?_, e1⟩
    rw [upd_ne (fun q => ?_)]; exact e2
    subst q; rw [h] at e; exact ho _ (Option.some.inj e)
/-- .. is a cell from now on -/
theorem Sim.boxed {o : HO} {c : Cell} (s : Sim C Γ H φ st) (h : H p = some o) (hn : p ∉ φ) (hg : Γ p = none) (ho : ∀ a, o ≠ .own a) (hc : CellOk C Γ (φ ++ [p]) H c p) : Sim C Γ H (φ ++ [p]) (st ++ [c]) := by
  refine ⟨s.sub, fun a ha => ?_, ?_, by simp [s.len], fun n d a h1 h2 => ?_, s.tb, s.ta, s.tg⟩
  · rcases List.mem_append.mp ha with ha | ha
    · exact s.off a ha
    · rw [List.mem_singleton.mp ha]; exact hg
  · refine List.nodup_append.mpr ⟨s.nd, by simp, fun a ha b hb e => ?_⟩
    rw [List.mem_singleton] at hb
    subst hb; subst e
    exact hn ha
  · by_cases hl : n < st.length
    · rw [List.getElem?_append_left hl] at h1
      rw [List.getElem?_append_left (by rw [s.len]; exact hl)] at h2
      refine (s.cell n d a h1 h2).keep (fun _ _ e => e) (List.prefix_append _ _) (fun _ e => e) fun dx e e1 e2 => ⟨e, e2, fun q => ?_⟩
      rcases List.mem_append.mp q with q | q
      · exact e1 q
      · rw [List.mem_singleton.mp q, h] at e
        exact ho _ (Option.some.inj e)
    · have hn2 : n = st.length := by
        have := (List.getElem?_eq_some_iff.mp h1).1
        simp at this; omega
      subst hn2
      rw [List.getElem?_append_right (Nat.le_refl _)] at h1
      rw [List.getElem?_append_right (by rw [s.len]; exact Nat.le_refl _), s.len] at h2
      simp at h1 h2
      subst h1; subst h2
      exact hc
/-- a dict is no code object -/
theorem dat_ne {a c : Addr} {q : Str} {es : List DictEntry} : HO.ext (DAt a es) ≠ LamX.CodeO c q := fun z => by
  unfold LamX.CodeO at z
  have e := HO.ext.inj z
  let ob : Obj := { cls := .none, data := .fields #[.none, .str q 0] }
  let hh : Heap := { objs := Array.replicate (c + 1) ob }
  have hg : ∀ b o, hh.get? b = some o → o = ob := fun b o hb => by
    unfold Heap.get? at hb
    have : hh.objs[b]? = if b < c + 1 then some ob else none := by
      show (Array.replicate (c + 1) ob)[b]? = _
      rw [Array.getElem?_replicate]
    rw [this] at hb
    split at hb
    · cases hb
    · by_cases k : b < c + 1
      · rw [if_pos k] at hb; cases hb; rfl
      · rw [if_neg k] at hb; cases hb
  have hc : hh.get? c = some ob := by
    unfold Heap.get?
    have : hh.objs[c]? = some ob := by
      show (Array.replicate (c + 1) ob)[c]? = _
      rw [Array.getElem?_replicate, if_pos (by omega)]
    rw [this]
  have p1 : DAt a es hh := by
    rw [e]
    exact ⟨ob, #[.none, .str q 0], 0, hc, rfl, rfl⟩
  obtain ⟨_, o, ep, h1, _, h3⟩ := p1
  rw [hg a o h1] at h3
  cases h3
theorem cell_nt1 {c : Cell} {o : HO} (h : CellOk C Γ φ H c p) (e : H p = some o) : NT o := fun ps z => by
  subst z
  cases c with
  | lst l => obtain ⟨vs, h1, _⟩ := h; rw [e] at h1; cases h1
  | dct l => obtain ⟨vs, h1, _⟩ := h; rw [e] at h1; cases h1
  | ins k l => obtain ⟨dx, vs, h1, _⟩ := h; rw [e] at h1; cases h1
theorem Sim.cell_nt {n : Nat} (s : Sim C Γ H φ st) (ha : φ[n]? = some p) : ∀ ps, H p ≠ some (.tbl ps) := fun ps e => by
  have hn : n < st.length := by rw [← s.len]; exact (List.getElem?_eq_some_iff.mp ha).1
  exact cell_nt1 (s.cell n st[n] p (List.getElem?_eq_getElem hn) ha) e ps rfl
theorem Sim.cell_nc {n : Nat} (s : Sim C Γ H φ st) (ha : φ[n]? = some p) : ∀ q, H p ≠ some (LamX.CodeO p q) := fun q e => by
  have hn : n < st.length := by rw [← s.len]; exact (List.getElem?_eq_some_iff.mp ha).1
  have h := s.cell n st[n] p (List.getElem?_eq_getElem hn) ha
  cases k : st[n] with
  | lst l => rw [k] at h; obtain ⟨vs, h1, _⟩ := h; rw [e] at h1; cases h1
  | dct l => rw [k] at h; obtain ⟨vs, h1, _⟩ := h; rw [e] at h1; exact dat_ne (Option.some.inj h1).symm
  | ins j l => rw [k] at h; obtain ⟨dx, vs, h1, _⟩ := h; rw [e] at h1; cases h1
/-- a cell is written -/
theorem Sim.write {n : Nat} {o : HO} {c : Cell} (s : Sim C Γ H φ st) (ha : φ[n]? = some p) (ho : ∀ u, H p = some u → ∀ a, u ≠ .own a) (hc : CellOk C Γ φ (upd H p o) c p) : Sim C Γ (upd H p o) φ (st.set n c) ∧ Ext Γ H φ Γ (upd H p o) φ := by
  have hm : p ∈ φ := List.mem_of_getElem? ha
  have hn : n < st.length := by rw [← s.len]; exact (List.getElem?_eq_some_iff.mp ha).1
  have nt0 := s.cell_nt ha
  have nc0 := s.cell_nc ha
  have nt1 : NT o := cell_nt1 (H := upd H p o) hc upd_same
  refine ⟨⟨fun a u e => ?_, s.off, s.nd, by simp [s.len], fun m d a h1 h2 => ?_, fun x hx => ?_, ta_new s.ta nt1, s.tg⟩, ⟨fun _ _ e => e, List.prefix_rfl, fun a u e hna _ => ?_, fun _ _ e => .inl e, fun a h => .inl h, fun a h => ?_, tl_upd nt0⟩⟩
  · have hne : a ≠ p := fun q => by rw [q, s.off p hm] at e; cases e
    rw [upd_ne hne]; exact s.sub a u e
  · by_cases e : m = n
    · subst e
      rw [ha] at h2; cases h2
      rw [List.getElem?_set_self hn] at h1; cases h1
      exact hc
    · rw [List.getElem?_set_ne (Ne.symm e)] at h1
      have hne : a ≠ p := fun q => by
        subst q
        obtain ⟨i1, e1⟩ := List.getElem?_eq_some_iff.mp ha
        obtain ⟨i2, e2⟩ := List.getElem?_eq_some_iff.mp h2
        exact e ((List.getElem_inj s.nd).mp (e2.trans e1.symm))
      refine (s.cell m d a h1 h2).keep (fun _ _ e => e) List.prefix_rfl (fun u e => by rw [upd_ne hne]; exact e) fun dx e1 e2 e3 => ⟨?_, e3, e2⟩
      rw [upd_ne (fun q : dx = p => e2 (by rw [q]; exact hm))]; exact e1
  · obtain ⟨ps, e1, e2, e3⟩ := s.tb x hx
    refine ⟨ps, by rw [upd_ne (fun q : x.1 = p => nt0 ps (by rw [← q]; exact e1))]; exact e1, e2, fun pos cv hcv => ?_⟩
    obtain ⟨c', e4, e5⟩ := e3 pos cv hcv
    exact ⟨c', e4, by rw [upd_ne (fun q : c' = p => nc0 _ (by rw [← q]; exact e5))]; exact e5⟩
  · rw [upd_ne (fun q : a = p => hna (by rw [q]; exact hm))]; exact e
  · by_cases e : a = p
    · exact ⟨_, by rw [e]; exact upd_same⟩
    · obtain ⟨u, q⟩ := s.there h
      exact ⟨u, by rw [upd_ne e]; exact q⟩
end

theorem IsAll.length {C : Cf} {Γ : Hp} {φ : List Addr} : ∀ {ds : List D} {vs : List V}, IsAll C Γ φ ds vs → ds.length = vs.length
  | _, _, .nil => rfl
  | _, _, .cons _ t => by rw [List.length_cons, List.length_cons, IsAll.length t]
theorem IsAll.get {C : Cf} {Γ : Hp} {φ : List Addr} : ∀ {ds : List D} {vs : List V} {i : Nat} {d : D}, IsAll C Γ φ ds vs → ds[i]? = some d → ∃ v, vs[i]? = some v ∧ Is C Γ φ d v
  | _, _, _, _, .nil, e => by simp at e
  | _, _, 0, _, .cons h _, e => by simp at e; subst e; exact ⟨_, rfl, h⟩
  | _, _, i + 1, _, .cons _ t, e => by
    obtain ⟨v, h1, h2⟩ := IsAll.get (i := i) t (by simpa using e)
    exact ⟨v, by simpa using h1, h2⟩
theorem IsAll.append {C : Cf} {Γ : Hp} {φ : List Addr} : ∀ {ds es : List D} {vs ws : List V}, IsAll C Γ φ ds vs → IsAll C Γ φ es ws → IsAll C Γ φ (ds ++ es) (vs ++ ws)
  | _, _, _, _, .nil, h => h
  | _, _, _, _, .cons h t, q => .cons h (IsAll.append t q)
theorem IsAll.drop {C : Cf} {Γ : Hp} {φ : List Addr} : ∀ {ds : List D} {vs : List V} (n : Nat), IsAll C Γ φ ds vs → IsAll C Γ φ (ds.drop n) (vs.drop n)
  | _, _, 0, h => h
  | _, _, _ + 1, .nil => .nil
  | _, _, n + 1, .cons _ t => IsAll.drop n t
theorem IsAll.take {C : Cf} {Γ : Hp} {φ : List Addr} : ∀ {ds : List D} {vs : List V} (n : Nat), IsAll C Γ φ ds vs → IsAll C Γ φ (ds.take n) (vs.take n)
  | _, _, 0, _ => .nil
  | _, _, _ + 1, .nil => .nil
  | _, _, n + 1, .cons h t => .cons h (IsAll.take n t)
theorem IsAll.set {C : Cf} {Γ : Hp} {φ : List Addr} {d : D} {v : V} (q : Is C Γ φ d v) : ∀ {ds : List D} {vs : List V} (n : Nat), IsAll C Γ φ ds vs → IsAll C Γ φ (ds.set n d) (vs.set n v)
  | _, _, _, .nil => .nil
  | _, _, 0, .cons _ t => .cons q t
  | _, _, n + 1, .cons h t => .cons h (IsAll.set q n t)
theorem IsAll.reverse {C : Cf} {Γ : Hp} {φ : List Addr} : ∀ {ds : List D} {vs : List V}, IsAll C Γ φ ds vs → IsAll C Γ φ ds.reverse vs.reverse
  | _, _, .nil => .nil
  | _, _, .cons h t => by
    rw [List.reverse_cons, List.reverse_cons]
    exact (IsAll.reverse t).append (.cons h .nil)
theorem IsAll.rep {C : Cf} {Γ : Hp} {φ : List Addr} {ds : List D} {vs : List V} (h : IsAll C Γ φ ds vs) : ∀ k : Nat, IsAll C Γ φ (List.replicate k ds).flatten (List.replicate k vs).flatten
  | 0 => .nil
  | k + 1 => by
    rw [List.replicate_succ, List.replicate_succ, List.flatten_cons, List.flatten_cons]
    exact h.append (IsAll.rep h k)
/-- what stands for two values is one value only where both are -/
theorem IsAll.ints {C : Cf} {Γ : Hp} {φ : List Addr} : ∀ {ds : List D} {vs : List V} {ns : List Int}, IsAll C Γ φ ds vs → intsOf ds = some ns → vs = ns.map V.int
  | _, _, ns, .nil, e => by
    rw [intsOf] at e; cases e; rfl
  | d :: ds, _, ns, .cons h t, e => by
    cases h with
    | int i =>
      rw [intsOf] at e
      cases q : intsOf ds with
      | none => rw [q] at e; cases e
      | some l =>
        rw [q] at e; cases e
        rw [IsAll.ints t q]; rfl
    | _ => simp [intsOf] at e
theorem IsAll.bls {C : Cf} {Γ : Hp} {φ : List Addr} : ∀ {ds : List D} {vs : List V} {ns : List Bool}, IsAll C Γ φ ds vs → bls ds = some ns → vs = ns.map V.bl
  | _, _, ns, .nil, e => by
    rw [EV.bls] at e; cases e; rfl
  | d :: ds, _, ns, .cons h t, e => by
    cases h with
    | bl i =>
      rw [EV.bls] at e
      cases q : EV.bls ds with
      | none => rw [q] at e; cases e
      | some l =>
        rw [q] at e; cases e
        rw [IsAll.bls t q]; rfl
    | _ => simp [EV.bls] at e
end EV
/-! EV.3: expressions: what they come to, they do. -/
namespace EV
open PySem PySem.Spec PyProof.Rows L2

theorem PE.imp {X : Cx} {e : Expr} {t t' : TE} (h : PE X e t) (q : ∀ σ H Q, t' σ H Q → t σ H Q) : PE X e t' := ⟨fun pins s σ H Q I hw => h.run pins s σ H Q I (q σ H Q hw)⟩
theorem PT.imp {X : Cx} {e : Expr} {t t' : TT} (h : PT X e t) (q : ∀ σ H Q, t' σ H Q → t σ H Q) : PT X e t' := ⟨fun pins s σ H Q I hw => h.run pins s σ H Q I (q σ H Q hw)⟩
theorem PW.imp {X : Cx} {e : Expr} {t t' : TT} (h : PW X e t) (q : ∀ σ H Q, t' σ H Q → t σ H Q) : PW X e t' := ⟨fun wh pins s σ H Q I hw => h.run wh pins s σ H Q I (q σ H Q hw)⟩
theorem PA.imp {X : Cx} {e : List Expr} {t t' : TA} (h : PA X e t) (q : ∀ σ H Q, t' σ H Q → t σ H Q) : PA X e t' := ⟨fun pos pins s σ H Q I hw => h.run pos pins s σ H Q I (q σ H Q hw)⟩
theorem PS.imp {X : Cx} {e : Stmt} {t t' : TS} (h : PS X e t) (q : ∀ Dn σ H, t' Dn σ H → t Dn σ H) : PS X e t' := ⟨fun pins s σ H Dn I hw => h.run pins s σ H Dn I (q Dn σ H hw)⟩
theorem PSs.imp {X : Cx} {e : List Stmt} {t t' : TS} (h : PSs X e t) (q : ∀ Dn σ H, t' Dn σ H → t Dn σ H) : PSs X e t' := ⟨fun pins s σ H Dn I hw => h.run pins s σ H Dn I (q Dn σ H hw)⟩
theorem PG.imp {X : Cx} {e : Expr} {t t' : TG} (h : PG X e t) (q : ∀ v σ H Q, t' v σ H Q → t v σ H Q) : PG X e t' := ⟨fun pins s σ H v u Q I r hw => h.run pins s σ H v u Q I r (q v σ H Q hw)⟩
theorem PGs.imp {X : Cx} {e : List Expr} {t t' : TGs} (h : PGs X e t) (q : ∀ v σ H Q, t' v σ H Q → t v σ H Q) : PGs X e t' := ⟨fun pins s σ H v u Q I r hw => h.run pins s σ H v u Q I r (q v σ H Q hw)⟩
theorem PI.imp {X : Cx} {tg e : Expr} {t t' : TI} (h : PI X tg e t) (q : ∀ σ H Q, t' σ H Q → t σ H Q) : PI X tg e t' := ⟨fun pins s σ H Q I hw => h.run pins s σ H Q I (q σ H Q hw)⟩
theorem PO.imp {X : Cx} {e : Option Expr} {t t' : TO} (h : PO X e t) (q : ∀ σ H Q, t' σ H Q → t σ H Q) : PO X e t' := ⟨fun pins s σ H Q I hw => h.run pins s σ H Q I (q σ H Q hw)⟩

/-! ### the readings -/
def tD (C : Cf) (e : E) : TE := fun σ H Q => ∃ Γ φ st r d st', Sim C Γ H φ st ∧ EnvOk C Γ φ r σ ∧ e r st = some (d, st') ∧
  ∀ Γ' H' φ' v, Ext Γ H φ Γ' H' φ' → Sim C Γ' H' φ' st' → Is C Γ' φ' d v → Q v H'
def tB (C : Cf) (e : T) : TT := fun σ H Q => ∃ Γ φ st r b st', Sim C Γ H φ st ∧ EnvOk C Γ φ r σ ∧ e r st = some (b, st') ∧
  ∀ Γ' H' φ', Ext Γ H φ Γ' H' φ' → Sim C Γ' H' φ' st' → Q b H'
def tAs (C : Cf) (e : A) : TA := fun σ H Q => ∃ Γ φ st r ds st', Sim C Γ H φ st ∧ EnvOk C Γ φ r σ ∧ e r st = some (ds, st') ∧
  ∀ Γ' H' φ' vs, Ext Γ H φ Γ' H' φ' → Sim C Γ' H' φ' st' → IsAll C Γ' φ' ds vs → Q vs H'
/-- a new list, not yet spoken of -/
def tF (C : Cf) (e : E) : TE := fun σ H Q => ∃ Γ φ st r ds st', Sim C Γ H φ st ∧ EnvOk C Γ φ r σ ∧ e r st = some (.lst ds, st') ∧
  ∀ Γ' H' φ' a vs, Ext Γ H φ Γ' H' φ' → Sim C Γ' H' φ' st' → H a = none → H' a = some (.lst vs) → a ∉ φ' → Γ' a = none → IsAll C Γ' φ' ds vs → Q (.ref a) H'
abbrev SE (X : Cx) (cl : Cl) (e : Expr) (a : E) : Prop := PE X e (tD (cf X cl) a)
abbrev SF (X : Cx) (cl : Cl) (e : Expr) (a : E) : Prop := PE X e (tF (cf X cl) a)
abbrev ST (X : Cx) (cl : Cl) (e : Expr) (a : T) : Prop := PT X e (tB (cf X cl) a)
abbrev SW (X : Cx) (cl : Cl) (e : Expr) (a : T) : Prop := PW X e (tB (cf X cl) a)
abbrev SA (X : Cx) (cl : Cl) (e : List Expr) (a : A) : Prop := PA X e (tAs (cf X cl) a)
/-- by values -/
def rD (C : Cf) (f : Sto → D → D → Option D) : R2 := fun x y H Q => ∃ Γ φ st dx dy d, Sim C Γ H φ st ∧ Is C Γ φ dx x ∧ Is C Γ φ dy y ∧ f st dx dy = some d ∧
  ∀ Γ' H' φ' v, Ext Γ H φ Γ' H' φ' → Sim C Γ' H' φ' st → Is C Γ' φ' d v → Q v H'
def rF (C : Cf) (f : Sto → D → D → Option D) : R2 := fun x y H Q => ∃ Γ φ st dx dy ds, Sim C Γ H φ st ∧ Is C Γ φ dx x ∧ Is C Γ φ dy y ∧ f st dx dy = some (.lst ds) ∧
  ∀ Γ' H' φ' a vs, Ext Γ H φ Γ' H' φ' → Sim C Γ' H' φ' st → H a = none → H' a = some (.lst vs) → a ∉ φ' → Γ' a = none → IsAll C Γ' φ' ds vs → Q (.ref a) H'
def rU (C : Cf) (f : Sto → D → Option D) : V → Hp → VK → Prop := fun x H Q => ∃ Γ φ st dx d, Sim C Γ H φ st ∧ Is C Γ φ dx x ∧ f st dx = some d ∧
  ∀ Γ' H' φ' v, Ext Γ H φ Γ' H' φ' → Sim C Γ' H' φ' st → Is C Γ' φ' d v → Q v H'
def rC (C : Cf) (f : Sto → List D → Option D) : List V → Hp → VK → Prop := fun xs H Q => ∃ Γ φ st ds d, Sim C Γ H φ st ∧ IsAll C Γ φ ds xs ∧ f st ds = some d ∧
  ∀ Γ' H' φ' v, Ext Γ H φ Γ' H' φ' → Sim C Γ' H' φ' st → Is C Γ' φ' d v → Q v H'
def rCF (C : Cf) (f : Sto → List D → Option D) : List V → Hp → VK → Prop := fun xs H Q => ∃ Γ φ st ds es, Sim C Γ H φ st ∧ IsAll C Γ φ ds xs ∧ f st ds = some (.lst es) ∧
  ∀ Γ' H' φ' a vs, Ext Γ H φ Γ' H' φ' → Sim C Γ' H' φ' st → H a = none → H' a = some (.lst vs) → a ∉ φ' → Γ' a = none → IsAll C Γ' φ' es vs → Q (.ref a) H'

section
variable {X : Cx} {cl : Cl} {C : Cf}

/-- a new list is frozen -/
theorem freeze_ext {Γ H Γ' H' : Hp} {φ φ' : List Addr} {st : Sto} {a : Addr} {o : HO} (x : Ext Γ H φ Γ' H' φ') (s : Sim C Γ' H' φ' st) (h0 : H a = none) (h1 : H' a = some o) (h2 : a ∉ φ') (h3 : Γ' a = none) (ho : ∀ b, o ≠ .own b) (nt : NT o) :
    Ext Γ H φ (upd Γ' a o) H' φ' ∧ Sim C (upd Γ' a o) H' φ' st := by
  refine ⟨⟨fun b u e => updG h3 b u (x.gs b u e), x.ps, x.fr, fun b u e => ?_, x.pn, x.al, x.tl⟩, s.freeze h1 h2 h3 ho nt⟩
  by_cases e1 : b = a
  · subst e1; exact .inr h0
  · rw [upd_ne e1] at e; exact x.gn b u e
theorem lst_ne_own (vs : List V) : ∀ b, HO.lst vs ≠ .own b := fun _ e => nomatch e
/-- .. or a cell -/
theorem box_ext {Γ H Γ' H' : Hp} {φ φ' : List Addr} {st : Sto} {a : Addr} {o : HO} {c : Cell} (x : Ext Γ H φ Γ' H' φ') (s : Sim C Γ' H' φ' st) (h0 : H a = none) (h1 : H' a = some o) (h2 : a ∉ φ') (h3 : Γ' a = none) (ho : ∀ b, o ≠ .own b)
    (hc : CellOk C Γ' (φ' ++ [a]) H' c a) : Ext Γ H φ Γ' H' (φ' ++ [a]) ∧ Sim C Γ' H' (φ' ++ [a]) (st ++ [c]) := by
  refine ⟨⟨x.gs, x.ps.trans (List.prefix_append _ _), x.fr, x.gn, fun b hb => ?_, x.al, x.tl⟩, s.boxed h1 h2 h3 ho hc⟩
  rcases List.mem_append.mp hb with hb | hb
  · exact x.pn b hb
  · rw [List.mem_singleton.mp hb]; exact .inr h0
theorem cell_new {Γ : Hp} {φ : List Addr} {H : Hp} {a : Addr} {vs : List V} {ds : List D} (h : H a = some (.lst vs)) (q : IsAll C Γ φ ds vs) : CellOk C Γ (φ ++ [a]) H (.lst ds) a :=
  ⟨vs, h, q.mono (fun _ _ e => e) (List.prefix_append _ _)⟩

theorem tF_of {a : E} {σ : L2.St} {H : Hp} {Q : VK} (hl : ∀ r st d st', a r st = some (d, st') → ∃ l, d = .lst l) : tD C a σ H Q → tF C a σ H Q := by
  intro ⟨Γ, φ, st, r, d, st', s, en, ha, q⟩
  obtain ⟨l, rfl⟩ := hl _ _ _ _ ha
  refine ⟨Γ, φ, st, r, l, st', s, en, ha, fun Γ' H' φ' b vs x s' h0 h1 h2 h3 i => ?_⟩
  obtain ⟨x2, s2⟩ := freeze_ext x s' h0 h1 h2 h3 (lst_ne_own vs) (fun _ z => nomatch z)
  exact q _ _ _ _ x2 s2 (.lst upd_same (i.mono (updG h3) List.prefix_rfl))
theorem tF_new {a : E} {σ : L2.St} {H : Hp} {Q : VK} : tD C (eNew a) σ H Q → tF C a σ H Q := by
  intro ⟨Γ, φ, st, r, d, st', s, en, ha, q⟩
  unfold eNew at ha
  cases e1 : a r st with
  | none => rw [e1] at ha; cases ha
  | some x =>
    rw [e1] at ha
    obtain ⟨d1, st1⟩ := x
    cases d1 with
    | lst l =>
      have ha' : some (D.ref st1.length, st1 ++ [.lst l]) = some (d, st') := ha
      cases ha'
      refine ⟨Γ, φ, st, r, l, st1, s, en, e1, fun Γ' H' φ' b vs x s' h0 h1 h2 h3 i => ?_⟩
      obtain ⟨x2, s2⟩ := box_ext (c := .lst l) x s' h0 h1 h2 h3 (lst_ne_own vs) (cell_new h1 i)
      refine q _ _ _ _ x2 s2 (.ref ?_)
      rw [List.getElem?_append_right (by rw [s'.len]; exact Nat.le_refl _), s'.len]
      simp
    | _ => cases ha
theorem se_of_f {e : Expr} {a : E} (h : SF X cl e a) (hl : ∀ r st d st', a r st = some (d, st') → ∃ l, d = .lst l) : SE X cl e a := PE.imp h fun _ _ _ => tF_of hl
theorem se_new {e : Expr} {a : E} (h : SF X cl e a) : SE X cl e (eNew a) := PE.imp h fun _ _ _ => tF_new

/-! ### names, constants -/
theorem se_var {i : Nat} {x : Str} {pos : Pos} (hN : X.N[i]? = some x) (hv : Vis X.env.scope x) (hd : (x == ("__debug__" : Str)) = false := by decide) (hcd : (x == ("__classdict__" : Str)) = false := by decide) : SE X cl (.Name x pos) (eVar i) := by
  refine PE.imp (pe_var hN hv hd hcd) fun σ H Q ⟨Γ, φ, st, r, d, st', s, en, h, q⟩ => ?_
  unfold eVar at h
  split at h
  · rename_i d' e
    cases h
    obtain ⟨v, h1, h2⟩ := en.2 i _ e
    exact ⟨v, h1, q _ _ _ _ (.refl s) s h2⟩
  · cases h
theorem se_c {e : Expr} {d : D} {v : V} (h : PE X e (tC v)) (i : ∀ Γ φ, Is (cf X cl) Γ φ d v) : SE X cl e (eC d) := by
  refine PE.imp h fun σ H Q ⟨Γ, φ, st, r, d', st', s, en, h, q⟩ => ?_
  cases h
  exact q _ _ _ _ (.refl s) s (i _ _)
theorem se_int {i j pos} : SE X cl (.Constant (.int i) j pos) (eC (.int i)) := se_c pe_int fun _ _ => .int i
theorem se_bl {b j pos} : SE X cl (.Constant (.bool b) j pos) (eC (.bl b)) := se_c pe_bl fun _ _ => .bl b
theorem se_non {j pos} : SE X cl (.Constant .none j pos) (eC .non) := se_c pe_non fun _ _ => .non
theorem se_str {x j pos} : SE X cl (.Constant (.str x) j pos) (eC (.str x)) := se_c pe_str fun _ _ => .str x
/-- a module's constant -/
theorem se_gint {x : Str} {i : Int} {t : Tok} {pos : Pos} (hg : Gl X x) (hm : X.mg x = some (.int i t)) (hd : (x == ("__debug__" : Str)) = false := by decide) : SE X cl (.Name x pos) (eC (.int i)) :=
  se_c (v := .int i) (pe_glob hg hm ⟨t, rfl⟩ hd) fun _ _ => .int i

/-! ### argument lists, displays -/
theorem sa_nil : SA X cl [] aNil := PA.imp pa_nil fun σ H Q ⟨Γ, φ, st, r, ds, st', s, en, h, q⟩ => by
  cases h
  exact q _ _ _ _ (.refl s) s .nil
theorem sa_cons {e : Expr} {es : List Expr} {a : E} {b : A} (ha : SE X cl e a) (hb : SA X cl es b) (hs : starEach (e :: es) X.env = (false, eval e X.env) :: starEach es X.env := by rfl) : SA X cl (e :: es) (aCons a b) := by
  refine PA.imp (pa_cons ha hb hs) fun σ H Q ⟨Γ, φ, st, r, ds, st', s, en, h, q⟩ => ?_
  unfold aCons at h
  obtain ⟨x, h1, h⟩ := Option.bind_eq_some_iff.mp h
  obtain ⟨y, h2, h⟩ := Option.bind_eq_some_iff.mp h
  cases h
  exact ⟨Γ, φ, st, r, x.1, x.2, s, en, h1, fun Γ1 H1 φ1 v x1 s1 i1 => ⟨Γ1, φ1, x.2, r, y.1, y.2, s1, x1.env en, h2, fun Γ2 H2 φ2 vs x2 s2 i2 => q _ _ _ _ (x1.trans x2) s2 (.cons (x2.is i1) i2)⟩⟩
theorem se_tup {es : List Expr} {a : A} {k : Nat} {pos : Pos} (h : SA X cl es a) : SE X cl (.Tuple es k pos) (eTup a) := by
  refine PE.imp (pe_tup h) fun σ H Q ⟨Γ, φ, st, r, d, st', s, en, h, q⟩ => ?_
  unfold eTup at h
  obtain ⟨x, h1, h⟩ := Option.bind_eq_some_iff.mp h
  split at h
  · rename_i hl
    cases h
    refine ⟨Γ, φ, st, r, x.1, x.2, s, en, h1, fun Γ1 H1 φ1 vs x1 s1 i1 => ⟨by rw [← i1.length]; exact hl, fun p hp => ?_⟩⟩
    obtain ⟨s2, x2⟩ := s1.frozen (o := .tup vs) hp
    exact q _ _ _ _ (x1.trans x2) s2 (.tup upd_same (x2.all i1))
  · cases h
theorem sf_lst {es : List Expr} {a : A} {pos : Pos} (h : SA X cl es a) : SF X cl (.List es pos) (eLst a) := by
  refine PE.imp (pe_lst h) fun σ H Q ⟨Γ, φ, st, r, d, st', s, en, h, q⟩ => ?_
  unfold eLst at h
  obtain ⟨x, h1, h⟩ := Option.bind_eq_some_iff.mp h
  split at h
  · rename_i hl
    cases h
    refine ⟨Γ, φ, st, r, x.1, x.2, s, en, h1, fun Γ1 H1 φ1 vs x1 s1 i1 => ⟨by rw [← i1.length]; exact hl, fun p hp => ?_⟩⟩
    obtain ⟨s2, x2⟩ := s1.other (o := .lst vs) hp
    exact q _ _ _ _ _ (x1.trans x2) s2 (x1.new hp) upd_same (s1.notIn hp) (s1.fresh hp) i1
  · cases h
theorem lst_eLst {a : A} : ∀ r st d st', eLst a r st = some (d, st') → ∃ l, d = .lst l := fun r st d st' h => by
  unfold eLst at h
  obtain ⟨x, h1, h⟩ := Option.bind_eq_some_iff.mp h
  split at h
  · cases h; exact ⟨_, rfl⟩
  · cases h
theorem se_lst {es : List Expr} {a : A} {pos : Pos} (h : SA X cl es a) : SE X cl (.List es pos) (eLst a) := se_of_f (sf_lst h) lst_eLst

/-! ### operators by values -/
variable {f g : Sto → D → D → Option D} {a b c : Expr} {ea eb ec : E} {pos : Pos}
theorem op_imp {fv : Value → Value → Sem Value} {r r' : R2} (h : OpR X fv r) (q : ∀ x y H Q, r' x y H Q → r x y H Q) : OpR X fv r' := fun pins s σ H x y v u Q I rx ry w => h pins s σ H x y v u Q I rx ry (q _ _ _ _ w)
theorem top_of {σ : L2.St} {H : Hp} {Q : VK} (h : tD C (eOp f ea eb) σ H Q) : tOp (rD C f) (tD C ea) (tD C eb) σ H Q := by
  obtain ⟨Γ, φ, st, r, d, st', s, en, h, q⟩ := h
  unfold eOp at h
  obtain ⟨x, h1, h⟩ := Option.bind_eq_some_iff.mp h
  obtain ⟨y, h2, h⟩ := Option.bind_eq_some_iff.mp h
  obtain ⟨z, h3, h⟩ := Option.bind_eq_some_iff.mp h
  cases h
  exact ⟨Γ, φ, st, r, x.1, x.2, s, en, h1, fun Γ1 H1 φ1 v x1 s1 i1 => ⟨Γ1, φ1, x.2, r, y.1, y.2, s1, x1.env en, h2, fun Γ2 H2 φ2 w x2 s2 i2 =>
    ⟨Γ2, φ2, y.2, x.1, y.1, _, s2, x2.is i1, i2, h3, fun Γ3 H3 φ3 u x3 s3 i3 => q _ _ _ _ ((x1.trans x2).trans x3) s3 i3⟩⟩⟩
theorem topF_of {σ : L2.St} {H : Hp} {Q : VK} (h : tF C (eOp f ea eb) σ H Q) : tOp (rF C f) (tD C ea) (tD C eb) σ H Q := by
  obtain ⟨Γ, φ, st, r, d, st', s, en, h, q⟩ := h
  unfold eOp at h
  obtain ⟨x, h1, h⟩ := Option.bind_eq_some_iff.mp h
  obtain ⟨y, h2, h⟩ := Option.bind_eq_some_iff.mp h
  obtain ⟨z, h3, h⟩ := Option.bind_eq_some_iff.mp h
  cases h
  exact ⟨Γ, φ, st, r, x.1, x.2, s, en, h1, fun Γ1 H1 φ1 v x1 s1 i1 => ⟨Γ1, φ1, x.2, r, y.1, y.2, s1, x1.env en, h2, fun Γ2 H2 φ2 w x2 s2 i2 =>
    ⟨Γ2, φ2, y.2, x.1, y.1, _, s2, x2.is i1, i2, h3, fun Γ3 H3 φ3 u vs x3 s3 n0 n1 n2 n3 i3 => q _ _ _ _ _ ((x1.trans x2).trans x3) s3 (x1.new (x2.new n0)) n1 n2 n3 i3⟩⟩⟩
theorem se_bin {op : Operator} (ho : OpR X (binaryOp op) (rD (cf X cl) f)) (ha : SE X cl a ea) (hb : SE X cl b eb) : SE X cl (.BinOp a op b pos) (eOp f ea eb) := PE.imp (pe_op ho ha hb) fun _ _ _ h => top_of h
theorem sf_bin {op : Operator} (ho : OpR X (binaryOp op) (rF (cf X cl) f)) (ha : SE X cl a ea) (hb : SE X cl b eb) : SF X cl (.BinOp a op b pos) (eOp f ea eb) := PE.imp (pe_op ho ha hb) fun _ _ _ h => topF_of h
/-- an answer of ints alone, the heap as it was -/
theorem rD_fin {H : Hp} {Q : VK} {x y : V} (h : rD C f x y H Q) : ∃ Γ φ st dx dy d, Sim C Γ H φ st ∧ Is C Γ φ dx x ∧ Is C Γ φ dy y ∧ f st dx dy = some d ∧ ∀ v, Is C Γ φ d v → Q v H := by
  obtain ⟨Γ, φ, st, dx, dy, d, s, i1, i2, h, q⟩ := h
  exact ⟨Γ, φ, st, dx, dy, d, s, i1, i2, h, fun v i => q _ _ _ _ (.refl s) s i⟩
/-- a list's own object -/
theorem asL_at {Γ H : Hp} {φ : List Addr} {st : Sto} {d : D} {l : List D} {v : V} (s : Sim C Γ H φ st) (h : asL st d = some l) (i : Is C Γ φ d v) : ∃ a vs, v = .ref a ∧ H a = some (.lst vs) ∧ IsAll C Γ φ l vs := by
  cases i with
  | @lst a vs ds e q =>
    have h' : some ds = some l := h
    cases h'; exact ⟨_, _, rfl, s.sub _ _ e, q⟩
  | @ref n a e =>
    have h' : (match st[n]? with | some (.lst l) => some l | _ => none) = some l := h
    split at h'
    · rename_i l' e'
      cases h'
      obtain ⟨vs, h1, h2⟩ := s.cell _ _ _ e' e
      exact ⟨_, _, rfl, h1, h2⟩
    · cases h'
  | _ => exact nomatch h
theorem asSeq_at {Γ H : Hp} {φ : List Addr} {st : Sto} {d : D} {l : List D} {v : V} (s : Sim C Γ H φ st) (h : asSeq st d = some l) (i : Is C Γ φ d v) : ∃ a vs, v = .ref a ∧ (SqL C.K H a vs ∨ SqT C.K H a vs) ∧ IsAll C Γ φ l vs := by
  cases i with
  | tup e q => cases h; exact ⟨_, _, rfl, .inr (SqT.of (s.sub _ _ e)), q⟩
  | scr e =>
    cases h
    refine ⟨_, _, rfl, .inl (sql_mono s.sub e), ?_⟩
    rename_i l
    clear e
    induction l with
    | nil => exact .nil
    | cons x r ih => exact .cons (.int x) ih
  | lst e q => cases h; exact ⟨_, _, rfl, .inl (SqL.of (s.sub _ _ e)), q⟩
  | ref e =>
    obtain ⟨a, vs, h1, h2, h3⟩ := asL_at s (show asL st (.ref _) = some l from h) (.ref e)
    exact ⟨a, vs, h1, .inl (SqL.of h2), h3⟩
  | _ => cases h
end
end EV
/-! EV.4: operators. -/
namespace EV
open PySem PySem.Spec PyProof.Rows L2
section
variable {X : Cx} {cl : Cl}
theorem op_subD : OpR X (binaryOp .Sub) (rD (cf X cl) oSub) := by
  refine op_imp op_sub fun x y H Q h0 => ?_
  obtain ⟨Γ, φ, st, dx, dy, d, s, i1, i2, h, q⟩ := rD_fin h0
  unfold oSub at h
  split at h
  · cases i1; cases i2; cases h
    exact ⟨_, _, rfl, rfl, q _ (.int _)⟩
  · cases h
theorem op_divD : OpR X (binaryOp .FloorDiv) (rD (cf X cl) oDiv) := by
  refine op_imp op_fdivW fun x y H Q h0 => ?_
  obtain ⟨Γ, φ, st, dx, dy, d, s, i1, i2, h, q⟩ := rD_fin h0
  unfold oDiv at h
  split at h
  · cases i1; cases i2
    split at h
    · rename_i hc
      cases h
      exact ⟨_, _, rfl, rfl, hc, q _ (.int _)⟩
    · cases h
  · cases h
theorem op_modD : OpR X (binaryOp .Mod) (rD (cf X cl) oMod) := by
  refine op_imp op_mod fun x y H Q h0 => ?_
  obtain ⟨Γ, φ, st, dx, dy, d, s, i1, i2, h, q⟩ := rD_fin h0
  unfold oMod at h
  split at h
  · cases i1; cases i2
    split at h
    · rename_i hc
      cases h
      exact ⟨_, _, rfl, rfl, hc, q _ (.int _)⟩
    · cases h
  · cases h
theorem op_powD : OpR X (binaryOp .Pow) (rD (cf X cl) oPow) := by
  refine op_imp op_pow fun x y H Q h0 => ?_
  obtain ⟨Γ, φ, st, dx, dy, d, s, i1, i2, h, q⟩ := rD_fin h0
  unfold oPow at h
  split at h
  · cases i1; cases i2
    split at h
    · rename_i hc
      cases h
      exact ⟨_, _, rfl, rfl, hc, q _ (.int _)⟩
    · cases h
  · cases h
theorem op_shlD : OpR X (binaryOp .LShift) (rD (cf X cl) oShl) := by
  refine op_imp op_shl fun x y H Q h0 => ?_
  obtain ⟨Γ, φ, st, dx, dy, d, s, i1, i2, h, q⟩ := rD_fin h0
  unfold oShl at h
  split at h
  · cases i1; cases i2
    split at h
    · rename_i hc
      cases h
      exact ⟨_, _, rfl, rfl, hc, q _ (.int _)⟩
    · cases h
  · cases h
theorem op_shrD : OpR X (binaryOp .RShift) (rD (cf X cl) oShr) := by
  refine op_imp op_shr fun x y H Q h0 => ?_
  obtain ⟨Γ, φ, st, dx, dy, d, s, i1, i2, h, q⟩ := rD_fin h0
  unfold oShr at h
  split at h
  · cases i1; cases i2
    split at h
    · rename_i hc
      cases h
      exact ⟨_, _, rfl, rfl, hc, q _ (.int _)⟩
    · cases h
  · cases h
theorem op_andD : OpR X (binaryOp .BitAnd) (rD (cf X cl) oAnd) := by
  refine op_imp op_and fun x y H Q h0 => ?_
  obtain ⟨Γ, φ, st, dx, dy, d, s, i1, i2, h, q⟩ := rD_fin h0
  unfold oAnd at h
  split at h
  · cases i1; cases i2; cases h
    exact ⟨_, _, rfl, rfl, q _ (.int _)⟩
  · cases h
theorem op_orD : OpR X (binaryOp .BitOr) (rD (cf X cl) oOr) := by
  refine op_imp op_or fun x y H Q h0 => ?_
  obtain ⟨Γ, φ, st, dx, dy, d, s, i1, i2, h, q⟩ := rD_fin h0
  unfold oOr at h
  split at h
  · cases i1; cases i2; cases h
    exact ⟨_, _, rfl, rfl, q _ (.int _)⟩
  · cases h
theorem un_negD : UnR X (unaryOp .USub) (rU (cf X cl) oNeg) := fun pins s σ H x v Q I rx h => by
  obtain ⟨Γ, φ, st, dx, d, sm, i1, h, q⟩ := h
  unfold oNeg at h
  split at h
  · cases i1; cases h
    exact un_neg pins s σ H _ v Q I rx ⟨_, rfl, q _ _ _ _ (.refl sm) sm (.int _)⟩
  · cases h
theorem se_neg {a : Expr} {ea : E} {pos : Pos} (ha : SE X cl a ea) : SE X cl (.UnaryOp .USub a pos) (eUn oNeg ea) := by
  refine PE.imp (pe_un (un_negD (cl := cl)) ha) fun σ H Q ⟨Γ, φ, st, r, d, st', s, en, h, q⟩ => ?_
  unfold eUn at h
  obtain ⟨x, h1, h⟩ := Option.bind_eq_some_iff.mp h
  obtain ⟨z, h2, h⟩ := Option.bind_eq_some_iff.mp h
  cases h
  exact ⟨Γ, φ, st, r, x.1, x.2, s, en, h1, fun Γ1 H1 φ1 v x1 s1 i1 => ⟨Γ1, φ1, x.2, x.1, _, s1, i1, h2, fun Γ2 H2 φ2 u x2 s2 i2 => q _ _ _ _ (x1.trans x2) s2 i2⟩⟩

/-! ### + -/
theorem cat_lists {st : Sto} {a b : D} {l m : List D} (ha : asL st a = some l) (hb : asL st b = some m) : OpR X (binaryOp .Add) (fun x y H Q => ∃ Γ φ, Sim (cf X cl) Γ H φ st ∧ Is (cf X cl) Γ φ a x ∧ Is (cf X cl) Γ φ b y ∧ l.length + m.length ≤ LIM ∧
    ∀ p vs, H p = none → IsAll (cf X cl) Γ φ (l ++ m) vs → Q (.ref p) (upd H p (.lst vs))) := by
  refine op_imp op_cat fun x y H Q ⟨Γ, φ, s, i1, i2, hl, q⟩ => ?_
  obtain ⟨a1, vs, rfl, e1, q1⟩ := asL_at s ha i1
  obtain ⟨a2, ws, rfl, e2, q2⟩ := asL_at s hb i2
  exact ⟨a1, a2, vs, ws, rfl, rfl, e1, e2, by rw [← q1.length, ← q2.length]; exact hl, fun p hp => q p _ hp (q1.append q2)⟩
theorem op_addD : OpR X (binaryOp .Add) (rD (cf X cl) oAdd) := by
  intro pins s σ H x y v u Q I rx ry h
  obtain ⟨Γ, φ, st, dx, dy, d, sm, i1, i2, h, q⟩ := h
  unfold oAdd at h
  split at h
  · cases i1; cases i2; cases h
    exact op_add pins s σ H _ _ v u Q I rx ry ⟨_, _, rfl, rfl, q _ _ _ _ (.refl sm) sm (.int _)⟩
  · rename_i l m
    split at h
    · rename_i hl
      cases h
      cases i1 with
      | tup e1 q1 =>
        cases i2 with
        | tup e2 q2 =>
          refine op_catA pins s σ H _ _ v u Q I rx ry ⟨_, _, _, _, rfl, rfl, SqT.of (sm.sub _ _ e1), SqT.of (sm.sub _ _ e2), by rw [← q1.length, ← q2.length]; exact hl, fun z => ?_, fun z1 z2 => ?_, fun z1 z2 p hp => ?_⟩
          · subst z
            cases q1
            exact q _ _ _ _ (.refl sm) sm (.tup e2 q2)
          · subst z2
            cases q2
            refine q _ _ _ _ (.refl sm) sm (.tup e1 ?_)
            rw [List.append_nil]; exact q1
          · obtain ⟨s2, x2⟩ := sm.frozen (o := .tup _) hp
            exact q _ _ _ _ x2 s2 (.tup upd_same (x2.all (q1.append q2)))
    · cases h
  · split at h
    · rename_i hl
      cases h
      cases i1; cases i2
      exact op_add_str pins s σ H _ _ v u Q I rx ry ⟨_, _, rfl, rfl, hl, q _ _ _ _ (.refl sm) sm (.str _)⟩
    · cases h
  · obtain ⟨l, h1, h⟩ := Option.bind_eq_some_iff.mp h
    obtain ⟨m, h2, h⟩ := Option.bind_eq_some_iff.mp h
    split at h
    · rename_i hl
      cases h
      refine cat_lists h1 h2 pins s σ H x y v u Q I rx ry ⟨Γ, φ, sm, i1, i2, hl, fun p vs hp i3 => ?_⟩
      obtain ⟨s2, x2⟩ := sm.frozen (o := .lst vs) hp
      exact q _ _ _ _ x2 s2 (.lst upd_same (x2.all i3))
    · cases h
theorem op_addF : OpR X (binaryOp .Add) (rF (cf X cl) oAdd) := by
  intro pins s σ H x y v u Q I rx ry h
  obtain ⟨Γ, φ, st, dx, dy, d, sm, i1, i2, h, q⟩ := h
  unfold oAdd at h
  split at h
  · cases h
  · split at h <;> cases h
  · split at h <;> cases h
  · obtain ⟨l, h1, h⟩ := Option.bind_eq_some_iff.mp h
    obtain ⟨m, h2, h⟩ := Option.bind_eq_some_iff.mp h
    split at h
    · rename_i hl
      cases h
      refine cat_lists h1 h2 pins s σ H x y v u Q I rx ry ⟨Γ, φ, sm, i1, i2, hl, fun p vs hp i3 => ?_⟩
      obtain ⟨s2, x2⟩ := sm.other (o := .lst vs) hp
      exact q _ _ _ _ _ x2 s2 hp upd_same (sm.notIn hp) (sm.fresh hp) i3
    · cases h
end
end EV
/-! EV.5: products, comparisons, places. -/
namespace EV
open PySem PySem.Spec PyProof.Rows L2
section
variable {X : Cx} {cl : Cl}
theorem op_mulI : OpR X (binaryOp .Mult) (rI MulOk fun i j => .int (i * j)) := fun pins s σ H x y v u Q I rx ry h => by
  obtain ⟨i, j, rfl, rfl, hc, q⟩ := h
  rcases hc with hc | hc | hc
  · exact op_mul pins s σ H _ _ v u Q I rx ry ⟨i, j, rfl, rfl, .inl hc, q⟩
  · exact op_mul pins s σ H _ _ v u Q I rx ry ⟨i, j, rfl, rfl, .inr hc, q⟩
  · exact op_mulW pins s σ H _ _ v u Q I rx ry ⟨i, j, rfl, rfl, hc, q⟩
theorem rep_list {st : Sto} {a : D} {l : List D} {k : Int} (ha : asL st a = some l) : OpR X (binaryOp .Mult) (fun x y H Q => ∃ Γ φ, Sim (cf X cl) Γ H φ st ∧ Is (cf X cl) Γ φ a x ∧ Is (cf X cl) Γ φ (.int k) y ∧ 0 ≤ k ∧ k < 1000000 ∧ l.length * k.toNat ≤ LIM ∧
    ∀ p vs, H p = none → IsAll (cf X cl) Γ φ (List.replicate k.toNat l).flatten vs → Q (.ref p) (upd H p (.lst vs))) := by
  refine op_imp op_rep fun x y H Q ⟨Γ, φ, s, i1, i2, h0, h1, hl, q⟩ => ?_
  obtain ⟨a1, vs, rfl, e1, q1⟩ := asL_at s ha i1
  cases i2
  exact ⟨a1, k, vs, rfl, rfl, e1, by omega, by omega, by rw [← q1.length]; exact hl, fun p hp => q p _ hp (q1.rep _)⟩
theorem op_mulD : OpR X (binaryOp .Mult) (rD (cf X cl) oMul) := by
  intro pins s σ H x y v u Q I rx ry h
  obtain ⟨Γ, φ, st, dx, dy, d, sm, i1, i2, h, q⟩ := h
  unfold oMul at h
  split at h
  · cases i1; cases i2
    split at h
    · rename_i hc
      cases h
      exact op_mulI pins s σ H _ _ v u Q I rx ry ⟨_, _, rfl, rfl, hc, q _ _ _ _ (.refl sm) sm (.int _)⟩
    · cases h
  · split at h
    · rename_i hc
      cases h
      cases i2
      cases i1 with
      | tup e1 q1 =>
        obtain ⟨c1, c2, c3, c4⟩ := hc
        have hl := q1.length
        refine op_repT pins s σ H _ _ v u Q I rx ry ⟨_, _, _, rfl, rfl, SqT.of (sm.sub _ _ e1), fun z => by rw [z] at hl; rw [hl] at c1; exact absurd c1 (by simp), c2, c3, by rw [← hl]; exact c4, fun p hp => ?_⟩
        obtain ⟨s2, x2⟩ := sm.frozen (o := .tup _) hp
        exact q _ _ _ _ x2 s2 (.tup upd_same (x2.all (q1.rep _)))
    · cases h
  · obtain ⟨l, h1, h⟩ := Option.bind_eq_some_iff.mp h
    split at h
    · rename_i hc
      cases h
      refine rep_list h1 pins s σ H x y v u Q I rx ry ⟨Γ, φ, sm, i1, i2, hc.1, hc.2.1, hc.2.2, fun p vs hp i3 => ?_⟩
      obtain ⟨s2, x2⟩ := sm.frozen (o := .lst vs) hp
      exact q _ _ _ _ x2 s2 (.lst upd_same (x2.all i3))
    · cases h
  · cases h
theorem op_mulF : OpR X (binaryOp .Mult) (rF (cf X cl) oMul) := by
  intro pins s σ H x y v u Q I rx ry h
  obtain ⟨Γ, φ, st, dx, dy, d, sm, i1, i2, h, q⟩ := h
  unfold oMul at h
  split at h
  · split at h <;> cases h
  · split at h <;> cases h
  · obtain ⟨l, h1, h⟩ := Option.bind_eq_some_iff.mp h
    split at h
    · rename_i hc
      cases h
      refine rep_list h1 pins s σ H x y v u Q I rx ry ⟨Γ, φ, sm, i1, i2, hc.1, hc.2.1, hc.2.2, fun p vs hp i3 => ?_⟩
      obtain ⟨s2, x2⟩ := sm.other (o := .lst vs) hp
      exact q _ _ _ _ _ x2 s2 hp upd_same (sm.notIn hp) (sm.fresh hp) i3
    · cases h
  · cases h

/-! ### data -/
mutual
theorem is_dp {C : Cf} {Γ H : Hp} {φ : List Addr} (sub : ∀ a o, Γ a = some o → H a = some o) : ∀ {d : D} {v : V}, Is C Γ φ d v → d.dat = true → Dp C.K H v d.py
  | _, _, .non, _ => .non
  | _, _, .bl b, _ => .bl b
  | _, _, .int i, _ => .int i
  | _, _, .str x, _ => .str x
  | _, _, .tup e q, h => .tup (SqT.of (sub _ _ e)) (all_dp sub q (by simpa [D.dat] using h))
  | _, _, .lst e q, h => .lst (SqL.of (sub _ _ e)) (all_dp sub q (by simpa [D.dat] using h))
  | _, _, .ref e, h => by simp [D.dat] at h
  | _, _, .scr e, h => by simp [D.dat] at h
theorem all_dp {C : Cf} {Γ H : Hp} {φ : List Addr} (sub : ∀ a o, Γ a = some o → H a = some o) : ∀ {ds : List D} {vs : List V}, IsAll C Γ φ ds vs → datAll ds = true → DpAll C.K H vs (pyAll ds)
  | _, _, .nil, _ => .nil
  | _, _, .cons i q, h => by
    rw [datAll, Bool.and_eq_true] at h
    exact .cons (is_dp sub i h.1) (all_dp sub q h.2)
end
theorem seen_dp {C : Cf} {Γ H : Hp} {φ : List Addr} {st : Sto} {d : D} {v : V} (s : Sim C Γ H φ st) (i : Is C Γ φ d v) (h : (seen st d).dat = true) : Dp C.K H v (seen st d).py := by
  cases i with
  | @ref n a e =>
    unfold seen at h ⊢
    cases q : st[n]? with
    | none => simp only [q] at h; simp [D.dat] at h
    | some c =>
      cases c with
      | lst l =>
        simp only [q] at h ⊢
        obtain ⟨vs, h1, h2⟩ := s.cell _ _ _ q e
        exact .lst (SqL.of h1) (all_dp s.sub h2 (by simpa [D.dat] using h))
      | dct l => simp only [q] at h; simp [D.dat] at h
      | ins c f => simp only [q] at h; simp [D.dat] at h
  | non => exact .non
  | bl b => exact .bl b
  | int i => exact .int i
  | str x => exact .str x
  | tup e q => exact is_dp s.sub (.tup e q) h
  | lst e q => exact is_dp s.sub (.lst e q) h
  | scr e => exact absurd h (by simp [seen, D.dat])

theorem op_eqDD {k : Nat} (hr : Room k X.A) : OpR X (compareOp .Eq) (rD (cf X cl) oEq) := by
  intro pins s σ H x y v u Q I rx ry h0
  obtain ⟨Γ, φ, st, dx, dy, d, sm, i1, i2, h, q⟩ := rD_fin h0
  unfold oEq at h
  split at h
  · cases i1; cases i2; cases h
    exact op_eq pins s σ H _ _ v u Q I rx ry ⟨rfl, q _ (by simpa using Is.bl _)⟩
  · cases i1; cases i2; cases h
    exact op_eq pins s σ H _ _ v u Q I rx ry ⟨rfl, q _ (by simpa using Is.bl _)⟩
  · split at h
    · rename_i hc
      cases h
      obtain ⟨c1, c2⟩ := hc
      unfold D.shp at c1 c2
      rw [Bool.and_eq_true] at c1 c2
      exact op_eqD hr.units pins s σ H _ _ v u Q I rx ry ⟨_, _, seen_dp sm i1 c1.1, seen_dp sm i2 c2.1, c1.2, c2.2, q _ (.bl _)⟩
    · cases h
theorem op_neDD {k : Nat} (hr : Room k X.A) : OpR X (compareOp .NotEq) (rD (cf X cl) oNe) := by
  intro pins s σ H x y v u Q I rx ry h0
  obtain ⟨Γ, φ, st, dx, dy, d, sm, i1, i2, h, q⟩ := rD_fin h0
  unfold oNe at h
  split at h
  · cases i1; cases i2; cases h
    exact op_ne pins s σ H _ _ v u Q I rx ry ⟨rfl, q _ (by simpa using Is.bl _)⟩
  · cases i1; cases i2; cases h
    exact op_ne pins s σ H _ _ v u Q I rx ry ⟨rfl, q _ (by simpa using Is.bl _)⟩
  · split at h
    · rename_i hc
      cases h
      obtain ⟨c1, c2⟩ := hc
      unfold D.shp at c1 c2
      rw [Bool.and_eq_true] at c1 c2
      exact op_neD hr.units pins s σ H _ _ v u Q I rx ry ⟨_, _, seen_dp sm i1 c1.1, seen_dp sm i2 c2.1, c1.2, c2.2, q _ (.bl _)⟩
    · cases h
theorem op_ltD {k : Nat} (hr : Room k X.A) : OpR X (compareOp .Lt) (rD (cf X cl) oLt) := by
  intro pins s σ H x y v u Q I rx ry h0
  obtain ⟨Γ, φ, st, dx, dy, d, sm, i1, i2, h, q⟩ := rD_fin h0
  unfold oLt at h
  split at h
  · cases i1; cases i2; cases h
    exact op_lt pins s σ H _ _ v u Q I rx ry ⟨_, _, rfl, rfl, q _ (.bl _)⟩
  · obtain ⟨ns, h1, h⟩ := Option.bind_eq_some_iff.mp h
    obtain ⟨ms, h2, h⟩ := Option.bind_eq_some_iff.mp h
    cases h
    cases i1 with
    | tup e1 q1 =>
      cases i2 with
      | tup e2 q2 =>
        have z1 := q1.ints h1
        have z2 := q2.ints h2
        subst z1; subst z2
        exact op_ltT hr.units0 pins s σ H _ _ v u Q I rx ry ⟨_, _, _, _, rfl, rfl, SqT.of (sm.sub _ _ e1), SqT.of (sm.sub _ _ e2), q _ (.bl _)⟩
  · cases h
theorem op_leD : OpR X (compareOp .LtE) (rD (cf X cl) oLe) := by
  refine op_imp op_le fun x y H Q h0 => ?_
  obtain ⟨Γ, φ, st, dx, dy, d, s, i1, i2, h, q⟩ := rD_fin h0
  unfold oLe at h
  split at h
  · cases i1; cases i2; cases h
    exact ⟨_, _, rfl, rfl, q _ (.bl _)⟩
  · cases h
theorem op_gtD : OpR X (compareOp .Gt) (rD (cf X cl) oGt) := by
  refine op_imp op_gt fun x y H Q h0 => ?_
  obtain ⟨Γ, φ, st, dx, dy, d, s, i1, i2, h, q⟩ := rD_fin h0
  unfold oGt at h
  split at h
  · cases i1; cases i2; cases h
    exact ⟨_, _, rfl, rfl, q _ (.bl _)⟩
  · cases h
theorem op_geD : OpR X (compareOp .GtE) (rD (cf X cl) oGe) := by
  refine op_imp op_ge fun x y H Q h0 => ?_
  obtain ⟨Γ, φ, st, dx, dy, d, s, i1, i2, h, q⟩ := rD_fin h0
  unfold oGe at h
  split at h
  · cases i1; cases i2; cases h
    exact ⟨_, _, rfl, rfl, q _ (.bl _)⟩
  · cases h
/-- x is None -/
def oIsN (_ : Sto) (a : D) : Option D := match a with
  | .non => some (.bl true)
  | _ => some (.bl false)
def oNotN (_ : Sto) (a : D) : Option D := match a with
  | .non => some (.bl false)
  | _ => some (.bl true)
theorem isN_eq {C : Cf} {Γ : Hp} {φ : List Addr} {st : Sto} {d e : D} {v : V} (i : Is C Γ φ d v) (h : oIsN st d = some e) : e = .bl (decide (v = .non)) := by
  cases i <;> (cases h; rfl)
theorem notN_eq {C : Cf} {Γ : Hp} {φ : List Addr} {st : Sto} {d e : D} {v : V} (i : Is C Γ φ d v) (h : oNotN st d = some e) : e = .bl (!decide (v = .non)) := by
  cases i <;> (cases h; rfl)
theorem bv_is {C : Cf} {Γ : Hp} {φ : List Addr} {d : D} {v : V} {k : Bool} (i : Is C Γ φ d v) (h : bv d = some k) : v = .bl k := by
  cases i <;> first | (cases h; rfl) | exact nomatch h
theorem se_isN {a : Expr} {ea : E} {j : Nat} {pos pos' : Pos} (ha : SE X cl a ea) : SE X cl (.Compare a [.Is] [.Constant .none j pos'] pos) (eUn oIsN ea) := by
  refine PE.imp (pe_cmpR op_isN ha pe_non (nomark _)) fun σ H Q ⟨Γ, φ, st, r, d, st', s, en, h, q⟩ => ?_
  unfold eUn at h
  obtain ⟨x, h1, h⟩ := Option.bind_eq_some_iff.mp h
  obtain ⟨z, h2, h⟩ := Option.bind_eq_some_iff.mp h
  cases h
  refine ⟨Γ, φ, st, r, x.1, x.2, s, en, h1, fun Γ1 H1 φ1 v x1 s1 i1 => ⟨rfl, ?_⟩⟩
  refine q _ _ _ _ x1 s1 ?_
  rw [isN_eq i1 h2]
  exact .bl _
theorem se_notN {a : Expr} {ea : E} {j : Nat} {pos pos' : Pos} (ha : SE X cl a ea) : SE X cl (.Compare a [.IsNot] [.Constant .none j pos'] pos) (eUn oNotN ea) := by
  refine PE.imp (pe_cmpR op_notN ha pe_non (nomark _)) fun σ H Q ⟨Γ, φ, st, r, d, st', s, en, h, q⟩ => ?_
  unfold eUn at h
  obtain ⟨x, h1, h⟩ := Option.bind_eq_some_iff.mp h
  obtain ⟨z, h2, h⟩ := Option.bind_eq_some_iff.mp h
  cases h
  refine ⟨Γ, φ, st, r, x.1, x.2, s, en, h1, fun Γ1 H1 φ1 v x1 s1 i1 => ⟨rfl, ?_⟩⟩
  refine q _ _ _ _ x1 s1 ?_
  rw [notN_eq i1 h2]
  exact .bl _
theorem is_flat {C : Cf} {Γ : Hp} {φ : List Addr} {d : D} {v : V} (i : Is C Γ φ d v) (h : d.flat = true) : flatV v = true := by
  cases i <;> first | rfl | (simp [D.flat] at h; done)
theorem all_flat {C : Cf} {Γ : Hp} {φ : List Addr} : ∀ {ds : List D} {vs : List V}, IsAll C Γ φ ds vs → ds.all D.flat = true → vs.all flatV = true
  | _, _, .nil, _ => rfl
  | _, _, .cons i q, h => by
    rw [List.all_cons, Bool.and_eq_true] at h
    rw [List.all_cons, is_flat i h.1, all_flat q h.2]; rfl
theorem eq_flat {C : Cf} {Γ : Hp} {φ : List Addr} {d e : D} {v w : V} (i : Is C Γ φ d v) (j : Is C Γ φ e w) (h : d.flat = true) (h' : e.flat = true) : eqV v w = PyData.eqv d.py e.py := by
  cases i <;> first | (simp [D.flat] at h; done) | (cases j <;> first | (simp [D.flat] at h'; done) | simp [eqV, D.py, PyData.eqv])
theorem in_flat {C : Cf} {Γ : Hp} {φ : List Addr} {e : D} {w : V} (j : Is C Γ φ e w) (h' : e.flat = true) : ∀ {ds : List D} {vs : List V}, IsAll C Γ φ ds vs → ds.all D.flat = true → inV w vs = ds.any fun z => PyData.eqv z.py e.py
  | _, _, .nil, _ => rfl
  | _, _, .cons i q, h => by
    rw [List.all_cons, Bool.and_eq_true] at h
    have ih := in_flat j h' q h.2
    unfold inV at ih ⊢
    rw [List.any_cons, List.any_cons, ih, eq_flat i j h.1 h']
theorem op_inD' : OpR X (compareOp .In) (rD (cf X cl) oIn) := by
  refine op_imp op_in_seq fun x y H Q h0 => ?_
  obtain ⟨Γ, φ, st, dx, dy, d, s, i1, i2, h, q⟩ := rD_fin h0
  unfold oIn at h
  obtain ⟨l, h1, h⟩ := Option.bind_eq_some_iff.mp h
  split at h
  · rename_i hc
    cases h
    obtain ⟨a, vs, rfl, e, q1⟩ := asSeq_at s h1 i2
    refine ⟨a, vs, rfl, e, is_flat i1 hc.1, all_flat q1 hc.2, ?_⟩
    refine q _ ?_
    rw [in_flat i1 hc.1 q1 hc.2]
    exact .bl _
  · cases h
theorem op_notInD' : OpR X (compareOp .NotIn) (rD (cf X cl) oNotIn) := by
  refine op_imp op_notIn_seq fun x y H Q h0 => ?_
  obtain ⟨Γ, φ, st, dx, dy, d, s, i1, i2, h, q⟩ := rD_fin h0
  unfold oNotIn oIn at h
  obtain ⟨d1, h1, h⟩ := Option.bind_eq_some_iff.mp h
  obtain ⟨l, h2, h1⟩ := Option.bind_eq_some_iff.mp h1
  split at h1
  · rename_i hc
    cases h1
    have h' : some (D.bl (!(l.any fun z => PyData.eqv z.py dx.py))) = some d := h
    cases h'
    obtain ⟨a, vs, rfl, e, q1⟩ := asSeq_at s h2 i2
    refine ⟨a, vs, rfl, e, is_flat i1 hc.1, all_flat q1 hc.2, ?_⟩
    refine q _ ?_
    rw [in_flat i1 hc.1 q1 hc.2]
    exact .bl _
  · cases h1

/-! ### comparisons as values, as tests -/
variable {f g : Sto → D → D → Option D} {a b c : Expr} {ea eb ec : E} {pos : Pos} {ta tb : T}
theorem se_cmp {op : CmpOp} (ho : OpR X (compareOp op) (rD (cf X cl) f)) (ha : SE X cl a ea) (hb : SE X cl b eb) (hm : behindInMarks op b = false) : SE X cl (.Compare a [op] [b] pos) (eOp f ea eb) := PE.imp (pe_cmpR ho ha hb hm) fun _ _ _ h => top_of h
theorem test_of {C : Cf} {σ : L2.St} {H : Hp} {Q : Bool → Hp → Prop} (h : tB C (tOf ea) σ H Q) : tTest (tD C ea) σ H Q := by
  obtain ⟨Γ, φ, st, r, d, st', s, en, h, q⟩ := h
  unfold tOf at h
  obtain ⟨x, h1, h⟩ := Option.bind_eq_some_iff.mp h
  obtain ⟨k, h2, h⟩ := Option.bind_eq_some_iff.mp h
  cases h
  refine ⟨Γ, φ, st, r, x.1, x.2, s, en, h1, fun Γ1 H1 φ1 v x1 s1 i1 => ?_⟩
  exact ⟨_, bv_is i1 h2, q _ _ _ x1 s1⟩
theorem st_cmp {op : CmpOp} (ho : OpR X (compareOp op) (rD (cf X cl) f)) (ha : SE X cl a ea) (hb : SE X cl b eb) (hm : behindInMarks op b = false) : ST X cl (.Compare a [op] [b] pos) (tOf (eOp f ea eb)) :=
  PT.imp (pt_cmpR ho ha hb hm) fun σ H Q h => by
    obtain ⟨Γ, φ, st, r, d, st', s, en, h, q⟩ := test_of h
    exact top_of ⟨Γ, φ, st, r, d, st', s, en, h, q⟩
/-- any other expression, as a test -/
theorem st_val {e : Expr} {ee : E} (h : SE X cl e ee) (he : ∀ whole, isTrue e X.env whole = (do let v ← whole; standAt e.pos; holding [v] (truthy v)) := by intro _; rfl) : ST X cl e (tOf ee) :=
  PT.imp (pt_val h he) fun _ _ _ h => test_of h
theorem st_isN {j : Nat} {pos' : Pos} (ha : SE X cl a ea) : ST X cl (.Compare a [.Is] [.Constant .none j pos'] pos) (tOf (eUn oIsN ea)) := by
  refine PT.imp (pt_cmp (t := L2.tIsN (tD (cf X cl) ea)) (pc_isN ha) (nomark _)) fun σ H Q h => ?_
  obtain ⟨Γ, φ, st, r, d, st', s, en, h, q⟩ := test_of h
  unfold eUn at h
  obtain ⟨x, h1, h⟩ := Option.bind_eq_some_iff.mp h
  obtain ⟨z, h2, h⟩ := Option.bind_eq_some_iff.mp h
  cases h
  refine ⟨Γ, φ, st, r, x.1, x.2, s, en, h1, fun Γ1 H1 φ1 v x1 s1 i1 => ?_⟩
  obtain ⟨k, e, q⟩ := q Γ1 H1 φ1 (.bl (decide (v = .non))) x1 s1 (by rw [isN_eq i1 h2]; exact .bl _)
  exact ⟨k, e, q⟩
theorem st_notN {j : Nat} {pos' : Pos} (ha : SE X cl a ea) : ST X cl (.Compare a [.IsNot] [.Constant .none j pos'] pos) (tOf (eUn oNotN ea)) := by
  refine PT.imp (pt_cmp (t := L2.tNotN (tD (cf X cl) ea)) (pc_notN ha) (nomark _)) fun σ H Q h => ?_
  obtain ⟨Γ, φ, st, r, d, st', s, en, h, q⟩ := test_of h
  unfold eUn at h
  obtain ⟨x, h1, h⟩ := Option.bind_eq_some_iff.mp h
  obtain ⟨z, h2, h⟩ := Option.bind_eq_some_iff.mp h
  cases h
  refine ⟨Γ, φ, st, r, x.1, x.2, s, en, h1, fun Γ1 H1 φ1 v x1 s1 i1 => ?_⟩
  obtain ⟨k, e, q⟩ := q Γ1 H1 φ1 (.bl (!decide (v = .non))) x1 s1 (by rw [notN_eq i1 h2]; exact .bl _)
  exact ⟨k, e, q⟩
/-- a < b < c -/
theorem tchain_of {C : Cf} {σ : L2.St} {H : Hp} {Q : VK} (h : tD C (eChain f g ea eb ec) σ H Q) : tChain (rD C f) (rD C g) (tD C ea) (tD C eb) (tD C ec) σ H Q := by
  obtain ⟨Γ, φ, st, r, d, st', s, en, h, q⟩ := h
  unfold eChain at h
  obtain ⟨x, h1, h⟩ := Option.bind_eq_some_iff.mp h
  obtain ⟨y, h2, h⟩ := Option.bind_eq_some_iff.mp h
  obtain ⟨z, h3, h⟩ := Option.bind_eq_some_iff.mp h
  obtain ⟨k, h4, h⟩ := Option.bind_eq_some_iff.mp h
  refine ⟨Γ, φ, st, r, x.1, x.2, s, en, h1, fun Γ1 H1 φ1 v x1 s1 i1 => ⟨Γ1, φ1, x.2, r, y.1, y.2, s1, x1.env en, h2, fun Γ2 H2 φ2 w x2 s2 i2 =>
    ⟨Γ2, φ2, y.2, x.1, y.1, z, s2, x2.is i1, i2, h3, fun Γ3 H3 φ3 u x3 s3 i3 => ?_⟩⟩⟩
  refine ⟨k, bv_is i3 h4, ?_⟩
  split at h
  · rename_i hk
    rw [if_pos hk]
    obtain ⟨t, h5, h⟩ := Option.bind_eq_some_iff.mp h
    obtain ⟨e, h6, h⟩ := Option.bind_eq_some_iff.mp h
    cases h
    exact ⟨Γ3, φ3, y.2, r, t.1, t.2, s3, x3.env (x2.env (x1.env en)), h5, fun Γ4 H4 φ4 v' x4 s4 i4 => ⟨Γ4, φ4, t.2, y.1, t.1, _, s4, x4.is (x3.is i2), i4, h6, fun Γ5 H5 φ5 v5 x5 s5 i5 =>
      q _ _ _ _ ((((x1.trans x2).trans x3).trans x4).trans x5) s5 i5⟩⟩
  · rename_i hk
    cases h
    rw [if_neg hk]
    exact q _ _ _ _ ((x1.trans x2).trans x3) s3 (.bl false)
theorem se_chain {op op' : CmpOp} (ho : OpR X (compareOp op) (rD (cf X cl) f)) (ho' : OpR X (compareOp op') (rD (cf X cl) g)) (ha : SE X cl a ea) (hb : SE X cl b eb) (hc : SE X cl c ec) (hm : lastMarks [op, op'] [b, c] = false := by with_unfolding_all rfl) :
    SE X cl (.Compare a [op, op'] [b, c] pos) (eChain f g ea eb ec) := PE.imp (pe_chain ho ho' ha hb hc hm) fun _ _ _ h => tchain_of h
theorem st_chain {op op' : CmpOp} (ho : OpR X (compareOp op) (rD (cf X cl) f)) (ho' : OpR X (compareOp op') (rD (cf X cl) g)) (ha : SE X cl a ea) (hb : SE X cl b eb) (hc : SE X cl c ec) (hm : lastMarks [op, op'] [b, c] = false := by with_unfolding_all rfl) :
    ST X cl (.Compare a [op, op'] [b, c] pos) (tOf (eChain f g ea eb ec)) := PT.imp (pt_chain ho ho' ha hb hc hm) fun σ H Q h => by
  obtain ⟨Γ, φ, st, r, d, st', s, en, h, q⟩ := test_of h
  exact tchain_of ⟨Γ, φ, st, r, d, st', s, en, h, q⟩

/-! ### and, or, not, if else -/
theorem sw_and1 (h : ST X cl a ta) : SW X cl (.BoolOp .And [a] pos) ta := pw_and1 h
theorem sw_or1 (h : ST X cl a ta) : SW X cl (.BoolOp .Or [a] pos) ta := pw_or1 h
theorem sw_and {rest : List Expr} (ha : ST X cl a ta) (hb : SW X cl (.BoolOp .And (b :: rest) pos) tb) : SW X cl (.BoolOp .And (a :: b :: rest) pos) (EV.tAnd ta tb) := by
  refine PW.imp (pw_and ha hb) fun σ H Q ⟨Γ, φ, st, r, d, st', s, en, h, q⟩ => ?_
  unfold EV.tAnd at h
  obtain ⟨x, h1, h⟩ := Option.bind_eq_some_iff.mp h
  refine ⟨Γ, φ, st, r, x.1, x.2, s, en, h1, fun Γ1 H1 φ1 x1 s1 => ?_⟩
  split at h
  · rename_i hk
    rw [if_pos hk]
    exact ⟨Γ1, φ1, x.2, r, d, st', s1, x1.env en, h, fun Γ2 H2 φ2 x2 s2 => q _ _ _ (x1.trans x2) s2⟩
  · rename_i hk
    cases h
    rw [if_neg hk]
    exact q _ _ _ x1 s1
theorem sw_or {rest : List Expr} (ha : ST X cl a ta) (hb : SW X cl (.BoolOp .Or (b :: rest) pos) tb) : SW X cl (.BoolOp .Or (a :: b :: rest) pos) (EV.tOr ta tb) := by
  refine PW.imp (pw_or ha hb) fun σ H Q ⟨Γ, φ, st, r, d, st', s, en, h, q⟩ => ?_
  unfold EV.tOr at h
  obtain ⟨x, h1, h⟩ := Option.bind_eq_some_iff.mp h
  refine ⟨Γ, φ, st, r, x.1, x.2, s, en, h1, fun Γ1 H1 φ1 x1 s1 => ?_⟩
  split at h
  · rename_i hk
    cases h
    rw [if_pos hk]
    exact q _ _ _ x1 s1
  · rename_i hk
    rw [if_neg hk]
    exact ⟨Γ1, φ1, x.2, r, d, st', s1, x1.env en, h, fun Γ2 H2 φ2 x2 s2 => q _ _ _ (x1.trans x2) s2⟩
theorem st_w {e : Expr} (h : SW X cl e ta) : ST X cl e ta := h.pt
theorem st_not (h : ST X cl a ta) : ST X cl (.UnaryOp .Not a pos) (EV.tNot ta) := by
  refine PT.imp (pt_not h) fun σ H Q ⟨Γ, φ, st, r, d, st', s, en, h, q⟩ => ?_
  unfold EV.tNot at h
  obtain ⟨x, h1, h⟩ := Option.bind_eq_some_iff.mp h
  cases h
  exact ⟨Γ, φ, st, r, x.1, x.2, s, en, h1, fun Γ1 H1 φ1 x1 s1 => q _ _ _ x1 s1⟩
theorem se_one {op} (h : SE X cl a ea) : SE X cl (.BoolOp op [a] pos) ea := pe_one h
theorem se_and {rest : List Expr} (ha : SE X cl a ea) (hb : SE X cl (.BoolOp .And (b :: rest) pos) eb) : SE X cl (.BoolOp .And (a :: b :: rest) pos) (eAnd ea eb) := by
  refine PE.imp (pe_and ha hb) fun σ H Q ⟨Γ, φ, st, r, d, st', s, en, h, q⟩ => ?_
  unfold eAnd at h
  obtain ⟨x, h1, h⟩ := Option.bind_eq_some_iff.mp h
  obtain ⟨k, h2, h⟩ := Option.bind_eq_some_iff.mp h
  refine ⟨Γ, φ, st, r, x.1, x.2, s, en, h1, fun Γ1 H1 φ1 v x1 s1 i1 => ⟨k, bv_is i1 h2, ?_⟩⟩
  split at h
  · rename_i hk
    rw [if_pos hk]
    exact ⟨Γ1, φ1, x.2, r, d, st', s1, x1.env en, h, fun Γ2 H2 φ2 v2 x2 s2 => q _ _ _ _ (x1.trans x2) s2⟩
  · rename_i hk
    cases h
    rw [if_neg hk]
    exact q _ _ _ _ x1 s1 (.bl false)
theorem se_or {rest : List Expr} (ha : SE X cl a ea) (hb : SE X cl (.BoolOp .Or (b :: rest) pos) eb) : SE X cl (.BoolOp .Or (a :: b :: rest) pos) (eOr ea eb) := by
  refine PE.imp (pe_or ha hb) fun σ H Q ⟨Γ, φ, st, r, d, st', s, en, h, q⟩ => ?_
  unfold eOr at h
  obtain ⟨x, h1, h⟩ := Option.bind_eq_some_iff.mp h
  obtain ⟨k, h2, h⟩ := Option.bind_eq_some_iff.mp h
  refine ⟨Γ, φ, st, r, x.1, x.2, s, en, h1, fun Γ1 H1 φ1 v x1 s1 i1 => ⟨k, bv_is i1 h2, ?_⟩⟩
  split at h
  · rename_i hk
    cases h
    rw [if_pos hk]
    exact q _ _ _ _ x1 s1 (.bl true)
  · rename_i hk
    rw [if_neg hk]
    exact ⟨Γ1, φ1, x.2, r, d, st', s1, x1.env en, h, fun Γ2 H2 φ2 v2 x2 s2 => q _ _ _ _ (x1.trans x2) s2⟩
theorem se_not (ha : SE X cl a ea) : SE X cl (.UnaryOp .Not a pos) (eNot ea) := by
  refine PE.imp (pe_not ha) fun σ H Q ⟨Γ, φ, st, r, d, st', s, en, h, q⟩ => ?_
  unfold eNot at h
  obtain ⟨x, h1, h⟩ := Option.bind_eq_some_iff.mp h
  obtain ⟨k, h2, h⟩ := Option.bind_eq_some_iff.mp h
  cases h
  exact ⟨Γ, φ, st, r, x.1, x.2, s, en, h1, fun Γ1 H1 φ1 v x1 s1 i1 => ⟨k, bv_is i1 h2, q _ _ _ _ x1 s1 (.bl _)⟩⟩
theorem se_if (hc : ST X cl c ta) (ha : SE X cl a ea) (hb : SE X cl b eb) : SE X cl (.IfExp c a b pos) (eIf ta ea eb) := by
  refine PE.imp (pe_ifExp hc ha hb) fun σ H Q ⟨Γ, φ, st, r, d, st', s, en, h, q⟩ => ?_
  unfold eIf at h
  obtain ⟨x, h1, h⟩ := Option.bind_eq_some_iff.mp h
  refine ⟨Γ, φ, st, r, x.1, x.2, s, en, h1, fun Γ1 H1 φ1 x1 s1 => ?_⟩
  split at h
  · rename_i hk
    rw [if_pos hk]
    exact ⟨Γ1, φ1, x.2, r, d, st', s1, x1.env en, h, fun Γ2 H2 φ2 v2 x2 s2 => q _ _ _ _ (x1.trans x2) s2⟩
  · rename_i hk
    rw [if_neg hk]
    exact ⟨Γ1, φ1, x.2, r, d, st', s1, x1.env en, h, fun Γ2 H2 φ2 v2 x2 s2 => q _ _ _ _ (x1.trans x2) s2⟩
end
end EV
/-! EV.5b: defs that are called while no repr is under way. -/
namespace EV
open PySem PySem.Spec PyProof.Rows L2

/-- room, and no repr under way -/
structure RG (k : Nat) (A : Around) : Prop where
  rm : Room k A
  gd : A.guards = some []
theorem RG.mono {j k : Nat} {A : Around} (r : RG k A) (h : j ≤ k) : RG j A := ⟨r.rm.mono h, r.gd⟩
theorem RG.deeper {k : Nat} {A : Around} (r : RG (k + 1) A) (env : PySem.Env) : RG k (A.deeper env) := ⟨r.rm.deeper env, r.gd⟩
theorem RG.make {k : Nat} {A : Around} (r : RG (k + 1) A) (C : Addr) (us : List Value) (kw : List (Str × Value)) : RG k (A.under (.builtin "type.__call__" ⟨.ref C :: us, kw⟩)) :=
  ⟨r.rm.make C us kw, by
    unfold Around.under Code.guards
    simp [r.gd, Code.isGuard, guardIds, pushGuards]⟩

/-- a def's promise, asked for only where no repr is under way -/
structure FnG (P : Program) (w : World) (K : PySem.W.Frag) (mg : Str → Option Value) (base : Heap) (k : Nat) (f : Addr) (fd : FuncData) (ps : List Str) (sp : Sp) : Prop where
  num : ∀ vs H Q E, sp vs H Q E → vs.length = ps.length
  go : ∀ (A : Around) (outer : List PySem.Env) (s : Shared) (H : Hp) (args : Args) (us : List Value) (vs : List V) (Q : VK) (E : XK), RG k A → Env0 P w K mg base A outer s H → BindsTo s fd args (ps.zip us) → Vals vs us →
    sp vs H Q E → codeAny (model P w) A (.call (.ref f) args) (CR CX0 outer P w H s Q E) s
theorem FnG.mono {P : Program} {w : World} {K : PySem.W.Frag} {mg : Str → Option Value} {base : Heap} {j k : Nat} {f : Addr} {fd : FuncData} {ps : List Str} {sp : Sp} (F : FnG P w K mg base j f fd ps sp) (h : j ≤ k) : FnG P w K mg base k f fd ps sp :=
  ⟨F.num, fun A outer s H args us vs Q E r => F.go A outer s H args us vs Q E (r.mono h)⟩
theorem FnG.imp {P : Program} {w : World} {K : PySem.W.Frag} {mg : Str → Option Value} {base : Heap} {k : Nat} {f : Addr} {fd : FuncData} {ps : List Str} {sp sp' : Sp} (F : FnG P w K mg base k f fd ps sp) (h : ∀ vs H Q E, sp' vs H Q E → sp vs H Q E) :
    FnG P w K mg base k f fd ps sp' := ⟨fun vs H Q E z => F.num _ _ _ _ (h _ _ _ _ z), fun A outer s H args us vs Q E r e b v z => F.go A outer s H args us vs Q E r e b v (h _ _ _ _ z)⟩

section
variable {X : Cx} {k : Nat} {f C : Addr} {fd : FuncData} {ps : List Str} {sp : Sp} {E : XK} {x m : Str} {p pos apos : Pos} {e o : Expr} {es : List Expr} {ta : TE} {t : TA}
theorem go_fn {pins : List (Addr × Obj)} {σ : L2.St} {H : Hp} {s : Shared} {Q : VK} {us : List Value} {vs : List V} (F : FnG X.prog X.w X.K X.mg X.base k f fd ps sp) (r : RG k X.A) (hb : Binds X.K fd ps []) (I : Inv X pins σ H s) (rv : Vals vs us)
    (h : sp vs H Q E) : wpAny (model X.prog X.w) X.A (call (.ref f) us) (EP X pins σ Q) X.xe s := by
  have n : (us ++ ([] : List Value)).length = ps.length := by
    rw [List.append_nil, ← rv.length]
    exact F.num _ _ _ _ h
  have b := hb s us I.kIn n
  rw [List.append_nil] at b
  refine wpAny_call (codeAny_mono (F.go _ X.stack s H _ us vs Q E r I.env0 b rv h) fun res s' z => ?_)
  match res, z with
  | .error _, z => exact False.elim z
  | .ok (.ret _), z => exact I.after z
theorem pe_callG (F : FnG X.prog X.w X.K X.mg X.base k f fd ps sp) (r : RG k X.A) (hg : Gl X x) (hm : X.mg x = some (.ref f)) (hk : PySem.W.keepIn X.K (.ref f) = true) (hb : Binds X.K fd ps []) (ha : PA X (e :: es) t) (hdb : (x == ("__debug__" : Str)) = false := by decide)
    (he : starEach (e :: es) X.env = (false, eval e X.env) :: starEach es X.env := by rfl) (hpl : (backTo pos (starEach es X.env)).any (·.1) = false := by rfl) : PE X (.Call (.Name x p) (e :: es) [] pos) (tCall sp [] E t) := by
  constructor
  intro pins s σ H Q I h
  refine wpAny_Call_Name_kw (ld_glob I hg hm (PySem.W.callWith_K (h₀ := X.base) I.ok.mod.kin hk (thn (ha.run pos pins s σ H _ I h) fun us s1 q => ?_) he hpl) hdb)
  obtain ⟨vs, H1, I1, rv, q⟩ := q
  exact ⟨I1.kIn, go_fn F r hb I1 rv (by rw [List.append_nil] at q; exact q)⟩
theorem pe_callG0 (F : FnG X.prog X.w X.K X.mg X.base k f fd ps sp) (r : RG k X.A) (hg : Gl X x) (hm : X.mg x = some (.ref f)) (hk : PySem.W.keepIn X.K (.ref f) = true) (hb : Binds X.K fd ps []) (hdb : (x == ("__debug__" : Str)) = false := by decide) :
    PE X (.Call (.Name x p) [] [] pos) (tCall sp [] E tNil) := by
  constructor
  intro pins s σ H Q I h
  exact wpAny_Call_Name_kw (ld_glob I hg hm (PySem.W.callWith_K0 I.kIn hk (go_fn (us := []) F r hb I .nil h)) hdb)
end

/-- a def by its body -/
theorem fnG_of {P : Program} {w : World} {K : PySem.W.Frag} {mg : Str → Option Value} {base : Heap} {k : Nat} {x qual : Str} {st : Stmt} {f : Addr} {fd : FuncData} {N ps : List Str} {sp : Sp} (F : Fun K x qual st f fd) (S : FnScope N ps (defScope st)) (num : ∀ vs H Q E, sp vs H Q E → vs.length = ps.length)
    (hb : ∀ (cdv : Value) (A : Around) (outer : List PySem.Env) (s : Shared) (H : Hp) (vs : List V) (Q : VK) (E : XK), RG k (A.deeper (envOfC qual (defScope st) s.heap.objs.size f cdv)) → sp vs H Q E →
      ∃ t, PSs (cxOf CX0 P w K mg base N qual (defScope st) f cdv A outer s H E).nox (defBody st) t ∧ t { nx := fun _ H' => Q .non H', rt := Q } (start N vs) H) : FnG P w K mg base (k + 1) f fd ps sp := by
  obtain ⟨oc, od, kV, doc, pm, an, cdv, ct, osl, rfl, lk, hcd⟩ := F.ex
  constructor
  · exact num
  intro A outer s H args us vs Q E r e0 b rv hsp
  have inH : K.In s.heap := e0.mod.kin.keeps fun a u z => (e0.bs a u z).1
  have nl : s.heap.NoLimit := e0.mod.nolimit.keeps fun a u z => (e0.bs a u z).1
  refine codeAny_call_function r.rm.depth (inH _ _ lk) rfl S.co S.gen rfl (PySem.W.codeRec_of inH hcd) (b _ _ _ _ ?_)
  refine wpAny_newFunctionEnv_cells S.kind (fun y hy => ?_) fun env he s1 lay => ?_
  · obtain ⟨n, v⟩ := y
    have z := S.par n (List.of_mem_zip hy).1
    exact z.imp id fun z => ⟨z, PySem.W.cellsFrom_some _ _ _ (.inl z)⟩
  subst he
  obtain ⟨t, ht, hq⟩ := hb cdv A outer s H vs Q E (r.deeper _) hsp
  have I := inv_start (CX := CX0) (E := E) (qual := qual) S r.rm.hd e0 (num _ _ _ _ hsp) rv lay
  refine ⟨nl.keeps lay.toInCall.keep, codeAny_func (wpAny_mono (ht.nox.run [] s1 _ H _ I hq) (fun fl s' z => ?_) fun e s' z => z)⟩
  match fl, z with
  | .ret u, ⟨v, _, H', J, rv', z⟩ => exact ⟨v, H', J.os, J.bare, J.base, J.hok, rv', z⟩
  | .next, ⟨_, H', J, z⟩ => exact ⟨.non, H', J.os, J.bare, J.base, J.hok, rfl, z⟩
  | .brk, ⟨_, _, _, z⟩ => exact False.elim z
  | .cont, ⟨_, _, _, z⟩ => exact False.elim z
/-- the head: from the law's promise to what the judge asks, at the heap behind the top -/
theorem g_law {P : Program} {w : World} {K : PySem.W.Frag} {mg mb : Str → Option Value} {k : Nat} {fa a : Addr} {fd : FuncData} {x : Str} {sp : Sp} {s₁ : Shared} {vs : List Value} {ns : List Int} (inH : K.In s₁.heap) (nsG : s₁.heap.Ns mainGlobals mg)
    (nsB : s₁.heap.Ns builtinsNs mb) (boot : ∀ y : Str, y ≠ "__name__" → mb y = bootBuiltins y) (nl : s₁.heap.NoLimit) (gens : s₁.gens = #[]) (ha : s₁.heap.get? a = some { cls := .type "list", data := .seq vs.toArray }) (hi : IntsAre vs ns)
    (hl : ns.length ≤ sizeLine) (r : RG k callerA) (F : ∀ base : Heap, K.In base → base.Ns mainGlobals mg → FnG P w K mg base k fa fd [x] sp) (hbind : ∀ (s : Shared) (u : Value), BindsTo s fd ⟨[u], []⟩ [(x, u)])
    (hsp : ∀ H : Hp, Only H → SqL K H a (ns.map V.int) → sp [.ref a] H (fun v _ => v = .bl true) fun _ _ _ => False) :
    codeAny (model P w) callerA (.call (.ref fa) ⟨[.ref a], []⟩) (fun r s' => r = .ok (.ret (.bool true)) ∧ OldK s₁.heap s'.heap ∧ s'.os = s₁.os ∧ AllBare s'.gens) s₁ := by
  have tail : ∀ H : Hp, Only H → SqL K H a (ns.map V.int) → HOk P w H s₁.heap → (∀ b, H b ≠ none → b = a) → (H a ≠ none → K.lookup a = none) →
      codeAny (model P w) callerA (.call (.ref fa) ⟨[.ref a], []⟩) (fun r s' => r = .ok (.ret (.bool true)) ∧ OldK s₁.heap s'.heap ∧ s'.os = s₁.os ∧ AllBare s'.gens) s₁ := by
    intro H only hS hok alone offK
    have out : ∀ {b : Addr} {m : Str → Option Value}, s₁.heap.Ns b m → (hidT s₁.heap H).Ns b m := fun {b m} z => by
      obtain ⟨o, es, ep, e, d, z⟩ := z
      refine ⟨o, es, ep, hidT_get e ?_, d, z⟩
      cases q : H b with
      | none => rfl
      | some u =>
        obtain rfl := alone b (by rw [q]; exact Option.some_ne_none u)
        rw [ha] at e
        cases e
        exact nomatch d
    have inB : K.In (hidT s₁.heap H) := fun b o e => by
      refine hidT_get (inH b o e) ?_
      cases q : H b with
      | none => rfl
      | some u =>
        have z : H b ≠ none := by rw [q]; exact Option.some_ne_none u
        obtain rfl := alone b z
        rw [offK z] at e
        cases e
    obtain ⟨mc, n1, n2⟩ := nl
    have e0 : Env0 P w K mg (hidT s₁.heap H) callerA [] s₁ H := by
      refine ⟨rfl, ⟨inB, out nsG, ⟨mb, out nsB, boot⟩, ⟨mc, out n1, n2⟩⟩, fun b o e => of_hidT e, Nat.le_of_eq (hidT_size _ _), trivial, fun b hb => ?_, hok, .of_eq gens⟩
      cases hb
    have run := (F _ inB (out nsG)).go callerA [] s₁ H ⟨[.ref a], []⟩ [.ref a] [.ref a] _ _ r e0 (hbind s₁ (.ref a)) (.cons rfl .nil) (hsp H only hS)
    refine codeAny_mono run fun res s' z => ?_
    match res, z with
    | .error _, z => exact False.elim z
    | .ok (.ret u), z =>
      obtain ⟨v, H', os, bare, un, hok', rv, rfl⟩ := z
      cases rv
      refine ⟨rfl, OldK.of_keep fun b o e => ?_, os, bare⟩
      cases q : H b with
      | none => exact un.keep b o e q (fun z => by cases z) (fun z => by cases z)
      | some u =>
        rcases only b with z | ⟨ob, xs, z⟩
        · rw [q] at z; cases z
        · have old := (hok b _ z).1
          have new := (hok' b _ (un.frzs b ob _ z)).1
          rw [e] at old
          cases old
          exact new
  have lenV : vs.length = ns.length := hi.length
  have rel : Vals (ns.map V.int) vs := vals_ints hi
  rcases hk : K.lookup a with _ | o
  · have only1 : Only (fun b => if b = a then some (.frz { cls := .type "list", data := .seq vs.toArray } (.lst (ns.map V.int))) else none) := fun b => by
      by_cases z : b = a
      · exact .inr ⟨_, _, if_pos z⟩
      · exact .inl (if_neg z)
    refine tail _ only1 (.inl (.inr ⟨_, if_pos rfl⟩)) (fun b u z => ?_) (fun b z => ?_) fun _ => hk
    · split at z
      · rename_i e
        cases z
        subst e
        exact ⟨ha, by rw [List.length_map]; exact hl, vs, _, rel, ha⟩
      · cases z
    · by_cases e : b = a
      · exact e
      · exact absurd (if_neg e) z
  · have e := inH a o hk
    rw [ha] at e
    cases e
    refine tail (fun _ => none) (fun _ => .inl rfl) (.inr ⟨_, vs.toArray, _, hk, rfl, rfl, rfl, ?_, by simpa using rel⟩) (fun b u z => nomatch z) (fun b z => absurd rfl z) fun z => absurd rfl z
    rw [List.size_toArray, lenV]
    exact hl
/-- from the law's promise to the walk that the head asks for -/
theorem walk_g {l : PySem.W.OpenLaw} {n k : Nat} {q : Program} {loose : List Str} {XP : (Str → Option Value) → Heap → Prop} {YP : World → Heap → Prop} {d : DefRec} {K : Params → PySem.W.Frag} {sp : World → Sp} {x : Str} (hn : l.most = some n) (hn2 : n ≤ sizeLine) (hdf : d.params.defaults = [])
    (r : RG k callerA) (hY : ∀ (w : World) (h : Heap), YP w h → (K w.params).In h)
    (F : ∀ (w : World) (mg : Str → Option Value) (fa : Addr) (h : Heap), (K w.params).In h → h.Ns mainGlobals mg → mg d.name = some (.ref fa) →
      ∃ fd : FuncData, (∀ (s : Shared) (u : Value), BindsTo s fd ⟨[u], []⟩ [(x, u)]) ∧ ∀ base : Heap, (K w.params).In base → base.Ns mainGlobals mg → FnG l.prog w (K w.params) mg base k fa fd [x] (sp w))
    (hsp : ∀ (w : World) (H : Hp) (a : Addr) (ns : List Int), ns.length ≤ n → Only H → SqL (K w.params) H a (ns.map V.int) → sp w [.ref a] H (fun v _ => v = .bl true) fun _ _ _ => False) :
    PySem.W.WalkO q loose XP YP l.row.toRowW d [] (fun f vs => PySem.call f vs) := by
  refine Att.attach_call hn hdf fun w s₀ s₁ mg mb fa o pm cd doc a vs ns G Y ho hd hcd hmg hobj hints hlen hg => ?_
  obtain ⟨fd, hb, hF⟩ := F w mg fa _ (hY w _ Y) G.T.g hmg
  exact g_law (hY w _ Y) G.T.g G.T.b G.T.builtins G.T.nolimit hg hobj hints (Nat.le_trans hlen hn2) r hF hb fun H only hS => hsp w H a ns hlen only hS
end EV
/-! EV.6: places, slices, built-in functions, calls of defs. -/
namespace EV
open PySem PySem.Spec PyProof.Rows L2
section
variable {X : Cx} {cl : Cl}

/-! ### xs[i] -/
theorem atI_all {C : Cf} {Γ : Hp} {φ : List Addr} {ds : List D} {vs : List V} {k : Int} {d : D} (q : IsAll C Γ φ ds vs) (h : atI ds k = some d) : ∃ v, atI vs k = some v ∧ Is C Γ φ d v := by
  unfold atI at h ⊢
  rw [q.length] at h
  obtain ⟨j, h1, h2⟩ := Option.bind_eq_some_iff.mp h
  obtain ⟨v, h3, h4⟩ := q.get h2
  exact ⟨v, by rw [h1]; exact h3, h4⟩
theorem ix_D : IxR X (rD (cf X cl) oIdx) := by
  intro value slice pins s σ H x y v u Q I rx ry h0 hs
  obtain ⟨Γ, φ, st, dx, dy, d, sm, i1, i2, h, q⟩ := rD_fin h0
  unfold oIdx at h
  split at h
  · obtain ⟨l, h1, h⟩ := Option.bind_eq_some_iff.mp h
    obtain ⟨a, vs, rfl, e, q1⟩ := asSeq_at sm h1 i1
    obtain ⟨z, h3, h4⟩ := atI_all q1 h
    cases i2
    rcases e with e | e
    · exact ix_list value slice pins s σ H _ _ v u Q I rx ry ⟨a, vs, _, z, rfl, rfl, e, h3, q z h4⟩ hs
    · exact ix_tup value slice pins s σ H _ _ v u Q I rx ry ⟨a, vs, _, z, rfl, rfl, e, h3, q z h4⟩ hs
  · cases h
theorem oIdx_inv {st : Sto} {x i d : D} (h : oIdx st x i = some d) : ∃ k l, i = .int k ∧ asSeq st x = some l ∧ atI l k = some d := by
  unfold oIdx at h
  split at h
  · rename_i k
    obtain ⟨l, h1, h⟩ := Option.bind_eq_some_iff.mp h
    exact ⟨_, l, rfl, h1, h⟩
  · cases h
theorem get_D : PGet X (rD (cf X cl) oIdx) := by
  intro pins s σ H x y v u Q I rx ry h0
  obtain ⟨Γ, φ, st, dx, dy, d, sm, i1, i2, h, q⟩ := rD_fin h0
  obtain ⟨i, l, rfl, h1, h⟩ := oIdx_inv h
  obtain ⟨a, vs, rfl, e, q1⟩ := asSeq_at sm h1 i1
  obtain ⟨z, h3, h4⟩ := atI_all q1 h
  cases i2
  cases rx
  obtain ⟨t, rfl⟩ := ry
  obtain ⟨j, g1, g2, g3, g4, g5⟩ := atI_get h3
  have hn := line63
  rcases e with e | e
  · obtain ⟨its, r, pl, hz⟩ := I.list e
    obtain ⟨w, ew, rw'⟩ := r.get g2
    have hl := r.length
    have fin : EP X pins σ Q w s := ⟨z, H, I, rw', q z h4⟩
    by_cases h0 : 0 ≤ i
    · have hj : i.toNat = j := by
        rw [seqIndex_of h0 g5] at g1
        exact Option.some.inj g1
      exact wpAny_getItem_list pl.isList h0 (by omega) (by rw [hj]; simpa using ew) fin
    · have hj : (i + (its.toArray.size : Int)).toNat = j := by
        rw [seqIndex_neg (by omega) g4] at g1
        rw [List.size_toArray, ← hl]
        exact Option.some.inj g1
      exact wpAny_getItem_list_neg pl.isList (by omega) (by rw [List.size_toArray]; omega) (by omega) (by rw [hj]; simpa using ew) fin
  · obtain ⟨its, r, pl, hz⟩ := I.tuple e
    obtain ⟨w, ew, rw'⟩ := r.get g2
    have hl := r.length
    exact PyProof.Rows.getItem_tuple (j := j) pl (by omega) (by omega) (by rw [List.size_toArray, ← hl]; exact g1) (by simpa using ew) ⟨z, H, I, rw', q z h4⟩
variable {f g : Sto → D → D → Option D} {a b c : Expr} {ea eb ec : E} {pos : Pos}
theorem se_ix (ha : SE X cl a ea) (hb : SE X cl b eb) (hs : PlainIx b := by exact fun _ _ => rfl) : SE X cl (.Subscript a b pos) (eOp oIdx ea eb) := PE.imp (pe_ix ix_D ha hb hs) fun _ _ _ h => top_of h

/-! ### slices -/
def tP (C : Cf) (e : P) : TO := fun σ H Q => ∃ Γ φ st r o st', Sim C Γ H φ st ∧ EnvOk C Γ φ r σ ∧ e r st = some (o, st') ∧ ∀ Γ' H' φ', Ext Γ H φ Γ' H' φ' → Sim C Γ' H' φ' st' → Q o H'
abbrev SP' (X : Cx) (cl : Cl) (e : Option Expr) (p : P) : Prop := PO X e (tP (cf X cl) p)
theorem sp_no : SP' X cl none pNo := PO.imp po_none fun σ H Q ⟨Γ, φ, st, r, o, st', s, en, h, q⟩ => by
  cases h
  exact q _ _ _ (.refl s) s
theorem sp_some (h : SE X cl a ea) : SP' X cl (some a) (pSome ea) := PO.imp (po_some h) fun σ H Q ⟨Γ, φ, st, r, o, st', s, en, h, q⟩ => by
  unfold pSome at h
  obtain ⟨x, h1, h⟩ := Option.bind_eq_some_iff.mp h
  refine ⟨Γ, φ, st, r, x.1, x.2, s, en, h1, fun Γ1 H1 φ1 v x1 s1 i1 => ?_⟩
  split at h
  · rename_i i e
    cases h
    rw [e] at i1
    cases i1
    exact ⟨_, rfl, q _ _ _ x1 s1⟩
  · cases h
theorem cut_all {C : Cf} {Γ : Hp} {φ : List Addr} {ds : List D} {vs : List V} (lo hi : Option Int) (q : IsAll C Γ φ ds vs) : IsAll C Γ φ (cut ds lo hi) (cutV vs lo hi) := by
  unfold cut cutV
  rw [q.length]
  exact (q.drop _).take _
theorem cut_whole {α : Type} {l : List α} {lo hi : Option Int} (h : HT.sIx l.length 0 lo = 0 ∧ HT.sIx l.length l.length hi = l.length) : cut l lo hi = l := by
  unfold cut
  rw [h.1, h.2, Nat.sub_zero, List.drop_zero, List.take_length]
def rSl (C : Cf) : V → Option Int → Option Int → Hp → VK → Prop := fun x lo hi H Q => ∃ Γ φ st dx d, Sim C Γ H φ st ∧ Is C Γ φ dx x ∧ oCut st dx lo hi = some d ∧
  ∀ Γ' H' φ' v, Ext Γ H φ Γ' H' φ' → Sim C Γ' H' φ' st → Is C Γ' φ' d v → Q v H'
theorem sl_D : SlR X (rSl (cf X cl)) := by
  intro pins s σ H x v vl vu lo hi sl Q I rx hs pl pu h0
  obtain ⟨Γ, φ, st, dx, d, sm, i1, h, q⟩ := h0
  unfold oCut at h
  split at h
  · cases h
    cases i1 with
    | tup e q1 =>
      refine sl_tupA pins s σ H _ v vl vu lo hi sl Q I rx hs pl pu ⟨_, _, rfl, SqT.of (sm.sub _ _ e), fun hw => ?_, fun hw p hp => ?_⟩
      · rw [← q1.length] at hw
        rw [cut_whole hw] at q
        exact q _ _ _ _ (.refl sm) sm (.tup e q1)
      · obtain ⟨s2, x2⟩ := sm.frozen (o := .tup _) hp
        exact q _ _ _ _ x2 s2 (.tup upd_same (x2.all (cut_all lo hi q1)))
  · obtain ⟨l, h1, h⟩ := Option.bind_eq_some_iff.mp h
    cases h
    obtain ⟨a1, vs, rfl, e1, q1⟩ := asL_at sm h1 i1
    refine sl_list pins s σ H _ v vl vu lo hi sl Q I rx hs pl pu ⟨a1, vs, rfl, SqL.of e1, fun p hp => ?_⟩
    obtain ⟨s2, x2⟩ := sm.frozen (o := .lst _) hp
    exact q _ _ _ _ x2 s2 (.lst upd_same (x2.all (cut_all lo hi q1)))
theorem se_slice {lo hi : Option Expr} {pl ph : P} {p2 : Pos} (ha : SE X cl a ea) (hl : SP' X cl lo pl) (hh : SP' X cl hi ph) : SE X cl (.Subscript a (.Slice lo hi none p2) pos) (eSlice ea pl ph) := by
  refine PE.imp (pe_slice (sl_D (cl := cl)) ha hl hh) fun σ H Q ⟨Γ, φ, st, r, d, st', s, en, h, q⟩ => ?_
  unfold eSlice at h
  obtain ⟨x, h1, h⟩ := Option.bind_eq_some_iff.mp h
  obtain ⟨l, h2, h⟩ := Option.bind_eq_some_iff.mp h
  obtain ⟨u, h3, h⟩ := Option.bind_eq_some_iff.mp h
  obtain ⟨z, h4, h⟩ := Option.bind_eq_some_iff.mp h
  cases h
  exact ⟨Γ, φ, st, r, x.1, x.2, s, en, h1, fun Γ1 H1 φ1 v x1 s1 i1 => ⟨Γ1, φ1, x.2, r, l.1, l.2, s1, x1.env en, h2, fun Γ2 H2 φ2 x2 s2 => ⟨Γ2, φ2, l.2, r, u.1, u.2, s2, x2.env (x1.env en), h3, fun Γ3 H3 φ3 x3 s3 =>
    ⟨Γ3, φ3, u.2, x.1, _, s3, x3.is (x2.is i1), h4, fun Γ4 H4 φ4 v4 x4 s4 i4 => q _ _ _ _ (((x1.trans x2).trans x3).trans x4) s4 i4⟩⟩⟩⟩

/-! ### built-in functions by values -/
variable {fb : Sto → List D → Option D} {es : List Expr} {aa : A} {x : Str} {p : Pos} {id T : String}
theorem tcb_of {C : Cf} {σ : L2.St} {H : Hp} {Q : VK} (h : tD C (eBlt fb aa) σ H Q) : tCB (rC C fb) (tAs C aa) σ H Q := by
  obtain ⟨Γ, φ, st, r, d, st', s, en, h, q⟩ := h
  unfold eBlt at h
  obtain ⟨x, h1, h⟩ := Option.bind_eq_some_iff.mp h
  obtain ⟨z, h2, h⟩ := Option.bind_eq_some_iff.mp h
  cases h
  exact ⟨Γ, φ, st, r, x.1, x.2, s, en, h1, fun Γ1 H1 φ1 vs x1 s1 i1 => ⟨Γ1, φ1, x.2, x.1, _, s1, i1, h2, fun Γ2 H2 φ2 v x2 s2 i2 => q _ _ _ _ (x1.trans x2) s2 i2⟩⟩
theorem tcbF_of {C : Cf} {σ : L2.St} {H : Hp} {Q : VK} (h : tF C (eBlt fb aa) σ H Q) : tCB (rCF C fb) (tAs C aa) σ H Q := by
  obtain ⟨Γ, φ, st, r, d, st', s, en, h, q⟩ := h
  unfold eBlt at h
  obtain ⟨x, h1, h⟩ := Option.bind_eq_some_iff.mp h
  obtain ⟨z, h2, h⟩ := Option.bind_eq_some_iff.mp h
  cases h
  exact ⟨Γ, φ, st, r, x.1, x.2, s, en, h1, fun Γ1 H1 φ1 vs x1 s1 i1 => ⟨Γ1, φ1, x.2, x.1, _, s1, i1, h2, fun Γ2 H2 φ2 v ws x2 s2 n0 n1 n2 n3 i2 => q _ _ _ _ _ (x1.trans x2) s2 (x1.new n0) n1 n2 n3 i2⟩⟩
theorem se_blt {e : Expr} (hc : CallR X (.builtin id) (rC (cf X cl) fb)) (hg : Gl X x) (hm : X.mg x = none) (hv : bootBuiltins x = some (.builtin id)) (ha : SA X cl (e :: es) aa) (hn : x ≠ "__name__" := by decide) (hdb : (x == ("__debug__" : Str)) = false := by decide)
    (he : starEach (e :: es) X.env = (false, eval e X.env) :: starEach es X.env := by rfl) (hpl : (backTo pos (starEach es X.env)).any (·.1) = false := by rfl) : SE X cl (.Call (.Name x p) (e :: es) [] pos) (eBlt fb aa) :=
  PE.imp (pe_callB hc hg hm hv ha hn hdb he hpl) fun _ _ _ h => tcb_of h
theorem se_blty {e : Expr} (hc : CallR X (.type T) (rC (cf X cl) fb)) (hg : Gl X x) (hm : X.mg x = none) (hv : bootBuiltins x = some (.type T)) (ha : SA X cl (e :: es) aa) (hn : x ≠ "__name__" := by decide) (hdb : (x == ("__debug__" : Str)) = false := by decide)
    (he : starEach (e :: es) X.env = (false, eval e X.env) :: starEach es X.env := by rfl) (hpl : (backTo pos (starEach es X.env)).any (·.1) = false := by rfl) : SE X cl (.Call (.Name x p) (e :: es) [] pos) (eBlt fb aa) :=
  PE.imp (pe_callTy hc hg hm hv ha hn hdb he hpl) fun _ _ _ h => tcb_of h
theorem sf_blty {e : Expr} (hc : CallR X (.type T) (rCF (cf X cl) fb)) (hg : Gl X x) (hm : X.mg x = none) (hv : bootBuiltins x = some (.type T)) (ha : SA X cl (e :: es) aa) (hn : x ≠ "__name__" := by decide) (hdb : (x == ("__debug__" : Str)) = false := by decide)
    (he : starEach (e :: es) X.env = (false, eval e X.env) :: starEach es X.env := by rfl) (hpl : (backTo pos (starEach es X.env)).any (·.1) = false := by rfl) : SF X cl (.Call (.Name x p) (e :: es) [] pos) (eBlt fb aa) :=
  PE.imp (pe_callTy hc hg hm hv ha hn hdb he hpl) fun _ _ _ h => tcbF_of h
theorem call_imp {fv : Value} {r r' : List V → Hp → VK → Prop} (h : CallR X fv r) (q : ∀ xs H Q, r' xs H Q → r xs H Q) : CallR X fv r' := fun pins s σ H xs us Q I rx w => h pins s σ H xs us Q I rx (q _ _ _ w)
theorem rC_fin {C : Cf} {H : Hp} {Q : VK} {xs : List V} (h : rC C fb xs H Q) : ∃ Γ φ st ds d, Sim C Γ H φ st ∧ IsAll C Γ φ ds xs ∧ fb st ds = some d ∧ ∀ v, Is C Γ φ d v → Q v H := by
  obtain ⟨Γ, φ, st, ds, d, s, i1, h, q⟩ := h
  exact ⟨Γ, φ, st, ds, d, s, i1, h, fun v i => q _ _ _ _ (.refl s) s i⟩
theorem one_all {C : Cf} {Γ : Hp} {φ : List Addr} {d : D} {xs : List V} (h : IsAll C Γ φ [d] xs) : ∃ v, xs = [v] ∧ Is C Γ φ d v := by
  cases h with
  | cons i t => cases t; exact ⟨_, rfl, i⟩
theorem two_all {C : Cf} {Γ : Hp} {φ : List Addr} {d e : D} {xs : List V} (h : IsAll C Γ φ [d, e] xs) : ∃ v w, xs = [v, w] ∧ Is C Γ φ d v ∧ Is C Γ φ e w := by
  cases h with
  | cons i t =>
    cases t with
    | cons j u => cases u; exact ⟨_, _, rfl, i, j⟩
theorem ints_all {C : Cf} {Γ : Hp} {φ : List Addr} : ∀ l : List Int, IsAll C Γ φ (l.map D.int) (l.map V.int)
  | [] => .nil
  | x :: r => .cons (.int x) (ints_all r)
theorem c_len : CallR X (.builtin "len") (rC (cf X cl) bLen) := by
  refine call_imp call_len_seq fun xs H Q h0 => ?_
  obtain ⟨Γ, φ, st, ds, d, s, i1, h, q⟩ := rC_fin h0
  unfold bLen at h
  split at h
  · obtain ⟨l, h1, h⟩ := Option.bind_eq_some_iff.mp h
    cases h
    obtain ⟨v, rfl, i⟩ := one_all i1
    obtain ⟨a, vs, rfl, e, q1⟩ := asSeq_at s h1 i
    refine ⟨a, vs, rfl, e, q _ ?_⟩
    rw [q1.length]
    exact .int _
  · cases h
theorem c_abs : CallR X (.builtin "abs") (rC (cf X cl) bAbs) := by
  refine call_imp call_abs fun xs H Q h0 => ?_
  obtain ⟨Γ, φ, st, ds, d, s, i1, h, q⟩ := rC_fin h0
  unfold bAbs at h
  split at h
  · cases h
    obtain ⟨v, rfl, i⟩ := one_all i1
    cases i
    exact ⟨_, rfl, q _ (.int _)⟩
  · cases h
theorem c_int : CallR X (.type "int") (rC (cf X cl) bInt) := by
  refine call_imp call_int1 fun xs H Q h0 => ?_
  obtain ⟨Γ, φ, st, ds, d, s, i1, h, q⟩ := rC_fin h0
  unfold bInt at h
  split at h
  · cases h
    obtain ⟨v, rfl, i⟩ := one_all i1
    cases i
    exact .inl ⟨_, rfl, q _ (.int _)⟩
  · cases h
    obtain ⟨v, rfl, i⟩ := one_all i1
    cases i
    exact .inr ⟨_, rfl, q _ (.int _)⟩
  · cases h
theorem c_any (hc : X.calm = true) : CallR X (.builtin "any") (rC (cf X cl) bAny) := by
  refine call_imp (cr_any hc) fun xs H Q h0 => ?_
  obtain ⟨Γ, φ, st, ds, d, s, i1, h, q⟩ := rC_fin h0
  unfold bAny at h
  split at h
  · obtain ⟨l, h1, h⟩ := Option.bind_eq_some_iff.mp h
    obtain ⟨bs, h2, h⟩ := Option.bind_eq_some_iff.mp h
    cases h
    obtain ⟨v, rfl, i⟩ := one_all i1
    obtain ⟨a, vs, rfl, e, q1⟩ := asL_at s h1 i
    have z := q1.bls h2
    subst z
    exact ⟨a, bs, rfl, SqL.of e, q _ (.bl _)⟩
  · cases h
theorem c_all (hc : X.calm = true) : CallR X (.builtin "all") (rC (cf X cl) bAll) := by
  refine call_imp (cr_all hc) fun xs H Q h0 => ?_
  obtain ⟨Γ, φ, st, ds, d, s, i1, h, q⟩ := rC_fin h0
  unfold bAll at h
  split at h
  · obtain ⟨l, h1, h⟩ := Option.bind_eq_some_iff.mp h
    obtain ⟨bs, h2, h⟩ := Option.bind_eq_some_iff.mp h
    cases h
    obtain ⟨v, rfl, i⟩ := one_all i1
    obtain ⟨a, vs, rfl, e, q1⟩ := asL_at s h1 i
    have z := q1.bls h2
    subst z
    exact ⟨a, bs, rfl, SqL.of e, q _ (.bl _)⟩
  · cases h
theorem c_tuple : CallR X (.type "tuple") (rC (cf X cl) bTuple) := by
  refine call_imp call_tuple_of fun xs H Q h0 => ?_
  obtain ⟨Γ, φ, st, ds, d, s, i1, h, q⟩ := h0
  unfold bTuple at h
  split at h
  · obtain ⟨l, h1, h⟩ := Option.bind_eq_some_iff.mp h
    cases h
    obtain ⟨v, rfl, i⟩ := one_all i1
    have new : ∀ {a vs}, v = .ref a → SqL X.K H a vs → IsAll (cf X cl) Γ φ l vs → ∃ p ys, [v] = [.ref p] ∧ ((SqL X.K H p ys ∧ ∀ l, H l = none → Q (.ref l) (upd H l (.tup ys))) ∨ (SqT X.K H p ys ∧ Q (.ref p) H)) := fun {a vs} ev e q1 => by
      subst ev
      refine ⟨a, vs, rfl, .inl ⟨e, fun p hp => ?_⟩⟩
      obtain ⟨s2, x2⟩ := s.frozen (o := .tup vs) hp
      exact q _ _ _ _ x2 s2 (.tup upd_same (x2.all q1))
    cases i with
    | tup e q1 =>
      cases h1
      exact ⟨_, _, rfl, .inr ⟨SqT.of (s.sub _ _ e), q _ _ _ _ (.refl s) s (.tup e q1)⟩⟩
    | lst e q1 =>
      obtain ⟨a, vs, ev, e', q2⟩ := asL_at s (show asL st (.lst _) = some l from h1) (.lst e q1)
      exact new ev (SqL.of e') q2
    | ref e =>
      obtain ⟨a, vs, ev, e', q2⟩ := asL_at s (show asL st (.ref _) = some l from h1) (.ref e)
      exact new ev (SqL.of e') q2
    | scr e =>
      obtain ⟨a, vs, ev, e', q2⟩ := asSeq_at s h1 (.scr e)
      cases ev
      rcases e' with e' | e'
      · exact new rfl e' q2
      · cases h1
        exact new rfl (sql_mono s.sub e) (ints_all _)
    | _ => exact nomatch h1
  · cases h
theorem f_list : CallR X (.type "list") (rCF (cf X cl) bList) := by
  refine call_imp call_list_of fun xs H Q h0 => ?_
  obtain ⟨Γ, φ, st, ds, es, s, i1, h, q⟩ := h0
  unfold bList at h
  split at h
  · obtain ⟨l, h1, h⟩ := Option.bind_eq_some_iff.mp h
    cases h
    obtain ⟨v, rfl, i⟩ := one_all i1
    obtain ⟨a, vs, rfl, e, q1⟩ := asSeq_at s h1 i
    refine ⟨a, vs, rfl, e, fun p hp => ?_⟩
    obtain ⟨s2, x2⟩ := s.other (o := .lst vs) hp
    exact q _ _ _ _ _ x2 s2 hp upd_same (s.notIn hp) (s.fresh hp) q1
  · cases h
theorem lst_bList {aa : A} : ∀ r st d st', eBlt bList aa r st = some (d, st') → ∃ l, d = .lst l := fun r st d st' h => by
  unfold eBlt at h
  obtain ⟨x, h1, h⟩ := Option.bind_eq_some_iff.mp h
  obtain ⟨z, h2, h⟩ := Option.bind_eq_some_iff.mp h
  cases h
  unfold bList at h2
  split at h2
  · obtain ⟨l, h1, h2⟩ := Option.bind_eq_some_iff.mp h2
    cases h2; exact ⟨_, rfl⟩
  · cases h2
/-- sum(xs), sum(t) of ints -/
theorem sum_tup_raw {prog : Program} {w : World} {A : Around} {E : Value → Shared → Prop} {s : Shared} {l : Addr} {its : List Value} {ns : List Int} {Q : Value → Shared → Prop} (hh : A.handled = none) (hl : s.heap.IsTuple l its.toArray) (hi : IntsAre its ns)
    (h : ∀ h' tk t', (∀ b o, s.heap.get? b = some o → h'.get? b = some o) → Q (.int ns.sum t') { s with heap := h', toks := tk }) : wpAny (model prog w) A (call (.builtin "sum") [.ref l]) Q E s := by
  obtain ⟨xs, e⟩ := hi.allInts.items
  have hn : numsOf (intItems xs).toList = ns := by rw [← e]; exact hi.numsOf
  rw [nums_intItems] at hn
  rw [e] at hl
  have hlt : l < s.heap.objs.size := by obtain ⟨_, e, _⟩ := hl; exact Heap.lt_size e
  refine call_sum_walkG (wpAny_pyIter_tuple hl ?_)
  refine ⟨_, _, _, _, _, _, numAt xs, rfl, Walks.tuple (A := A.in1) hh _ l (Nat.ne_of_lt hlt) (intItems xs), ⟨⟨_, Heap.get?_push_size _ rfl, rfl, rfl⟩, ?_⟩, fun b hb => ?_, (fun _ _ => intItems_at), fun h' tk t' hk => ?_⟩
  · obtain ⟨o, e, r⟩ := hl; exact ⟨o, Heap.get?_push_of_some _ e, r⟩
  · show b < (s.heap.push _).objs.size
    rw [Heap.size_push]
    rcases List.mem_cons.mp hb with rfl | hb
    · exact Nat.lt_succ_self _
    · rcases List.mem_cons.mp hb with rfl | hb
      · exact Nat.lt_succ_of_lt hlt
      · cases hb
  · have := h h' tk t' (fun b o e => hk b o (fun hm => by
      rcases List.mem_cons.mp hm with e1 | hm
      · exact absurd (e1 ▸ Heap.lt_size e) (Nat.lt_irrefl _)
      · cases hm) (Heap.get?_push_of_some _ e))
    have e2 : (intItems xs).size = xs.size := by simp [intItems]
    rw [e2, preSum_eq, List.take_of_length_le (by simp), hn]
    exact this
theorem c_sum (hc : X.calm = true) : CallR X (.builtin "sum") (rC (cf X cl) bSum) := by
  intro pins s σ H xs us Q I r h0
  obtain ⟨Γ, φ, st, ds, d, sm, i1, h, q⟩ := rC_fin h0
  unfold bSum at h
  split at h
  · obtain ⟨l, h1, h⟩ := Option.bind_eq_some_iff.mp h
    obtain ⟨ns, h2, h⟩ := Option.bind_eq_some_iff.mp h
    cases h
    obtain ⟨v, rfl, i⟩ := one_all i1
    obtain ⟨a, vs, rfl, e, q1⟩ := asSeq_at sm h1 i
    have z := q1.ints h2
    subst z
    rcases e with e | e
    · exact cr_sum hc pins s σ H _ us Q I r ⟨a, ns, rfl, e, q _ (.int _)⟩
    · obtain ⟨its, rv, p, _⟩ := I.tuple e
      obtain ⟨u, rfl, ru⟩ := vals1 r
      cases ru
      exact sum_tup_raw (I.ok.hd hc) (show s.heap.IsTuple a its.toArray from p) (intsAre_of rv) fun h' tk t' hk => ⟨.int ns.sum, H, I.kept hk, ⟨_, rfl⟩, q _ (.int _)⟩
  · cases h

/-! ### isinstance(x, T) -/
theorem se_isi {T : String} {x2 : Str} {p2 : Pos} (ha : SE X cl a ea) (hg : Gl X "isinstance") (hm : X.mg "isinstance" = none) (hg2 : Gl X x2) (hm2 : X.mg x2 = none) (hv2 : bootBuiltins x2 = some (.type T))
    (fb : Sto → List D → Option D) (hf : ∀ st ds d, fb st ds = some d → ∃ e, ds = [e] ∧ e.dat = true ∧ (∃ b, d = .bl b ∧ kitB e.ty T = some b))
    (hn2 : x2 ≠ "__name__" := by decide) (hd2 : (x2 == ("__debug__" : Str)) = false := by decide) (hs : starEach [a, .Name x2 p2] X.env = (false, eval a X.env) :: starEach [.Name x2 p2] X.env := by rfl) :
    SE X cl (.Call (.Name "isinstance" p) [a, .Name x2 p2] [] pos) (eBlt fb (aCons ea aNil)) := by
  refine PE.imp (pe_callB call_isi hg hm (by decide +kernel) (pa_cons ha (pa_cons (pe_bltn (v := .ty T) hg2 hm2 hv2 rfl hn2 hd2) pa_nil (by rfl)) hs) (he := hs)) fun σ H Q ⟨Γ, φ, st, r, d, st', s, en, h, q⟩ => ?_
  unfold eBlt at h
  obtain ⟨y, h1, h⟩ := Option.bind_eq_some_iff.mp h
  obtain ⟨z, h2, h⟩ := Option.bind_eq_some_iff.mp h
  cases h
  unfold aCons at h1
  obtain ⟨x, h3, h1⟩ := Option.bind_eq_some_iff.mp h1
  obtain ⟨w, h4, h1⟩ := Option.bind_eq_some_iff.mp h1
  cases h4
  cases h1
  refine ⟨Γ, φ, st, r, x.1, x.2, s, en, h3, fun Γ1 H1 φ1 v x1 s1 i1 => ?_⟩
  obtain ⟨e, e1, e2, b, e3, e4⟩ := hf _ _ _ h2
  cases e1
  subst e3
  have fin : Q (.bl b) H1 := q _ _ _ _ x1 s1 (.bl b)
  have go : ∀ t, TyX X.K H1 v (.type t) → x.1.ty = t → rIsi X.K [v, .ty T] H1 Q := fun t h1 h2 => ⟨v, .ty T, _, _, b, rfl, .ty T, h1, kit_ty (by rw [← h2]; exact e4), fin⟩
  revert i1 e2 go
  generalize x.1 = e0
  intro i1 e2 go
  cases i1 with
  | non => exact go _ (.base .non) rfl
  | bl b => exact go _ (.base (.bl b)) rfl
  | int i => exact go _ (.base (.int i)) rfl
  | str z => exact go _ (.base (.str z)) rfl
  | tup e q1 => exact go _ (.base (.tup (s1.sub _ _ e))) rfl
  | lst e q1 => exact go _ (.base (.lst (s1.sub _ _ e))) rfl
  | ref e => exact absurd e2 (by simp [D.dat])
  | scr e => exact absurd e2 (by simp [D.dat])

/-! ### a call of a def -/
def spOf (C : Cf) (n : Nat) (f : F) : Sp := fun vs H Q _ => vs.length = n ∧ ∃ Γ φ st ds d st', Sim C Γ H φ st ∧ IsAll C Γ φ ds vs ∧ f ds st = some (d, st') ∧
  ∀ Γ' H' φ' v, Ext Γ H φ Γ' H' φ' → Sim C Γ' H' φ' st' → Is C Γ' φ' d v → Q v H'
/-- a def of the module, what it does -/
structure FunOk (P : Program) (w : World) (K : PySem.W.Frag) (mg : Str → Option Value) (base : Heap) (cl : Cl) (k n : Nat) (x : Str) (f : F) : Prop where
  ex : ∃ (a : Addr) (fd : FuncData) (ps : List Str), mg x = some (.ref a) ∧ PySem.W.keepIn K (.ref a) = true ∧ Binds K fd ps [] ∧ FnG P w K mg base k a fd ps (spOf ⟨w, K, cl⟩ n f)
theorem FunOk.mono {P : Program} {w : World} {K : PySem.W.Frag} {mg : Str → Option Value} {base : Heap} {k k' n : Nat} {f : F} (h : FunOk P w K mg base cl k n x f) (hk : k ≤ k') : FunOk P w K mg base cl k' n x f := by
  obtain ⟨a, fd, ps, h1, h2, h3, h4⟩ := h.ex
  exact ⟨a, fd, ps, h1, h2, h3, h4.mono hk⟩
/-- another word for what it does -/
theorem FunOk.imp {P : Program} {w : World} {K : PySem.W.Frag} {mg : Str → Option Value} {base : Heap} {k n : Nat} {f f' : F} (h : FunOk P w K mg base cl k n x f) (hf : ∀ ds st r, f' ds st = some r → f ds st = some r) : FunOk P w K mg base cl k n x f' := by
  obtain ⟨a, fd, ps, h1, h2, h3, h4⟩ := h.ex
  refine ⟨a, fd, ps, h1, h2, h3, h4.imp fun vs H Q E ⟨hl, Γ, φ, st, ds, d, st', s, i, e, q⟩ => ⟨hl, Γ, φ, st, ds, d, st', s, i, hf _ _ _ e, q⟩⟩
theorem se_call {e : Expr} {k n : Nat} {ff : F} (F : FunOk X.prog X.w X.K X.mg X.base cl k n x ff) (hr : RG k X.A) (hg : Gl X x) (ha : SA X cl (e :: es) aa) (hl : (e :: es).length = n := by rfl) (hdb : (x == ("__debug__" : Str)) = false := by decide)
    (he : starEach (e :: es) X.env = (false, eval e X.env) :: starEach es X.env := by rfl) (hpl : (backTo pos (starEach es X.env)).any (·.1) = false := by rfl) (hlen : ∀ r st ds st', aa r st = some (ds, st') → ds.length = n) : SE X cl (.Call (.Name x p) (e :: es) [] pos) (eCall ff aa) := by
  obtain ⟨a, fd, ps, h1, h2, h3, h4⟩ := F.ex
  refine PE.imp (pe_callG (E := E0) h4 hr hg h1 h2 h3 ha hdb he hpl) fun σ H Q ⟨Γ, φ, st, r, d, st', s, en, h, q⟩ => ?_
  unfold eCall at h
  obtain ⟨y, h1, h⟩ := Option.bind_eq_some_iff.mp h
  refine ⟨Γ, φ, st, r, y.1, y.2, s, en, h1, fun Γ1 H1 φ1 vs x1 s1 i1 => ⟨?_, Γ1, φ1, y.2, y.1, d, st', s1, ?_, h, fun Γ2 H2 φ2 v x2 s2 i2 => q _ _ _ _ (x1.trans x2) s2 i2⟩⟩
  · rw [List.append_nil, ← i1.length]
    exact hlen _ _ _ _ h1
  · rw [List.append_nil]; exact i1
/-- f(), a def without parameters -/
theorem se_call0 {k : Nat} {ff : F} (F : FunOk X.prog X.w X.K X.mg X.base cl k 0 x ff) (hr : RG k X.A) (hg : Gl X x) (hdb : (x == ("__debug__" : Str)) = false := by decide) : SE X cl (.Call (.Name x p) [] [] pos) (eCall ff aNil) := by
  obtain ⟨a, fd, ps, h1, h2, h3, h4⟩ := F.ex
  refine PE.imp (pe_callG0 (E := E0) h4 hr hg h1 h2 h3 hdb) fun σ H Q ⟨Γ, φ, st, r, d, st', s, en, h, q⟩ => ?_
  exact ⟨rfl, Γ, φ, st, [], d, st', s, .nil, h, fun Γ2 H2 φ2 v x2 s2 i2 => q _ _ _ _ x2 s2 i2⟩
end
theorem len_nil : ∀ (r : Env) (st : Sto) (ds : List D) (st' : Sto), aNil r st = some (ds, st') → ds.length = 0 := fun r st ds st' h => by cases h; rfl
theorem len_cons {a : E} {b : A} {n : Nat} (h : ∀ (r : Env) (st : Sto) (ds : List D) (st' : Sto), b r st = some (ds, st') → ds.length = n) : ∀ (r : Env) (st : Sto) (ds : List D) (st' : Sto), aCons a b r st = some (ds, st') → ds.length = n + 1 := fun r st ds st' e => by
  unfold aCons at e
  obtain ⟨x, h1, e⟩ := Option.bind_eq_some_iff.mp e
  obtain ⟨y, h2, e⟩ := Option.bind_eq_some_iff.mp e
  cases e
  rw [List.length_cons, h _ _ _ _ h2]
end EV
/-! EV.7: targets, statements, loops, comprehensions, defs. -/
namespace EV
open PySem PySem.Spec PyProof.Rows L2

theorem EnvOk.set {C : Cf} {Γ : Hp} {φ : List Addr} {r : Env} {σ : L2.St} {d : D} {v : V} (h : EnvOk C Γ φ r σ) (i : Nat) (hi : Is C Γ φ d v) : EnvOk C Γ φ (r.set i (some d)) (σ.set i (some v)) := by
  refine ⟨by rw [List.length_set, List.length_set]; exact h.1, fun j e he => ?_⟩
  by_cases hj : i = j
  · subst hj
    by_cases hl : i < r.length
    · rw [List.getElem?_set_self hl] at he
      cases he
      exact ⟨v, by rw [List.getElem?_set_self (by rw [← h.1]; exact hl)], hi⟩
    · rw [List.getElem?_eq_none (by simpa using hl)] at he; cases he
  · rw [List.getElem?_set_ne hj] at he ⊢
    exact h.2 j e he
theorem wipeE_length (r : Env) : ∀ vs : List Nat, (wipeE r vs).length = r.length
  | [] => rfl
  | v :: vs => by unfold wipeE; rw [List.length_set, wipeE_length r vs]
theorem EnvOk.wipe {C : Cf} {Γ : Hp} {φ : List Addr} {r : Env} {σ : L2.St} (h : EnvOk C Γ φ r σ) : ∀ vs : List Nat, EnvOk C Γ φ (wipeE r vs) (wipe σ vs)
  | [] => h
  | v :: vs => by
    have ih := EnvOk.wipe h vs
    unfold wipeE L2.wipe
    refine ⟨by rw [List.length_set, List.length_set]; exact ih.1, fun j e he => ?_⟩
    by_cases hj : v = j
    · subst hj
      by_cases hl : v < (wipeE r vs).length
      · rw [List.getElem?_set_self hl] at he; cases he
      · rw [List.getElem?_eq_none (by simpa using hl)] at he; cases he
    · rw [List.getElem?_set_ne hj] at he ⊢
      exact ih.2 j e he
theorem wipe_at (σ : L2.St) : ∀ (vs : List Nat) (i : Nat), (wipe σ vs)[i]? = if i ∈ vs then (if i < σ.length then some none else none) else σ[i]?
  | [], i => by simp [L2.wipe]
  | v :: vs, i => by
    unfold L2.wipe
    by_cases h : v = i
    · subst h
      by_cases hl : v < σ.length
      · rw [List.getElem?_set_self (by rw [wipe_length]; exact hl)]; simp [hl]
      · rw [List.getElem?_eq_none (by rw [List.length_set, wipe_length]; omega)]; simp [hl]
    · rw [List.getElem?_set_ne h, wipe_at σ vs i]
      have h' : ¬ i = v := fun e => h e.symm
      simp [h']
theorem wipe_back {σ σ2 : L2.St} {vs gs : List Nat} (hl : σ2.length = (wipe σ vs).length) (hs : ∀ i ∈ gs, i ∈ vs) (h : ∀ i, i ∉ gs → σ2[i]? = (wipe σ vs)[i]?) : wipe σ2 vs = wipe σ vs := by
  apply List.ext_getElem?
  intro i
  rw [wipe_at, wipe_at]
  rw [wipe_length] at hl
  by_cases hi : i ∈ vs
  · rw [if_pos hi, if_pos hi, hl]
  · rw [if_neg hi, if_neg hi, h i (fun z => hi (hs i z)), wipe_at, if_neg hi]

/-! ### targets -/
def tG (C : Cf) (gs : List Nat) (g : G) : TG := fun v σ H Q => ∃ Γ φ st r d r', Sim C Γ H φ st ∧ EnvOk C Γ φ r σ ∧ Is C Γ φ d v ∧ g d st r = some r' ∧ ∀ σ', EnvOk C Γ φ r' σ' → σ'.length = σ.length → (∀ i, i ∉ gs → σ'[i]? = σ[i]?) → Q σ' H
def tGs (C : Cf) (gs : List Nat) (g : Gs) : TGs := fun vs σ H Q => ∃ Γ φ st r ds r', Sim C Γ H φ st ∧ EnvOk C Γ φ r σ ∧ IsAll C Γ φ ds vs ∧ g ds st r = some r' ∧ ∀ σ', EnvOk C Γ φ r' σ' → σ'.length = σ.length → (∀ i, i ∉ gs → σ'[i]? = σ[i]?) → Q σ' H
abbrev SG (X : Cx) (cl : Cl) (e : Expr) (gs : List Nat) (g : G) : Prop := PG X e (tG (cf X cl) gs g)
abbrev SGs (X : Cx) (cl : Cl) (e : List Expr) (gs : List Nat) (g : Gs) : Prop := PGs X e (tGs (cf X cl) gs g)
section
variable {X : Cx} {cl : Cl}
theorem sg_name {i : Nat} {x : Str} {pos : Pos} (hN : X.N.Nodup) (hi : X.N[i]? = some x) (hx : Loc X.env.scope x) (hf : X.fn x = true ∨ X.env.scope.names.lookup x = some .local := by first | exact .inl rfl | exact .inr rfl | assumption) : SG X cl (.Name x pos) [i] (gNm i) :=
  PG.imp (pg_name hN hi hx hf) fun v σ H Q ⟨Γ, φ, st, r, d, r', s, en, is, h, q⟩ => by
    cases h
    refine q _ (en.set i is) (by rw [List.length_set]) fun j hj => ?_
    rw [List.getElem?_set_ne (fun e => hj (by simp [e]))]
theorem sgs_nil : SGs X cl [] [] gsNil := PGs.imp pgs_nil fun v σ H Q ⟨Γ, φ, st, r, ds, r', s, en, is, h, q⟩ => by
  cases ds with
  | nil =>
    cases h
    cases is
    exact ⟨rfl, q σ en rfl fun _ _ => rfl⟩
  | cons _ _ => cases h
theorem sgs_cons {e : Expr} {es : List Expr} {g1 g2 : List Nat} {g : G} {h : Gs} (h1 : SG X cl e g1 g) (h2 : SGs X cl es g2 h) (hs : (assignEach (e :: es) X.env).map (·.2) = assign e X.env :: (assignEach es X.env).map (·.2) := by rfl) :
    SGs X cl (e :: es) (g1 ++ g2) (gsCons g h) := PGs.imp (pgs_cons h1 h2 hs) fun vs σ H Q ⟨Γ, φ, st, r, ds, r', s, en, is, hh, q⟩ => by
  cases ds with
  | nil => cases hh
  | cons d ds =>
    unfold gsCons at hh
    obtain ⟨r1, e1, e2⟩ := Option.bind_eq_some_iff.mp hh
    cases is with
    | cons i1 i2 =>
      refine ⟨_, _, rfl, Γ, φ, st, r, d, r1, s, en, i1, e1, fun σ1 en1 l1 k1 => ⟨Γ, φ, st, r1, ds, r', s, en1, i2, e2, fun σ2 en2 l2 k2 => q σ2 en2 (l2.trans l1) fun j hj => ?_⟩⟩
      rw [List.mem_append, not_or] at hj
      exact (k2 j hj.2).trans (k1 j hj.1)
theorem sg_tup {es : List Expr} {k n : Nat} {pos : Pos} {gs : List Nat} {g : Gs} (hc : X.calm = true) (h : SGs X cl es gs g) (hn : (assignEach es X.env).length = n := by rfl) (hst : (assignEach es X.env).findIdx? (·.1) = none := by rfl) :
    SG X cl (.Tuple es k pos) gs (gTp n g) := PG.imp (pg_tup hc h hn hst) fun v σ H Q ⟨Γ, φ, st, r, d, r', s, en, is, hh, q⟩ => by
  unfold gTp at hh
  split at hh
  · rename_i l
    split at hh
    · rename_i hl
      cases is with
      | tup e q1 => exact ⟨_, _, rfl, SqT.of (s.sub _ _ e), by rw [← q1.length]; exact hl, Γ, φ, st, r, l, r', s, en, q1, hh, q⟩
    · cases hh
  · cases hh

/-! ### statements -/
def EndOk (C : Cf) (Γ : Hp) (φ : List Addr) (Dn : Ends) (n : Nat) (H : Hp) : Out → Prop
  | .next r => ∀ σ', EnvOk C Γ φ r σ' → σ'.length = n → Dn.nx σ' H
  | .brk r => ∀ σ', EnvOk C Γ φ r σ' → σ'.length = n → Dn.bk σ' H
  | .cont r => ∀ σ', EnvOk C Γ φ r σ' → σ'.length = n → Dn.ct σ' H
  | .ret d => ∀ v, Is C Γ φ d v → Dn.rt v H
def tS (C : Cf) (s : S) : TS := fun Dn σ H => ∃ Γ φ st r o st', Sim C Γ H φ st ∧ EnvOk C Γ φ r σ ∧ s r st = some (o, st') ∧ ∀ Γ' H' φ', Ext Γ H φ Γ' H' φ' → Sim C Γ' H' φ' st' → EndOk C Γ' φ' Dn σ.length H' o
abbrev SS (X : Cx) (cl : Cl) (e : Stmt) (a : S) : Prop := PS X e (tS (cf X cl) a)
abbrev SSs (X : Cx) (cl : Cl) (e : List Stmt) (a : S) : Prop := PSs X e (tS (cf X cl) a)
variable {st1 : Stmt} {rest : List Stmt} {a b c : S} {e e2 e3 : Expr} {ea eb ec : E} {pos : Pos} {ta : T}
theorem sss_nil : SSs X cl [] sNext := PSs.imp pss_nil fun Dn σ H ⟨Γ, φ, st, r, o, st', s, en, h, q⟩ => by
  cases h
  exact q _ _ _ (.refl s) s σ en rfl
theorem sss_cons (h1 : SS X cl st1 a) (h2 : SSs X cl rest b) : SSs X cl (st1 :: rest) (sSeq a b) := PSs.imp (pss_cons h1 h2) fun Dn σ H ⟨Γ, φ, st, r, o, st', s, en, h, q⟩ => by
  unfold sSeq at h
  obtain ⟨x, e1, h⟩ := Option.bind_eq_some_iff.mp h
  obtain ⟨o1, st1⟩ := x
  refine ⟨Γ, φ, st, r, o1, st1, s, en, e1, fun Γ1 H1 φ1 x1 s1 => ?_⟩
  cases o1 with
  | next r1 =>
    intro σ1 en1 l1
    exact ⟨Γ1, φ1, st1, r1, o, st', s1, en1, h, fun Γ2 H2 φ2 x2 s2 => by rw [l1]; exact q _ _ _ (x1.trans x2) s2⟩
  | brk r1 => cases h; exact q _ _ _ x1 s1
  | cont r1 => cases h; exact q _ _ _ x1 s1
  | ret d => cases h; exact q _ _ _ x1 s1
theorem sss_one (h1 : SS X cl st1 a) : SSs X cl [st1] a := pss_one h1
theorem ss_pass : SS X cl (.Pass pos) sNext := PS.imp ps_pass fun Dn σ H ⟨Γ, φ, st, r, o, st', s, en, h, q⟩ => by
  cases h
  exact q _ _ _ (.refl s) s σ en rfl
theorem ss_break : SS X cl (.Break pos) sBreak := PS.imp ps_break fun Dn σ H ⟨Γ, φ, st, r, o, st', s, en, h, q⟩ => by
  cases h
  exact q _ _ _ (.refl s) s σ en rfl
theorem ss_never : SS X cl st1 sNever := PS.imp ps_never fun Dn σ H ⟨Γ, φ, st, r, o, st', s, en, h, q⟩ => by cases h
theorem ss_drop (he : SE X cl e ea) (hs : swapsWith e none pos.line X.env = pure false := by rfl) : SS X cl (.Expr e pos) (sDrop ea) := PS.imp (ps_expr he hs) fun Dn σ H ⟨Γ, φ, st, r, o, st', s, en, h, q⟩ => by
  unfold sDrop at h
  obtain ⟨x, e1, h⟩ := Option.bind_eq_some_iff.mp h
  cases h
  exact ⟨Γ, φ, st, r, x.1, x.2, s, en, e1, fun Γ1 H1 φ1 v x1 s1 i1 => q _ _ _ x1 s1 σ (x1.env en) rfl⟩
theorem ss_ret (he : SE X cl e ea) : SS X cl (.Return (some e) pos) (sRet ea) := PS.imp (ps_ret he) fun Dn σ H ⟨Γ, φ, st, r, o, st', s, en, h, q⟩ => by
  unfold sRet at h
  obtain ⟨x, e1, h⟩ := Option.bind_eq_some_iff.mp h
  cases h
  exact ⟨Γ, φ, st, r, x.1, x.2, s, en, e1, fun Γ1 H1 φ1 v x1 s1 i1 => q _ _ _ x1 s1 v i1⟩
theorem ss_retN : SS X cl (.Return none pos) sRetN := PS.imp ps_retN fun Dn σ H ⟨Γ, φ, st, r, o, st', s, en, h, q⟩ => by
  cases h
  exact q _ _ _ (.refl s) s _ .non
theorem ss_if {ce : Expr} {p1 p2 : List Stmt} (hc : ST X cl ce ta) (ha : SSs X cl p1 a) (hb : SSs X cl p2 b) : SS X cl (.If ce p1 p2 pos) (sIf ta a b) := PS.imp (ps_if hc ha hb) fun Dn σ H ⟨Γ, φ, st, r, o, st', s, en, h, q⟩ => by
  unfold sIf at h
  obtain ⟨x, e1, h⟩ := Option.bind_eq_some_iff.mp h
  refine ⟨Γ, φ, st, r, x.1, x.2, s, en, e1, fun Γ1 H1 φ1 x1 s1 => ?_⟩
  split at h
  · rename_i hk
    rw [if_pos hk]
    exact ⟨Γ1, φ1, x.2, r, o, st', s1, x1.env en, h, fun Γ2 H2 φ2 x2 s2 => q _ _ _ (x1.trans x2) s2⟩
  · rename_i hk
    rw [if_neg hk]
    exact ⟨Γ1, φ1, x.2, r, o, st', s1, x1.env en, h, fun Γ2 H2 φ2 x2 s2 => q _ _ _ (x1.trans x2) s2⟩
theorem asg_of {C : Cf} {g : G} {gs : List Nat} {Dn : Ends} {σ : L2.St} {H : Hp} (h : tS C (sAsg ea g) Dn σ H) : tAsg (tD C ea) (tG C gs g) Dn σ H := by
  obtain ⟨Γ, φ, st, r, o, st', s, en, h, q⟩ := h
  unfold sAsg at h
  obtain ⟨x, e1, h⟩ := Option.bind_eq_some_iff.mp h
  obtain ⟨r1, e2, h⟩ := Option.bind_eq_some_iff.mp h
  cases h
  exact ⟨Γ, φ, st, r, x.1, x.2, s, en, e1, fun Γ1 H1 φ1 v x1 s1 i1 => ⟨Γ1, φ1, x.2, r, x.1, r1, s1, x1.env en, i1, e2, fun σ' en' l' _ => q _ _ _ x1 s1 σ' en' l'⟩⟩
theorem ss_asg {tg : Expr} {g : G} {gs : List Nat} (he : SE X cl e ea) (hg : SG X cl tg gs g) (hs : swapsWithSole [tg] e pos.line X.env = pure false := by rfl) (hw : swappedStores [tg] e X.env = pure none := by rfl)
    (h1 : (assignEach [tg] X.env).map (·.2) = [assign tg X.env] := by rfl) : SS X cl (.Assign [tg] e pos) (sAsg ea g) := PS.imp (ps_asg he hg hs hw h1) fun _ _ _ h => asg_of h
theorem set_of {C : Cf} {i : Nat} {Dn : Ends} {σ : L2.St} {H : Hp} (h : tS C (sAsg ea (gNm i)) Dn σ H) : tD C ea σ H fun v H1 => gName i v σ H1 Dn.nx := by
  obtain ⟨Γ, φ, st, r, o, st', s, en, h, q⟩ := h
  unfold sAsg at h
  obtain ⟨y, e1, h⟩ := Option.bind_eq_some_iff.mp h
  obtain ⟨r1, e2, h⟩ := Option.bind_eq_some_iff.mp h
  cases h
  cases e2
  exact ⟨Γ, φ, st, r, y.1, y.2, s, en, e1, fun Γ1 H1 φ1 v x1 s1 i1 => q _ _ _ x1 s1 _ ((x1.env en).set i i1) (by rw [List.length_set])⟩
theorem ss_set {i : Nat} {x : Str} {pos' : Pos} (hN : X.N.Nodup) (hi : X.N[i]? = some x) (hx : Loc X.env.scope x) (he : SE X cl e ea) (hs : swapsWith e (some (.Name x pos')) pos.line X.env = pure false := by rfl) (hf : X.fn x = true ∨ X.env.scope.names.lookup x = some .local := by first | exact .inl rfl | exact .inr rfl | assumption) :
    SS X cl (.Assign [.Name x pos'] e pos) (sAsg ea (gNm i)) := PS.imp (ps_set hN hi hx he hs hf) fun _ _ _ h => set_of h
theorem par2_inv {i j : Nat} {ds : List D} {st : Sto} {r r1 : Env} (h : gTp 2 (gsCons (gNm i) (gsCons (gNm j) gsNil)) (.tup ds) st r = some r1) : ∃ d1 d2, ds = [d1, d2] ∧ r1 = (r.set i (some d1)).set j (some d2) := by
  match ds, h with
  | [], h => cases h
  | [_], h => cases h
  | [d1, d2], h => cases h; exact ⟨d1, d2, rfl, rfl⟩
  | _ :: _ :: _ :: t, h =>
    simp [gTp] at h
theorem par3_inv {i j l : Nat} {ds : List D} {st : Sto} {r r1 : Env} (h : gTp 3 (gsCons (gNm i) (gsCons (gNm j) (gsCons (gNm l) gsNil))) (.tup ds) st r = some r1) : ∃ d1 d2 d3, ds = [d1, d2, d3] ∧ r1 = ((r.set i (some d1)).set j (some d2)).set l (some d3) := by
  match ds, h with
  | [], h => cases h
  | [_], h => cases h
  | [_, _], h => cases h
  | [d1, d2, d3], h => cases h; exact ⟨d1, d2, d3, rfl, rfl⟩
  | _ :: _ :: _ :: _ :: t, h =>
    simp [gTp] at h
/-- a, b = x, y at plain local names -/
theorem ss_par {i j : Nat} {x y : Str} {e e2 : Expr} {px py pt : Pos} {kt k2 pt2} (hc : X.calm = true) (hN : X.N.Nodup) (hi : X.N[i]? = some x) (hj : X.N[j]? = some y) (hij : i ≠ j)
    (hx : X.env.scope.names.lookup x = some .local) (hy : X.env.scope.names.lookup y = some .local) (ha : SE X cl e ea) (hb : SE X cl e2 eb)
    (hw : swappedStores [.Tuple [.Name x px, .Name y py] kt pt] (.Tuple [e, e2] k2 pt2) X.env = pure (some [x, y]))
    (hs : swapsWithSole [.Tuple [.Name x px, .Name y py] kt pt] (.Tuple [e, e2] k2 pt2) pos.line X.env = pure false := by rfl)
    (hs1 : starEach [e, e2] X.env = (false, eval e X.env) :: starEach [e2] X.env := by rfl) (hs2 : starEach [e2] X.env = (false, eval e2 X.env) :: starEach [] X.env := by rfl) :
    SS X cl (.Assign [.Tuple [.Name x px, .Name y py] kt pt] (.Tuple [e, e2] k2 pt2) pos) (sAsg (eTup (aCons ea (aCons eb aNil))) (gTp 2 (gsCons (gNm i) (gsCons (gNm j) gsNil)))) :=
  PS.imp (ps_par hc hN hi hj hij hx hy (sa_cons ha (sa_cons hb sa_nil hs2) hs1) hw hs) fun Dn σ H h => by
    obtain ⟨Γ, φ, st, r, o, st', s, en, h, q⟩ := h
    unfold sAsg at h
    obtain ⟨z, e1, h⟩ := Option.bind_eq_some_iff.mp h
    obtain ⟨r1, e2, h⟩ := Option.bind_eq_some_iff.mp h
    cases h
    unfold eTup at e1
    obtain ⟨w, e3, e1⟩ := Option.bind_eq_some_iff.mp e1
    split at e1
    · cases e1
      refine ⟨Γ, φ, st, r, w.1, w.2, s, en, e3, fun Γ1 H1 φ1 vs x1 s1 i1 => ?_⟩
      obtain ⟨d1, d2, g1, g2⟩ := par2_inv e2
      have g1 : w.1 = [d1, d2] := g1
      rw [g1] at i1
      subst g2
      cases i1 with
      | cons i1 t1 =>
        cases t1 with
        | cons i2 t2 =>
          cases t2
          exact ⟨_, _, rfl, q _ _ _ x1 s1 _ (((x1.env en).set i i1).set j i2) (by rw [List.length_set, List.length_set])⟩
    · cases e1
theorem ss_par3 {i j l : Nat} {x y z : Str} {e e2 e3 : Expr} {px py pz pt : Pos} {kt k2 pt2} (hc : X.calm = true) (hN : X.N.Nodup) (hi : X.N[i]? = some x) (hj : X.N[j]? = some y) (hl : X.N[l]? = some z) (hij : i ≠ j) (hil : i ≠ l) (hjl : j ≠ l)
    (hx : X.env.scope.names.lookup x = some .local) (hy : X.env.scope.names.lookup y = some .local) (hz : X.env.scope.names.lookup z = some .local) (ha : SE X cl e ea) (hb : SE X cl e2 eb) (hb3 : SE X cl e3 ec)
    (hw : swappedStores [.Tuple [.Name x px, .Name y py, .Name z pz] kt pt] (.Tuple [e, e2, e3] k2 pt2) X.env = pure (some [x, y, z]))
    (hs : swapsWithSole [.Tuple [.Name x px, .Name y py, .Name z pz] kt pt] (.Tuple [e, e2, e3] k2 pt2) pos.line X.env = pure false := by rfl)
    (hs1 : starEach [e, e2, e3] X.env = (false, eval e X.env) :: starEach [e2, e3] X.env := by rfl) (hs2 : starEach [e2, e3] X.env = (false, eval e2 X.env) :: starEach [e3] X.env := by rfl) (hs3 : starEach [e3] X.env = (false, eval e3 X.env) :: starEach [] X.env := by rfl) :
    SS X cl (.Assign [.Tuple [.Name x px, .Name y py, .Name z pz] kt pt] (.Tuple [e, e2, e3] k2 pt2) pos) (sAsg (eTup (aCons ea (aCons eb (aCons ec aNil)))) (gTp 3 (gsCons (gNm i) (gsCons (gNm j) (gsCons (gNm l) gsNil))))) :=
  PS.imp (ps_par3 hc hN hi hj hl hij hil hjl hx hy hz (sa_cons ha (sa_cons hb (sa_cons hb3 sa_nil hs3) hs2) hs1) hw hs) fun Dn σ H h => by
    obtain ⟨Γ, φ, st, r, o, st', s, en, h, q⟩ := h
    unfold sAsg at h
    obtain ⟨z, e1, h⟩ := Option.bind_eq_some_iff.mp h
    obtain ⟨r1, e2, h⟩ := Option.bind_eq_some_iff.mp h
    cases h
    unfold eTup at e1
    obtain ⟨w, e3, e1⟩ := Option.bind_eq_some_iff.mp e1
    split at e1
    · cases e1
      refine ⟨Γ, φ, st, r, w.1, w.2, s, en, e3, fun Γ1 H1 φ1 vs x1 s1 i1 => ?_⟩
      obtain ⟨d1, d2, d3, g1, g2⟩ := par3_inv e2
      have g1 : w.1 = [d1, d2, d3] := g1
      rw [g1] at i1
      subst g2
      cases i1 with
      | cons i1 t1 =>
        cases t1 with
        | cons i2 t2 =>
          cases t2 with
          | cons i3 t3 =>
            cases t3
            exact ⟨_, _, _, rfl, q _ _ _ x1 s1 _ ((((x1.env en).set i i1).set j i2).set _ i3) (by rw [List.length_set, List.length_set, List.length_set])⟩
    · cases e1
/-- x op= e -/
theorem ss_aug {i : Nat} {x : Str} {op : Operator} {pos' : Pos} {f : Sto → D → D → Option D} (hN : X.N.Nodup) (hi : X.N[i]? = some x) (hx : Loc X.env.scope x) (ho : PIp X op (rD (cf X cl) f)) (he : SE X cl e ea) (hf : X.fn x = true ∨ X.env.scope.names.lookup x = some .local := by first | exact .inl rfl | exact .inr rfl | assumption) :
    SS X cl (.AugAssign (.Name x pos') op e pos) (sAug i f ea) := PS.imp (ps_aug hN hi hx he ho hf) fun Dn σ H h => by
  obtain ⟨Γ, φ, st, r, o, st', s, en, h, q⟩ := h
  unfold sAug at h
  split at h
  · rename_i d ed
    obtain ⟨y, e1, h⟩ := Option.bind_eq_some_iff.mp h
    obtain ⟨z, e2, h⟩ := Option.bind_eq_some_iff.mp h
    cases h
    obtain ⟨v, hv, iv⟩ := en.2 i d ed
    exact ⟨v, hv, Γ, φ, st, r, y.1, y.2, s, en, e1, fun Γ1 H1 φ1 w x1 s1 i1 => ⟨Γ1, φ1, y.2, d, y.1, z, s1, x1.is iv, i1, e2, fun Γ2 H2 φ2 u x2 s2 i2 => q _ _ _ (x1.trans x2) s2 _ ((x2.env (x1.env en)).set i i2) (by rw [List.length_set])⟩⟩
  · cases h
def oAddI (_ : Sto) (a b : D) : Option D := match a, b with
  | .int i, .int j => some (.int (i + j))
  | _, _ => none
theorem ip_addI : PIp X .Add (rD (cf X cl) oAddI) := by
  intro pins s σ H x y v u Q I rx ry h0
  obtain ⟨Γ, φ, st, dx, dy, d, sm, i1, i2, h, q⟩ := rD_fin h0
  unfold oAddI at h
  split at h
  · cases i1; cases i2; cases h
    exact ip_add pins s σ H _ _ v u Q I rx ry ⟨_, _, rfl, rfl, q _ (.int _)⟩
  · cases h
theorem ip_subI : PIp X .Sub (rD (cf X cl) oSub) := by
  intro pins s σ H x y v u Q I rx ry h0
  obtain ⟨Γ, φ, st, dx, dy, d, sm, i1, i2, h, q⟩ := rD_fin h0
  unfold oSub at h
  split at h
  · cases i1; cases i2; cases h
    exact ip_sub pins s σ H _ _ v u Q I rx ry ⟨_, _, rfl, rfl, q _ (.int _)⟩
  · cases h

/-! ### xs[i] = e, xs[i] op= e, xs.append(e) -/
def tSetD (C : Cf) : TSet := fun o i v H Q => ∃ Γ φ st dx dy dz st', Sim C Γ H φ st ∧ Is C Γ φ dx o ∧ Is C Γ φ dy i ∧ Is C Γ φ dz v ∧ setIdx st dx dy dz = some st' ∧ ∀ H', Ext Γ H φ Γ H' φ → Sim C Γ H' φ st' → Q H'
theorem not_own {H : Hp} {p : Addr} {vs : List V} (h : H p = some (.lst vs)) : ∀ u, H p = some u → ∀ a, u ≠ .own a := fun u e a z => by rw [h] at e; cases e; cases z
theorem set_D : PSet X (tSetD (cf X cl)) := by
  intro pins s σ H o i v ov iv u Q I ro ri rv h
  obtain ⟨Γ, φ, st, dx, dy, dz, st', sm, i1, i2, i3, h, q⟩ := h
  unfold setIdx at h
  split at h
  · rename_i n k
    split at h
    · rename_i l hl
      obtain ⟨j, h1, h⟩ := Option.bind_eq_some_iff.mp h
      cases h
      cases i2
      cases i1 with
      | ref e =>
        obtain ⟨vs, e1, q1⟩ := sm.cell _ _ _ hl e
        refine set_list pins s σ H _ _ v ov iv u Q I ro ri rv ⟨_, vs, _, j, rfl, rfl, e1, by rw [← q1.length]; exact h1, ?_⟩
        obtain ⟨s2, x2⟩ := sm.write (o := .lst (vs.set j v)) (c := .lst (l.set j dz)) e (not_own e1) ⟨_, upd_same, q1.set i3 j⟩
        exact q _ x2 s2
    · cases h
  · cases h
theorem ss_setix (ho : SE X cl e ea) (hi : SE X cl e2 eb) (he : SE X cl e3 ec) {p2 : Pos}
    (ha : ∀ v, assign (.Subscript e e2 p2) X.env v = (do
      let ov ← holding [v] (eval e X.env)
      let iv ← holding [v, ov] (eval e2 X.env)
      standAt p2
      holding [v, ov, iv] (setItem ov iv v)
      release [v, ov, iv] []) := by intro _; rfl)
    (hs : swapsWithSole [.Subscript e e2 p2] e3 pos.line X.env = pure false := by rfl) (hw : swappedStores [.Subscript e e2 p2] e3 X.env = pure none := by rfl)
    (h1 : (assignEach [.Subscript e e2 p2] X.env).map (·.2) = [assign (.Subscript e e2 p2) X.env] := by rfl) : SS X cl (.Assign [.Subscript e e2 p2] e3 pos) (sSetIx ea eb ec) :=
  PS.imp (ps_asg he (pg_sub ho hi (set_D (cl := cl)) ha) hs hw h1) fun Dn σ H h => by
    obtain ⟨Γ, φ, st, r, o, st', s, en, h, q⟩ := h
    unfold sSetIx at h
    obtain ⟨v, g1, h⟩ := Option.bind_eq_some_iff.mp h
    obtain ⟨x, g2, h⟩ := Option.bind_eq_some_iff.mp h
    obtain ⟨y, g3, h⟩ := Option.bind_eq_some_iff.mp h
    obtain ⟨z, g4, h⟩ := Option.bind_eq_some_iff.mp h
    cases h
    exact ⟨Γ, φ, st, r, v.1, v.2, s, en, g1, fun Γ1 H1 φ1 v1 x1 s1 i1 => ⟨Γ1, φ1, v.2, r, x.1, x.2, s1, x1.env en, g2, fun Γ2 H2 φ2 v2 x2 s2 i2 => ⟨Γ2, φ2, x.2, r, y.1, y.2, s2, x2.env (x1.env en), g3, fun Γ3 H3 φ3 v3 x3 s3 i3 =>
      ⟨Γ3, φ3, y.2, x.1, y.1, v.1, _, s3, x3.is i2, i3, x3.is (x2.is i1), g4, fun H4 x4 s4 => q _ _ _ (((x1.trans x2).trans x3).trans x4) s4 σ (x4.env (x3.env (x2.env (x1.env en)))) rfl⟩⟩⟩⟩
theorem ss_augix {op : Operator} {p2 : Pos} {f : Sto → D → D → Option D} (ho : SE X cl e ea) (hi : SE X cl e2 eb) (hp : PIp X op (rD (cf X cl) f)) (he : SE X cl e3 ec)
    (ha : ∀ ov iv new, augStore e2 ov iv new = (do holding [new, ov, iv] (setItem ov iv new); release [new, ov, iv] []; pure .next) := by intros; rfl) : SS X cl (.AugAssign (.Subscript e e2 p2) op e3 pos) (sAugIx ea eb f ec) :=
  PS.imp (ps_augS ho hi (get_D (cl := cl)) he hp (set_D (cl := cl)) ha) fun Dn σ H h => by
    obtain ⟨Γ, φ, st, r, o, st', s, en, h, q⟩ := h
    unfold sAugIx at h
    obtain ⟨x, g1, h⟩ := Option.bind_eq_some_iff.mp h
    obtain ⟨y, g2, h⟩ := Option.bind_eq_some_iff.mp h
    obtain ⟨old, g3, h⟩ := Option.bind_eq_some_iff.mp h
    obtain ⟨v, g4, h⟩ := Option.bind_eq_some_iff.mp h
    obtain ⟨z, g5, h⟩ := Option.bind_eq_some_iff.mp h
    obtain ⟨t, g6, h⟩ := Option.bind_eq_some_iff.mp h
    cases h
    exact ⟨Γ, φ, st, r, x.1, x.2, s, en, g1, fun Γ1 H1 φ1 v1 x1 s1 i1 => ⟨Γ1, φ1, x.2, r, y.1, y.2, s1, x1.env en, g2, fun Γ2 H2 φ2 v2 x2 s2 i2 => ⟨Γ2, φ2, y.2, x.1, y.1, old, s2, x2.is i1, i2, g3, fun Γ3 H3 φ3 v3 x3 s3 i3 =>
      ⟨Γ3, φ3, y.2, r, v.1, v.2, s3, x3.env (x2.env (x1.env en)), g4, fun Γ4 H4 φ4 v4 x4 s4 i4 => ⟨Γ4, φ4, v.2, old, v.1, z, s4, x4.is i3, i4, g5, fun Γ5 H5 φ5 v5 x5 s5 i5 =>
        ⟨Γ5, φ5, v.2, x.1, y.1, z, _, s5, x5.is (x4.is (x3.is (x2.is i1))), x5.is (x4.is (x3.is i2)), i5, g6, fun H6 x6 s6 => q _ _ _ (((((x1.trans x2).trans x3).trans x4).trans x5).trans x6) s6 σ (x6.env (x5.env (x4.env (x3.env (x2.env (x1.env en)))))) rfl⟩⟩⟩⟩⟩⟩
theorem ss_app {apos p2 : Pos} (ho : SE X cl e ea) (he : SE X cl e2 eb) (hst : starEach [e2] X.env = (false, eval e2 X.env) :: starEach [] X.env := by rfl)
    (hbase : attributeBase e "append" X.env (eval e X.env) = eval e X.env := by rfl)
    (hfew : ((backTo p2 (starEach [e2] X.env)).all (fun x => !x.1) && (backToKw p2 (keywordEach [] X.env)).all (fun x => x.1.isSome)
      && decide ([e2].length + ([] : List Keyword).length + (if ([] : List Keyword).isEmpty then 0 else 1) < 30)) = true := by rfl)
    (hline : (apos.endLine == p2.line) = true := by rfl) (hpl : (backTo p2 (starEach [] X.env)).any (·.1) = false := by rfl)
    (hs : swapsWith (.Call (.Attribute e "append" apos) [e2] [] p2) none pos.line X.env = pure false := by rfl) :
    SS X cl (.Expr (.Call (.Attribute e "append" apos) [e2] [] p2) pos) (sApp ea eb) := PS.imp (ps_expr (pe_bm PySem.F.plainAttrs_list PySem.F.slot_list_append PySem.F.type_list_append mt_append ho (pa_cons he pa_nil hst) hbase hfew hline hst hpl) hs) fun Dn σ H h => by
  obtain ⟨Γ, φ, st, r, o, st', s, en, h, q⟩ := h
  unfold sApp at h
  obtain ⟨x, g1, h⟩ := Option.bind_eq_some_iff.mp h
  obtain ⟨l0, g0, h⟩ := Option.bind_eq_some_iff.mp h
  obtain ⟨v, g2, h⟩ := Option.bind_eq_some_iff.mp h
  split at h
  · rename_i n ex
    split at h
    · rename_i l hl
      split at h
      · rename_i hz
        cases h
        refine ⟨Γ, φ, st, r, x.1, x.2, s, en, g1, fun Γ1 H1 φ1 v1 x1 s1 i1 => ?_⟩
        obtain ⟨a0, vs0, ev0, e0, q0⟩ := asL_at s1 g0 i1
        rw [ex] at i1
        cases i1 with
        | ref e1 =>
          cases ev0
          refine ⟨.inl ⟨rfl, _, SqL.of e0⟩, Γ1, φ1, x.2, r, v.1, v.2, s1, x1.env en, g2, fun Γ2 H2 φ2 v2 x2 s2 i2 => ?_⟩
          obtain ⟨vs, e3, q3⟩ := s2.cell _ _ _ hl (pre_get x2.ps e1)
          refine ⟨_, vs, v2, rfl, rfl, e3, by rw [← q3.length]; exact hz, ?_⟩
          obtain ⟨s3, x3⟩ := s2.write (o := .lst (vs ++ [v2])) (c := .lst (l ++ [v.1])) (pre_get x2.ps e1) (not_own e3) ⟨_, upd_same, q3.append (.cons i2 .nil)⟩
          exact q _ _ _ ((x1.trans x2).trans x3) s3 σ (x3.env (x2.env (x1.env en))) rfl
      · cases h
    · cases h
  · cases h
end
end EV
/-! EV.8: what is walked, loops, comprehensions, defs. -/
namespace EV
open PySem PySem.Spec PyProof.Rows L2

/-- J walks what src tells, while the state goes on from Γ0, φ0 -/
structure WalkOk (C : Cf) (J : It) (src : Src) (Γ0 : Hp) (φ0 : List Addr) : Prop where
  go : ∀ Γ H φ st, (∀ a o, Γ0 a = some o → Γ a = some o) → φ0 <+: φ → Sim C Γ H φ st → src.ok st = true → ∀ i d, i < src.len → src.get st i = some d →
    J.go i H ∧ ∀ x H', J.yld i H x H' → ∃ Γ', Ext Γ H φ Γ' H' φ ∧ Sim C Γ' H' φ st ∧ Is C Γ' φ d x
  stop : ∀ Γ H φ st, (∀ a o, Γ0 a = some o → Γ a = some o) → φ0 <+: φ → Sim C Γ H φ st → src.ok st = true → J.stop src.len H
def tI (C : Cf) (i : I) : TI := fun σ H R => ∃ Γ φ st r s st', Sim C Γ H φ st ∧ EnvOk C Γ φ r σ ∧ i r st = some (s, st') ∧
  ∀ Γ' H' φ' J, Ext Γ H φ Γ' H' φ' → Sim C Γ' H' φ' st' → WalkOk C J s Γ' φ' → R J H'
abbrev SI (X : Cx) (cl : Cl) (tg e : Expr) (i : I) : Prop := PI X tg e (tI (cf X cl) i)

section
variable {X : Cx} {cl : Cl} {C : Cf} {tg e e2 : Expr} {ea eb : E}
theorem walk_frz {Γ0 : Hp} {φ0 : List Addr} {a : Addr} {vs : List V} {l : List D} (h : Γ0 a = some (.lst vs)) (q : IsAll C Γ0 φ0 l vs) : WalkOk C (Itl C.K a) (.vals l) Γ0 φ0 where
  go := fun Γ H φ st g p s _ i d hi hd => by
    have hs : SqL C.K H a vs := SqL.of (s.sub _ _ (g _ _ h))
    obtain ⟨v, e1, e2⟩ := q.get hd
    refine ⟨⟨vs, v, hs, e1⟩, fun x H' y => ?_⟩
    obtain ⟨y1, y2⟩ := y
    subst y1
    have z := y2 vs hs
    rw [e1] at z; cases z
    exact ⟨Γ, .refl s, s, e2.mono g p⟩
  stop := fun Γ H φ st g p s _ => ⟨vs, SqL.of (s.sub _ _ (g _ _ h)), by rw [← q.length]; exact Nat.le_refl _⟩
theorem walk_frzT {Γ0 : Hp} {φ0 : List Addr} {a : Addr} {vs : List V} {l : List D} (h : Γ0 a = some (.tup vs)) (q : IsAll C Γ0 φ0 l vs) : WalkOk C (Itt C.K a) (.vals l) Γ0 φ0 where
  go := fun Γ H φ st g p s _ i d hi hd => by
    have hs : SqT C.K H a vs := SqT.of (s.sub _ _ (g _ _ h))
    obtain ⟨v, e1, e2⟩ := q.get hd
    refine ⟨⟨vs, v, hs, e1⟩, fun x H' y => ?_⟩
    obtain ⟨y1, y2⟩ := y
    subst y1
    have z := y2 vs hs
    rw [e1] at z; cases z
    exact ⟨Γ, .refl s, s, e2.mono g p⟩
  stop := fun Γ H φ st g p s _ => ⟨vs, SqT.of (s.sub _ _ (g _ _ h)), by rw [← q.length]; exact Nat.le_refl _⟩
theorem walk_cell {Γ0 : Hp} {φ0 : List Addr} {a : Addr} {n k : Nat} (h : φ0[n]? = some a) : WalkOk C (Itl C.K a) (.cell n k) Γ0 φ0 where
  go := fun Γ H φ st g p s ok i d hi hd => by
    unfold Src.get at hd
    simp only at hd
    split at hd
    · rename_i l hl
      obtain ⟨vs, e1, e2⟩ := s.cell _ _ _ hl (pre_get p h)
      have hs : SqL C.K H a vs := SqL.of e1
      obtain ⟨v, e3, e4⟩ := e2.get hd
      refine ⟨⟨vs, v, hs, e3⟩, fun x H' y => ?_⟩
      obtain ⟨y1, y2⟩ := y
      subst y1
      have z := y2 vs hs
      rw [e3] at z; cases z
      exact ⟨Γ, .refl s, s, e4⟩
    · cases hd
  stop := fun Γ H φ st g p s ok => by
    unfold Src.ok at ok
    simp only at ok
    split at ok
    · rename_i l hl
      obtain ⟨vs, e1, e2⟩ := s.cell _ _ _ hl (pre_get p h)
      refine ⟨vs, SqL.of e1, ?_⟩
      rw [← e2.length]
      have := eq_of_beq ok
      show l.length ≤ k
      omega
    · cases ok
theorem walk_rng {Γ0 : Hp} {φ0 : List Addr} {lo hi : Int} : WalkOk C (Itr lo (hi - lo).toNat) (.vals (rng lo hi)) Γ0 φ0 where
  go := fun Γ H φ st g p s _ i d hi hd => by
    have hi' : i < (rng _ _).length := hi
    unfold rng at hi'
    rw [List.length_map, List.length_range] at hi'
    refine ⟨hi', fun x H' y => ?_⟩
    obtain ⟨y1, y2⟩ := y
    subst y1; subst y2
    have hd : (rng _ _)[i]? = some d := hd
    unfold rng at hd
    rw [List.getElem?_map, List.getElem?_range hi'] at hd
    cases hd
    exact ⟨Γ, .refl s, s, .int _⟩
  stop := fun Γ H φ st g p s _ => by
    show _ ≤ (rng lo hi).length
    unfold rng
    rw [List.length_map, List.length_range]
    exact Nat.le_refl _
/-- a reading of either of two walks -/
theorem si_seq (he : SE X cl e ea) : SI X cl tg e (iSeq ea) := by
  refine ⟨fun pins s σ H R I h => ?_⟩
  obtain ⟨Γ, φ, st, r, sr, st', sm, en, h, q⟩ := h
  unfold iSeq at h
  obtain ⟨x, h1, h⟩ := Option.bind_eq_some_iff.mp h
  have fin : ∀ Γ1 H1 φ1 v, Ext Γ H φ Γ1 H1 φ1 → Sim (cf X cl) Γ1 H1 φ1 x.2 → Is (cf X cl) Γ1 φ1 x.1 v →
      (∃ a, v = .ref a ∧ (∃ xs, SqL X.K H1 a xs) ∧ R (Itl X.K a) H1) ∨ (∃ a, v = .ref a ∧ (∃ xs, SqT X.K H1 a xs) ∧ R (Itt X.K a) H1) := fun Γ1 H1 φ1 v x1 s1 i1 => by
    obtain ⟨d, st1⟩ := x
    cases i1 with
    | tup e1 q1 => cases h; exact .inr ⟨_, rfl, ⟨_, SqT.of (s1.sub _ _ e1)⟩, q _ _ _ _ x1 s1 (walk_frzT e1 q1)⟩
    | lst e1 q1 => cases h; exact .inl ⟨_, rfl, ⟨_, SqL.of (s1.sub _ _ e1)⟩, q _ _ _ _ x1 s1 (walk_frz e1 q1)⟩
    | @ref n a e1 =>
      have h : (match st1[n]? with | some (.lst l) => some (Src.cell n l.length, st1) | _ => none) = some (sr, st') := h
      split at h
      · rename_i l hl
        cases h
        obtain ⟨vs, e2, e3⟩ := s1.cell _ _ _ hl e1
        exact .inl ⟨_, rfl, ⟨_, SqL.of e2⟩, q _ _ _ _ x1 s1 (walk_cell e1)⟩
      · cases h
    | _ => exact nomatch h
  have hd : tD (cf X cl) ea σ H fun v H1 => (∃ a, v = .ref a ∧ (∃ xs, SqL X.K H1 a xs) ∧ R (Itl X.K a) H1) ∨ (∃ a, v = .ref a ∧ (∃ xs, SqT X.K H1 a xs) ∧ R (Itt X.K a) H1) :=
    ⟨Γ, φ, st, r, x.1, x.2, sm, en, h1, fun Γ1 H1 φ1 v x1 s1 i1 => fin Γ1 H1 φ1 v x1 s1 i1⟩
  refine thn (he.run pins s σ H _ I hd) fun v s1 ⟨y, H1, I1, r1, q1⟩ => ?_
  rcases q1 with ⟨a, rfl, ⟨xs, hq⟩, q1⟩ | ⟨a, rfl, ⟨xs, hq⟩, q1⟩
  · cases r1
    obtain ⟨its, rv, p, hz⟩ := I1.list hq
    refine wpAny_pyIter_list p.isList ?_
    refine ⟨s1.heap.objs.size, [s1.heap.objs.size], _, _, H1, rfl, I1.kept (t' := s1.toks) fun b o e => Heap.get?_push_of_some _ e, turn_list a _, ⟨_, Heap.get?_push_size _ rfl, rfl, rfl⟩, fun b hb => ?_, q1⟩
    have e : b = s1.heap.objs.size := by simpa using hb
    subst e
    exact I1.fpOk (Nat.le_refl _) (I1.hok.fresh (Nat.le_refl _))
  · cases r1
    obtain ⟨its, rv, p, hz⟩ := I1.tuple hq
    refine wpAny_pyIter_tuple (show s1.heap.IsTuple a its.toArray from p) ?_
    refine ⟨s1.heap.objs.size, [s1.heap.objs.size], _, _, H1, rfl, I1.kept (t' := s1.toks) fun b o e => Heap.get?_push_of_some _ e, turn_tuple a _, ⟨_, Heap.get?_push_size _ rfl, rfl, rfl⟩, fun b hb => ?_, q1⟩
    have e : b = s1.heap.objs.size := by simpa using hb
    subst e
    exact I1.fpOk (Nat.le_refl _) (I1.hok.fresh (Nat.le_refl _))
theorem si_range1 {p pos : Pos} (hg : Gl X "range") (hm : X.mg "range" = none) (ha : SE X cl e ea) (hs : starEach [e] X.env = [(false, eval e X.env)] := by rfl) : SI X cl tg (.Call (.Name "range" p) [e] [] pos) (iRange1 ea) :=
  PI.imp (pi_range1 hg hm (sa_cons ha sa_nil hs) hs) fun σ H R h => by
    obtain ⟨Γ, φ, st, r, sr, st', sm, en, h, q⟩ := h
    unfold iRange1 at h
    obtain ⟨x, h1, h⟩ := Option.bind_eq_some_iff.mp h
    obtain ⟨d, st1⟩ := x
    cases d with
    | int j =>
      replace h : (if RngOk 0 j then some (Src.vals (rng 0 j), st1) else none) = some (sr, st') := h
      split at h
      · rename_i hr
        cases h
        refine ⟨Γ, φ, st, r, [.int j], _, sm, en, by simp [aCons, aNil, h1]; rfl, fun Γ1 H1 φ1 vs x1 s1 i1 => ?_⟩
        obtain ⟨v, rfl, i⟩ := one_all i1
        cases i
        obtain ⟨_, _, r3, r4⟩ := hr
        have w := walk_rng (C := cf X cl) (Γ0 := Γ1) (φ0 := φ1) (lo := 0) (hi := j)
        rw [Int.sub_zero] at w
        exact ⟨j, rfl, r3, r4, q _ _ _ _ x1 s1 w⟩
      · cases h
    | _ => exact nomatch h
theorem si_range2 {p pos : Pos} (hg : Gl X "range") (hm : X.mg "range" = none) (ha : SE X cl e ea) (hb : SE X cl e2 eb) (hs : starEach [e, e2] X.env = [(false, eval e X.env), (false, eval e2 X.env)] := by rfl) (hs2 : starEach [e2] X.env = [(false, eval e2 X.env)] := by rfl) :
    SI X cl tg (.Call (.Name "range" p) [e, e2] [] pos) (iRange2 ea eb) :=
  PI.imp (pi_range2 hg hm (sa_cons ha (sa_cons hb sa_nil hs2) (by rw [hs, hs2])) hs hs2) fun σ H R h => by
    obtain ⟨Γ, φ, st, r, sr, st', sm, en, h, q⟩ := h
    unfold iRange2 at h
    obtain ⟨x, h1, h⟩ := Option.bind_eq_some_iff.mp h
    obtain ⟨y, h2, h⟩ := Option.bind_eq_some_iff.mp h
    split at h
    · rename_i i j ei ej
      split at h
      · rename_i hr
        cases h
        refine ⟨Γ, φ, st, r, [.int i, .int j], y.2, sm, en, by simp [aCons, aNil, h1, h2, ← ei, ← ej], fun Γ1 H1 φ1 vs x1 s1 i1 => ?_⟩
        obtain ⟨v, w, rfl, i1, i2⟩ := two_all i1
        cases i1; cases i2
        exact ⟨i, j, rfl, hr, q _ _ _ _ x1 s1 walk_rng⟩
      · cases h
    · cases h

/-! ### for -/
def ForP (C : Cf) (Γ0 H0 : Hp) (φ0 : List Addr) (n : Nat) (src : Src) (g : G) (b : S) (o : Out) (st' : Sto) (i m : Nat) (σ : L2.St) (H : Hp) : Prop :=
  ∃ Γ φ st r, Ext Γ0 H0 φ0 Γ H φ ∧ Sim C Γ H φ st ∧ EnvOk C Γ φ r σ ∧ σ.length = n ∧ i + m = src.len ∧ (match src with
    | .vals l => forL g b (l.drop i) r st
    | s => forC s g b m i r st) = some (o, st')
theorem forGo_eq (src : Src) (g : G) (b : S) (r : Env) (st : Sto) : forGo src g b r st = (match src with | .vals l => forL g b (l.drop 0) r st | s => forC s g b s.len 0 r st) := by
  cases src <;> rfl
/-- one turn, or the end -/
theorem forP_step {C : Cf} {Γ0 H0 : Hp} {φ0 : List Addr} {n : Nat} {src : Src} {g : G} {b : S} {o : Out} {st' : Sto} {i m : Nat} {σ : L2.St} {H : Hp} (h : ForP C Γ0 H0 φ0 n src g b o st' i m σ H) :
    ∃ Γ φ st r, Ext Γ0 H0 φ0 Γ H φ ∧ Sim C Γ H φ st ∧ EnvOk C Γ φ r σ ∧ σ.length = n ∧ src.ok st = true ∧
      ((m = 0 ∧ i = src.len ∧ o = .next r ∧ st' = st) ∨ (∃ m' d r1 o1 st1, m = m' + 1 ∧ i < src.len ∧ src.get st i = some d ∧ g d st r = some r1 ∧ b r1 st = some (o1, st1) ∧
        (match o1 with
          | .next r2 => ∀ Γ H φ σ, Ext Γ0 H0 φ0 Γ H φ → Sim C Γ H φ st1 → EnvOk C Γ φ r2 σ → σ.length = n → ForP C Γ0 H0 φ0 n src g b o st' (i + 1) m' σ H
          | .cont r2 => ∀ Γ H φ σ, Ext Γ0 H0 φ0 Γ H φ → Sim C Γ H φ st1 → EnvOk C Γ φ r2 σ → σ.length = n → ForP C Γ0 H0 φ0 n src g b o st' (i + 1) m' σ H
          | .brk r2 => o = .next r2 ∧ st' = st1
          | .ret d => o = .ret d ∧ st' = st1))) := by
  obtain ⟨Γ, φ, st, r, x, s, en, hn, hi, h⟩ := h
  refine ⟨Γ, φ, st, r, x, s, en, hn, ?_⟩
  cases src with
  | vals l =>
    replace hi : i + m = l.length := hi
    replace h : forL g b (l.drop i) r st = some (o, st') := h
    refine ⟨rfl, ?_⟩
    cases m with
    | zero =>
      rw [List.drop_of_length_le (by omega)] at h
      cases h
      exact .inl ⟨rfl, by show i = l.length; omega, rfl, rfl⟩
    | succ m =>
      have hl : i < l.length := by omega
      rw [List.drop_eq_getElem_cons hl] at h
      unfold forL at h
      obtain ⟨r1, h1, h⟩ := Option.bind_eq_some_iff.mp h
      obtain ⟨z, h2, h⟩ := Option.bind_eq_some_iff.mp h
      refine .inr ⟨m, l[i], r1, z.1, z.2, rfl, hl, List.getElem?_eq_getElem hl, h1, h2, ?_⟩
      obtain ⟨o1, st1⟩ := z
      cases o1 with
      | next r2 => exact fun Γ H φ σ x2 s2 en2 n2 => ⟨Γ, φ, st1, r2, x2, s2, en2, n2, by show i + 1 + m = l.length; omega, h⟩
      | cont r2 => exact fun Γ H φ σ x2 s2 en2 n2 => ⟨Γ, φ, st1, r2, x2, s2, en2, n2, by show i + 1 + m = l.length; omega, h⟩
      | brk r2 => cases h; exact ⟨rfl, rfl⟩
      | ret d => cases h; exact ⟨rfl, rfl⟩
  | cell c k =>
    replace hi : i + m = k := hi
    replace h : forC (.cell c k) g b m i r st = some (o, st') := h
    cases m with
    | zero =>
      unfold forC at h
      split at h
      · rename_i ok
        cases h
        exact ⟨ok, .inl ⟨rfl, by show i = k; omega, rfl, rfl⟩⟩
      · cases h
    | succ m =>
      unfold forC at h
      split at h
      · rename_i ok
        obtain ⟨d, h0, h⟩ := Option.bind_eq_some_iff.mp h
        obtain ⟨r1, h1, h⟩ := Option.bind_eq_some_iff.mp h
        obtain ⟨z, h2, h⟩ := Option.bind_eq_some_iff.mp h
        refine ⟨ok, .inr ⟨m, d, r1, z.1, z.2, rfl, by show i < k; omega, h0, h1, h2, ?_⟩⟩
        obtain ⟨o1, st1⟩ := z
        cases o1 with
        | next r2 => exact fun Γ H φ σ x2 s2 en2 n2 => ⟨Γ, φ, st1, r2, x2, s2, en2, n2, by show i + 1 + m = k; omega, h⟩
        | cont r2 => exact fun Γ H φ σ x2 s2 en2 n2 => ⟨Γ, φ, st1, r2, x2, s2, en2, n2, by show i + 1 + m = k; omega, h⟩
        | brk r2 => cases h; exact ⟨rfl, rfl⟩
        | ret d => cases h; exact ⟨rfl, rfl⟩
      · cases h
theorem ss_for {body : List Stmt} {ii : I} {g : G} {gs : List Nat} {b : S} {pos : Pos} (hp : PassesOwn (model X.prog X.w) X.A X.env X.xe) (hc : X.calm = true) (hi : SI X cl tg e ii) (hg : SG X cl tg gs g) (hb : SSs X cl body b)
    (hs : ∀ x, foldedSetIterable e X.env x = pure x := by intro _; rfl) : SS X cl (.For tg e body [] pos) (sFor ii g b) := PS.imp (ps_for hp hc hi hg hb hs) fun Dn σ H h => by
  obtain ⟨Γ, φ, st, r, o, st', sm, en, h, q⟩ := h
  unfold sFor at h
  obtain ⟨x, h1, h⟩ := Option.bind_eq_some_iff.mp h
  refine ⟨Γ, φ, st, r, x.1, x.2, sm, en, h1, fun Γ1 H1 φ1 J x1 s1 w => ?_⟩
  rw [forGo_eq] at h
  refine ⟨fun i m σ2 H2 => ForP (cf X cl) Γ1 H1 φ1 σ.length x.1 g b o st' i m σ2 H2, ⟨x.1.len, Γ1, φ1, x.2, r, .refl s1, s1, x1.env en, rfl, by omega, ?_⟩, fun i m σ2 H2 hW => ?_⟩
  · generalize hx : x.1 = sx at h
    cases sx <;> exact h
  · obtain ⟨Γ2, φ2, st2, r2, x2, s2, en2, n2, ok, hh⟩ := forP_step hW
    rcases hh with ⟨e1, e2, e3, e4⟩ | ⟨m', d, r3, o3, st3, e1, hlt, e2, e3, e4, e5⟩
    · subst e2; subst e3; subst e4
      exact .inl ⟨w.stop Γ2 H2 φ2 st' x2.gs x2.ps s2 ok, q Γ2 H2 φ2 (x1.trans x2) s2 σ2 en2 n2⟩
    · obtain ⟨w1, w2⟩ := w.go Γ2 H2 φ2 st2 x2.gs x2.ps s2 ok i d hlt e2
      refine .inr ⟨w1, fun σ4 H4 => ForP (cf X cl) Γ1 H1 φ1 σ.length x.1 g b o st' (i + 1) m' σ4 H4, fun σ4 H4 h4 => ⟨m', by omega, h4⟩, fun y H3 hy => ?_⟩
      obtain ⟨Γ3, x3, s3, i3⟩ := w2 y H3 hy
      refine ⟨Γ3, φ2, st2, r2, d, r3, s3, x3.env en2, i3, e3, fun σ4 en4 l4 _ => ⟨Γ3, φ2, st2, r3, o3, st3, s3, en4, e4, fun Γ5 H5 φ5 x5 s5 => ?_⟩⟩
      have n4 : σ4.length = σ.length := l4.trans n2
      cases o3 with
      | next r5 => exact fun σ5 en5 n5 => e5 Γ5 H5 φ5 σ5 ((x2.trans x3).trans x5) s5 en5 (n5.trans n4)
      | cont r5 => exact fun σ5 en5 n5 => e5 Γ5 H5 φ5 σ5 ((x2.trans x3).trans x5) s5 en5 (n5.trans n4)
      | brk r5 =>
        obtain ⟨e6, e7⟩ := e5
        subst e6; subst e7
        have := q Γ5 H5 φ5 (x1.trans ((x2.trans x3).trans x5)) s5
        rw [← n4] at this
        exact this
      | ret d5 =>
        obtain ⟨e6, e7⟩ := e5
        subst e6; subst e7
        exact q Γ5 H5 φ5 (x1.trans ((x2.trans x3).trans x5)) s5

/-! ### while -/
open Classical in
theorem sWhile_inv {c : T} {b : S} {r : Env} {st : Sto} {x : Out × Sto} (h : sWhile c b r st = some x) : ∃ n, whileN c b n r st = some x := by
  unfold sWhile at h
  split at h
  · rename_i hx
    cases h
    exact ⟨_, choose_spec (choose_spec hx)⟩
  · cases h
theorem whileN_mono {c : T} {b : S} : ∀ {n m : Nat} {r : Env} {st : Sto} {x : Out × Sto}, whileN c b n r st = some x → n ≤ m → whileN c b m r st = some x
  | 0, _, _, _, _, h, _ => by cases h
  | n + 1, 0, _, _, _, _, hm => by omega
  | n + 1, m + 1, r, st, x, h, hm => by
    unfold whileN at h ⊢
    obtain ⟨y, h1, h⟩ := Option.bind_eq_some_iff.mp h
    rw [h1]
    show (if y.1 = true then _ else _) = some x
    split at h
    · rename_i hk
      rw [if_pos hk]
      obtain ⟨z, h2, h⟩ := Option.bind_eq_some_iff.mp h
      rw [h2]
      obtain ⟨o, st1⟩ := z
      cases o with
      | next r2 => exact whileN_mono h (by omega)
      | cont r2 => exact whileN_mono h (by omega)
      | brk r2 => exact h
      | ret d => exact h
    · rename_i hk
      rw [if_neg hk]; exact h
open Classical in
theorem sWhile_of {c : T} {b : S} {r : Env} {st : Sto} {x : Out × Sto} {n : Nat} (h : whileN c b n r st = some x) : sWhile c b r st = some x := by
  have hx : ∃ n x, whileN c b n r st = some x := ⟨n, x, h⟩
  unfold sWhile
  rw [dif_pos hx]
  have h2 := choose_spec (choose_spec hx)
  have e1 := whileN_mono h (Nat.le_max_left n (choose hx))
  have e2 := whileN_mono h2 (Nat.le_max_right n (choose hx))
  rw [e1] at e2
  exact e2.symm
theorem ss_while {ce : Expr} {body : List Stmt} {ta : T} {b : S} {pos : Pos} (hp : PassesOwn (model X.prog X.w) X.A X.env X.xe) (hc : ST X cl ce ta) (hb : SSs X cl body b) : SS X cl (.While ce body [] pos) (sWhile ta b) := PS.imp (ps_while hp hc hb) fun Dn σ H h => by
  obtain ⟨Γ, φ, st, r, o, st', sm, en, h, q⟩ := h
  obtain ⟨n, h⟩ := sWhile_inv h
  refine ⟨fun m σ2 H2 => ∃ Γ2 φ2 st2 r2, Ext Γ H φ Γ2 H2 φ2 ∧ Sim (cf X cl) Γ2 H2 φ2 st2 ∧ EnvOk (cf X cl) Γ2 φ2 r2 σ2 ∧ σ2.length = σ.length ∧ whileN ta b m r2 st2 = some (o, st'), ⟨n, Γ, φ, st, r, .refl sm, sm, en, rfl, h⟩, fun m σ2 H2 hW => ?_⟩
  obtain ⟨Γ2, φ2, st2, r2, x2, s2, en2, n2, h2⟩ := hW
  cases m with
  | zero => cases h2
  | succ m =>
    unfold whileN at h2
    obtain ⟨y, h1, h2⟩ := Option.bind_eq_some_iff.mp h2
    refine ⟨Γ2, φ2, st2, r2, y.1, y.2, s2, en2, h1, fun Γ3 H3 φ3 x3 s3 => ?_⟩
    split at h2
    · rename_i hk
      rw [if_pos hk]
      obtain ⟨z, h4, h2⟩ := Option.bind_eq_some_iff.mp h2
      obtain ⟨o4, st4⟩ := z
      refine ⟨fun σ5 H5 => ∃ Γ2 φ2 st2 r2, Ext Γ H φ Γ2 H5 φ2 ∧ Sim (cf X cl) Γ2 H5 φ2 st2 ∧ EnvOk (cf X cl) Γ2 φ2 r2 σ5 ∧ σ5.length = σ.length ∧ whileN ta b m r2 st2 = some (o, st'), fun σ5 H5 h5 => ⟨m, Nat.lt_succ_self _, h5⟩,
        Γ3, φ3, y.2, r2, o4, st4, s3, x3.env en2, h4, fun Γ5 H5 φ5 x5 s5 => ?_⟩
      cases o4 with
      | next r5 => exact fun σ5 en5 n5 => ⟨Γ5, φ5, st4, r5, (x2.trans x3).trans x5, s5, en5, n5.trans n2, h2⟩
      | cont r5 => exact fun σ5 en5 n5 => ⟨Γ5, φ5, st4, r5, (x2.trans x3).trans x5, s5, en5, n5.trans n2, h2⟩
      | brk r5 =>
        cases h2
        have := q Γ5 H5 φ5 ((x2.trans x3).trans x5) s5
        rw [← n2] at this
        exact this
      | ret d5 =>
        cases h2
        exact q Γ5 H5 φ5 ((x2.trans x3).trans x5) s5
    · rename_i hk
      cases h2
      rw [if_neg hk]
      exact q _ _ _ (x2.trans x3) s3 σ2 (x3.env en2) n2
end
end EV
/-! EV.9: comprehensions, defs. -/
namespace EV
open PySem PySem.Spec PyProof.Rows L2

section
variable {C : Cf} {Γ H Γ1 H1 : Hp} {φ φ1 : List Addr} {st : Sto} {p : Addr}
/-- a list under way changes -/
theorem Sim.mutate {vs ws : List V} (s : Sim C Γ H φ st) (h : H p = some (.lst vs)) (hn : p ∉ φ) (hg : Γ p = none) : Sim C Γ (upd H p (.lst ws)) φ st := by
  refine ⟨fun a u e => ?_, s.off, s.nd, s.len, fun n c a h1 h2 => ?_, fun x hx => ?_, ta_new s.ta (fun _ z => nomatch z), s.tg⟩
  · have hne : a ≠ p := fun q => by rw [q, hg] at e; cases e
    rw [upd_ne hne]; exact s.sub a u e
  · have hne : a ≠ p := fun q => hn (by rw [← q]; exact List.mem_of_getElem? h2)
    refine (s.cell n c a h1 h2).keep (fun _ _ e => e) List.prefix_rfl (fun u e => by rw [upd_ne hne]; exact e) fun dx e1 e2 e3 => ⟨?_, e3, e2⟩
    rw [upd_ne (fun q : dx = p => by rw [q, h] at e1; cases e1)]; exact e1
  · obtain ⟨ps, e1, e2, e3⟩ := s.tb x hx
    refine ⟨ps, by rw [upd_ne (fun q : x.1 = p => by rw [q, h] at e1; cases e1)]; exact e1, e2, fun pos cv hcv => ?_⟩
    obtain ⟨c', e4, e5⟩ := e3 pos cv hcv
    exact ⟨c', e4, by rw [upd_ne (fun q : c' = p => by rw [q, h] at e5; cases e5)]; exact e5⟩
theorem Ext.mutate {o : HO} (x : Ext Γ1 H1 φ1 Γ H φ) (h : H1 p = none) (hn : p ∉ φ) : Ext Γ1 H1 φ1 Γ (upd H p o) φ := by
  refine ⟨x.gs, x.ps, fun a u e ha nt => ?_, x.gn, x.pn, fun a ha => ?_, fun a ps e => ?_⟩
  · rw [upd_ne (ne_of_none e h)]; exact x.fr a u e ha nt
  · obtain ⟨u, e⟩ := x.al a ha
    exact ⟨u, by rw [upd_ne (fun q : a = p => hn (by rw [← q]; exact x.ps.subset ha))]; exact e⟩
  · obtain ⟨qs, e1⟩ := x.tl a ps e
    exact ⟨qs, by rw [upd_ne (ne_of_none e h)]; exact e1⟩
/-- what is neither frozen nor a cell stays so -/
theorem Ext.apart {Γ2 H2 : Hp} {φ2 : List Addr} {o : HO} (x : Ext Γ H φ Γ2 H2 φ2) (h : H p = some o) (hn : p ∉ φ) (hg : Γ p = none) (nt : NT o := by exact fun _ z => nomatch z) : H2 p = some o ∧ p ∉ φ2 ∧ Γ2 p = none := by
  refine ⟨x.fr p o h hn nt, fun q => ?_, ?_⟩
  · rcases x.pn p q with z | z
    · exact hn z
    · rw [h] at z; cases z
  · cases e : Γ2 p with
    | none => rfl
    | some u =>
      rcases x.gn p u e with z | z
      · rw [hg] at z; cases z
      · rw [h] at z; cases z
end

def LcRest (src : Src) (r : Env) (g : G) (c : T) (e : E) (i m : Nat) (st : Sto) : Option (List D × Sto) := match src with
  | .vals l => lcL r g c e (l.drop i) st
  | s => lcC s r g c e m i st
theorem lcGo_eq (src : Src) (r : Env) (g : G) (c : T) (e : E) (st : Sto) : lcGo src r g c e st = LcRest src r g c e 0 src.len st := by
  cases src <;> rfl
theorem lcRest_end {src : Src} {r : Env} {g : G} {c : T} {e : E} {i : Nat} {st st' : Sto} {l : List D} (hi : i = src.len) (h : LcRest src r g c e i 0 st = some (l, st')) : src.ok st = true ∧ l = [] ∧ st' = st := by
  cases src with
  | vals ds =>
    replace h : lcL r g c e (ds.drop i) st = some (l, st') := h
    replace hi : i = ds.length := hi
    rw [hi, List.drop_length] at h
    cases h
    exact ⟨rfl, rfl, rfl⟩
  | cell n k =>
    replace h : lcC (.cell n k) r g c e 0 i st = some (l, st') := h
    unfold lcC at h
    split at h
    · rename_i ok
      cases h
      exact ⟨ok, rfl, rfl⟩
    · cases h
theorem lcRest_step {src : Src} {r : Env} {g : G} {c : T} {e : E} {i m : Nat} {st st' : Sto} {l : List D} (hi : i + (m + 1) = src.len) (h : LcRest src r g c e i (m + 1) st = some (l, st')) :
    src.ok st = true ∧ ∃ d r1 b st1, src.get st i = some d ∧ g d st r = some r1 ∧ c r1 st = some (b, st1) ∧
      (if b = true then ∃ y st2 l2, e r1 st1 = some (y, st2) ∧ LcRest src r g c e (i + 1) m st2 = some (l2, st') ∧ l = y :: l2 else LcRest src r g c e (i + 1) m st1 = some (l, st')) := by
  cases src with
  | vals ds =>
    replace h : lcL r g c e (ds.drop i) st = some (l, st') := h
    replace hi : i + (m + 1) = ds.length := hi
    have hl : i < ds.length := by omega
    rw [List.drop_eq_getElem_cons hl] at h
    unfold lcL at h
    obtain ⟨r1, h1, h⟩ := Option.bind_eq_some_iff.mp h
    obtain ⟨b, h2, h⟩ := Option.bind_eq_some_iff.mp h
    refine ⟨rfl, ds[i], r1, b.1, b.2, List.getElem?_eq_getElem hl, h1, h2, ?_⟩
    split at h
    · rename_i hk
      rw [if_pos hk]
      obtain ⟨y, h3, h⟩ := Option.bind_eq_some_iff.mp h
      obtain ⟨z, h4, h⟩ := Option.bind_eq_some_iff.mp h
      cases h
      exact ⟨y.1, y.2, z.1, h3, h4, rfl⟩
    · rename_i hk
      rw [if_neg hk]; exact h
  | cell n k =>
    replace h : lcC (.cell n k) r g c e (m + 1) i st = some (l, st') := h
    unfold lcC at h
    split at h
    · rename_i ok
      obtain ⟨d, h0, h⟩ := Option.bind_eq_some_iff.mp h
      obtain ⟨r1, h1, h⟩ := Option.bind_eq_some_iff.mp h
      obtain ⟨b, h2, h⟩ := Option.bind_eq_some_iff.mp h
      refine ⟨ok, d, r1, b.1, b.2, h0, h1, h2, ?_⟩
      split at h
      · rename_i hk
        rw [if_pos hk]
        obtain ⟨y, h3, h⟩ := Option.bind_eq_some_iff.mp h
        obtain ⟨z, h4, h⟩ := Option.bind_eq_some_iff.mp h
        cases h
        exact ⟨y.1, y.2, z.1, h3, h4, rfl⟩
      · rename_i hk
        rw [if_neg hk]; exact h
    · cases h
section
variable {X : Cx} {cl : Cl}
abbrev STs (X : Cx) (cl : Cl) (e : List Expr) (a : T) : Prop := PTs X e (tB (cf X cl) a)
theorem sts_nil : STs X cl [] EV.tYes := ⟨fun pins s σ H Q I h => pts_nil.run pins s σ H Q I (by
  obtain ⟨Γ, φ, st, r, b, st', sm, en, h, q⟩ := h
  cases h
  exact q _ _ _ (.refl sm) sm)⟩
theorem sts_one {c : Expr} {t : T} (h : ST X cl c t) : STs X cl [c] t := pts_one h
theorem lc_of {own : List (Str × Nat)} {gs : List Nat} {ii : I} {g : G} {tt : T} {ee : E} {σ : L2.St} {H : Hp} {Q : VK} (hgs : gs.all (fun i => (own.map (·.2)).contains i) = true) (h : tF (cf X cl) (eLc ii (own.map (·.2)) g tt ee) σ H Q) :
    tLc (tI (cf X cl) ii) (tG (cf X cl) gs g) (tB (cf X cl) tt) (tD (cf X cl) ee) (own.map (·.2)) σ H Q := by
  obtain ⟨Γ, φ, st, r, ds, st', sm, en, h, q⟩ := h
  unfold eLc at h
  obtain ⟨src, h1, h⟩ := Option.bind_eq_some_iff.mp h
  obtain ⟨z, h2, h⟩ := Option.bind_eq_some_iff.mp h
  split at h
  · rename_i hz
    cases h
    rw [lcGo_eq] at h2
    have hsub : ∀ i ∈ gs, i ∈ own.map (·.2) := fun i h => by
      have := List.all_eq_true.mp hgs i h
      simpa using this
    refine ⟨Γ, φ, st, r, src.1, src.2, sm, en, h1, fun Γ1 H1 φ1 J x1 s1 w D hD => ?_⟩
    have D1 := s1.notIn hD
    have D2 := s1.fresh hD
    have D3 := x1.new hD
    obtain ⟨s0, x0⟩ := s1.other (o := .lst []) hD
    refine ⟨fun i m H2 => ∃ Γ2 φ2 st2 acc vs l, Ext Γ1 H1 φ1 Γ2 H2 φ2 ∧ Sim (cf X cl) Γ2 H2 φ2 st2 ∧ H2 D = some (.lst vs) ∧ D ∉ φ2 ∧ Γ2 D = none ∧ IsAll (cf X cl) Γ2 φ2 acc vs ∧ i + m = src.1.len ∧
        LcRest src.1 (wipeE r (own.map (·.2))) g tt ee i m st2 = some (l, z.2) ∧ acc ++ l = z.1,
      ⟨src.1.len, Γ1, φ1, src.2, [], [], z.1, x0, s0, upd_same, D1, D2, .nil, by omega, h2, rfl⟩, fun i m H2 hW => ?_⟩
    obtain ⟨Γ2, φ2, st2, acc, vs, l, x2, s2, d1, d2, d3, i2, hi2, h3, hl⟩ := hW
    cases m with
    | zero =>
      have hi3 : i = src.1.len := by omega
      obtain ⟨ok2, e1, e2⟩ := lcRest_end hi3 h3
      subst e1
      rw [List.append_nil] at hl
      subst hl
      rw [e2] at q
      rw [hi3]
      exact .inl ⟨w.stop Γ2 H2 φ2 st2 x2.gs x2.ps s2 ok2, q Γ2 H2 φ2 D vs (x1.trans x2) s2 D3 d1 d2 d3 i2⟩
    | succ m =>
      obtain ⟨ok2, d, r1, b, st3, e1, e2, e3, e4⟩ := lcRest_step hi2 h3
      obtain ⟨w1, w2⟩ := w.go Γ2 H2 φ2 st2 x2.gs x2.ps s2 ok2 i d (by omega) e1
      refine .inr ⟨w1, fun H3 => ∃ Γ2 φ2 st2 acc vs l, Ext Γ1 H1 φ1 Γ2 H3 φ2 ∧ Sim (cf X cl) Γ2 H3 φ2 st2 ∧ H3 D = some (.lst vs) ∧ D ∉ φ2 ∧ Γ2 D = none ∧ IsAll (cf X cl) Γ2 φ2 acc vs ∧ (i + 1) + m = src.1.len ∧
        LcRest src.1 (wipeE r (own.map (·.2))) g tt ee (i + 1) m st2 = some (l, z.2) ∧ acc ++ l = z.1, fun H3 h3 => ⟨m, Nat.lt_succ_self _, h3⟩, fun y H3 hy => ?_⟩
      obtain ⟨Γ3, x3, s3, i3⟩ := w2 y H3 hy
      have en3 : EnvOk (cf X cl) Γ3 φ2 (wipeE r (own.map (·.2))) (wipe σ (own.map (·.2))) := x3.env (x2.env (x1.env (en.wipe _)))
      refine ⟨Γ3, φ2, st2, _, d, r1, s3, en3, i3, e2, fun σ4 en4 l4 k4 => ⟨wipe_back l4 hsub k4, Γ3, φ2, st2, r1, b, st3, s3, en4, e3, fun Γ5 H5 φ5 x5 s5 => ?_⟩⟩
      obtain ⟨d4, d5, d6⟩ := (x3.trans x5).apart d1 d2 d3
      split at e4
      · rename_i hk
        rw [if_pos hk]
        obtain ⟨y2, st6, l2, e5, e6, e7⟩ := e4
        refine ⟨Γ5, φ5, st3, r1, y2, st6, s5, x5.env en4, e5, fun Γ6 H6 φ6 v6 x6 s6 i6 => ?_⟩
        obtain ⟨d7, d8, d9⟩ := x6.apart d4 d5 d6
        have hlen : (acc ++ (y2 :: l2)).length ≤ 16777216 := by rw [← e7, hl]; exact hz
        have hz2 : vs.length < sizeLine := by
          rw [← i2.length]
          rw [List.length_append, List.length_cons] at hlen
          show acc.length < 16777216
          omega
        have i7 : IsAll (cf X cl) Γ6 φ6 (acc ++ [y2]) (vs ++ [v6]) := (x6.all (x5.all (x3.all i2))).append (.cons i6 .nil)
        exact ⟨vs, d7, hz2, Γ6, φ6, st6, acc ++ [y2], vs ++ [v6], l2, (((x2.trans x3).trans x5).trans x6).mutate hD d8, s6.mutate d7 d8 d9, upd_same, d8, d9, i7, by omega, e6, by rw [← hl, e7, List.append_assoc]; rfl⟩
      · rename_i hk
        rw [if_neg hk]
        exact ⟨Γ5, φ5, st3, acc, vs, l, (x2.trans x3).trans x5, s5, d4, d5, d6, x5.all (x3.all i2), by omega, e4, hl⟩
  · cases h
theorem sf_lc {elt tg iter : Expr} {ifs : List Expr} {scope : Scope} {own : List (Str × Nat)} {gs : List Nat} {pos : Pos} {ii : I} {g : G} {tt : T} {ee : E} (hc : X.calm = true) (hN : X.N.Nodup) (hi : SI X cl tg iter ii) (ok : BlkOk X.N X.env.scope scope own)
    (hg : ∀ (s : Shared) (H : Hp) (C : Addr) (cel : List (Str × Addr)) (fp : List Addr), SG (X.blk s H scope (compEnvC scope cel C X.env) fp) cl tg gs g) (ht : ∀ (s : Shared) (H : Hp) (C : Addr) (cel : List (Str × Addr)) (fp : List Addr), STs (X.blk s H scope (compEnvC scope cel C X.env) fp) cl ifs tt)
    (he : ∀ (s : Shared) (H : Hp) (C : Addr) (cel : List (Str × Addr)) (fp : List Addr), SE (X.blk s H scope (compEnvC scope cel C X.env) fp) cl elt ee) (hgs : gs.all (fun i => (own.map (·.2)).contains i) = true := by rfl) (hs : ∀ x, foldedSetIterable iter X.env x = pure x := by intro _; rfl) :
    SF X cl (.ListComp elt [⟨tg, iter, ifs, 0⟩] scope pos) (eLc ii (own.map (·.2)) g tt ee) := PE.imp (pe_lc (te := tD (cf X cl) ee) (g := tG (cf X cl) gs g) (tt := tB (cf X cl) tt) hc hN hi ok hg ht he hs) fun _ _ _ h => lc_of hgs h
theorem lst_eLc {ii : I} {ow : List Nat} {g : G} {tt : T} {ee : E} : ∀ r st d st', eLc ii ow g tt ee r st = some (d, st') → ∃ l, d = .lst l := fun r st d st' h => by
  unfold eLc at h
  obtain ⟨src, h1, h⟩ := Option.bind_eq_some_iff.mp h
  obtain ⟨z, h2, h⟩ := Option.bind_eq_some_iff.mp h
  split at h
  · cases h; exact ⟨_, rfl⟩
  · cases h
theorem se_lc {elt tg iter : Expr} {ifs : List Expr} {scope : Scope} {own : List (Str × Nat)} {gs : List Nat} {pos : Pos} {ii : I} {g : G} {tt : T} {ee : E} (hc : X.calm = true) (hN : X.N.Nodup) (hi : SI X cl tg iter ii) (ok : BlkOk X.N X.env.scope scope own)
    (hg : ∀ (s : Shared) (H : Hp) (C : Addr) (cel : List (Str × Addr)) (fp : List Addr), SG (X.blk s H scope (compEnvC scope cel C X.env) fp) cl tg gs g) (ht : ∀ (s : Shared) (H : Hp) (C : Addr) (cel : List (Str × Addr)) (fp : List Addr), STs (X.blk s H scope (compEnvC scope cel C X.env) fp) cl ifs tt)
    (he : ∀ (s : Shared) (H : Hp) (C : Addr) (cel : List (Str × Addr)) (fp : List Addr), SE (X.blk s H scope (compEnvC scope cel C X.env) fp) cl elt ee) (hgs : gs.all (fun i => (own.map (·.2)).contains i) = true := by rfl) (hs : ∀ x, foldedSetIterable iter X.env x = pure x := by intro _; rfl) :
    SE X cl (.ListComp elt [⟨tg, iter, ifs, 0⟩] scope pos) (eLc ii (own.map (·.2)) g tt ee) := se_of_f (sf_lc hc hN hi ok hg ht he hgs hs) lst_eLc
/-- name = [..] on one line, the name a plain local one -/
theorem ss_setlc {i : Nat} {y : Str} {py spos : Pos} {elt tg iter : Expr} {ifs : List Expr} {scope : Scope} {own : List (Str × Nat)} {gs : List Nat} {pos : Pos} {ii : I} {g : G} {tt : T} {ee : E} (hc : X.calm = true) (hN : X.N.Nodup) (hy : X.N[i]? = some y) (hyl : X.env.scope.names.lookup y = some .local)
    (hi : SI X cl tg iter ii) (ok : BlkOk X.N X.env.scope scope own) (hg : ∀ (s : Shared) (H : Hp) (C : Addr) (cel : List (Str × Addr)) (fp : List Addr), SG (X.blk s H scope (compEnvC scope cel C X.env) fp) cl tg gs g)
    (ht : ∀ (s : Shared) (H : Hp) (C : Addr) (cel : List (Str × Addr)) (fp : List Addr), STs (X.blk s H scope (compEnvC scope cel C X.env) fp) cl ifs tt) (he : ∀ (s : Shared) (H : Hp) (C : Addr) (cel : List (Str × Addr)) (fp : List Addr), SE (X.blk s H scope (compEnvC scope cel C X.env) fp) cl elt ee)
    (hsw : swapsWith (.ListComp elt [⟨tg, iter, ifs, 0⟩] scope pos) (some (.Name y py)) spos.line X.env = pure true := by rfl) (hgs : gs.all (fun i => (own.map (·.2)).contains i) = true := by rfl) (hs : ∀ x, foldedSetIterable iter X.env x = pure x := by intro _; rfl) :
    SS X cl (.Assign [.Name y py] (.ListComp elt [⟨tg, iter, ifs, 0⟩] scope pos) spos) (sAsg (eLc ii (own.map (·.2)) g tt ee) (gNm i)) :=
  PS.imp (ps_setLc (te := tD (cf X cl) ee) (g := tG (cf X cl) gs g) (tt := tB (cf X cl) tt) hc hN hy hyl hsw hi ok hg ht he hs) fun _ _ _ h => lc_of hgs (tF_of lst_eLc (set_of h))
theorem ss_setlcN {i : Nat} {y : Str} {py spos : Pos} {elt tg iter : Expr} {ifs : List Expr} {scope : Scope} {own : List (Str × Nat)} {gs : List Nat} {pos : Pos} {ii : I} {g : G} {tt : T} {ee : E} (hc : X.calm = true) (hN : X.N.Nodup) (hy : X.N[i]? = some y) (hyl : X.env.scope.names.lookup y = some .local)
    (hi : SI X cl tg iter ii) (ok : BlkOk X.N X.env.scope scope own) (hg : ∀ (s : Shared) (H : Hp) (C : Addr) (cel : List (Str × Addr)) (fp : List Addr), SG (X.blk s H scope (compEnvC scope cel C X.env) fp) cl tg gs g)
    (ht : ∀ (s : Shared) (H : Hp) (C : Addr) (cel : List (Str × Addr)) (fp : List Addr), STs (X.blk s H scope (compEnvC scope cel C X.env) fp) cl ifs tt) (he : ∀ (s : Shared) (H : Hp) (C : Addr) (cel : List (Str × Addr)) (fp : List Addr), SE (X.blk s H scope (compEnvC scope cel C X.env) fp) cl elt ee)
    (hsw : swapsWith (.ListComp elt [⟨tg, iter, ifs, 0⟩] scope pos) (some (.Name y py)) spos.line X.env = pure true := by rfl) (hgs : gs.all (fun i => (own.map (·.2)).contains i) = true := by rfl) (hs : ∀ x, foldedSetIterable iter X.env x = pure x := by intro _; rfl) :
    SS X cl (.Assign [.Name y py] (.ListComp elt [⟨tg, iter, ifs, 0⟩] scope pos) spos) (sAsg (eNew (eLc ii (own.map (·.2)) g tt ee)) (gNm i)) :=
  PS.imp (ps_setLc (te := tD (cf X cl) ee) (g := tG (cf X cl) gs g) (tt := tB (cf X cl) tt) hc hN hy hyl hsw hi ok hg ht he hs) fun _ _ _ h => lc_of hgs (tF_new (set_of h))
end

/-! ### a def -/
mutual
theorem Is.back {C : Cf} {Γ : Hp} {φ ψ : List Addr} {n : Nat} (h : φ <+: ψ) (hn : φ.length = n) : ∀ {d : D} {v : V}, Is C Γ ψ d v → d.blw n = true → Is C Γ φ d v
  | _, _, .non, _ => .non
  | _, _, .bl b, _ => .bl b
  | _, _, .int i, _ => .int i
  | _, _, .str x, _ => .str x
  | _, _, .tup e q, b => .tup e (IsAll.back h hn q (by simpa [D.blw] using b))
  | _, _, .lst e q, b => .lst e (IsAll.back h hn q (by simpa [D.blw] using b))
  | _, _, .ref (n := m) e, b => by
    refine .ref ?_
    obtain ⟨t, rfl⟩ := h
    have hm : m < n := by simpa [D.blw] using b
    rw [List.getElem?_append_left (by rw [hn]; exact hm)] at e
    exact e
  | _, _, .scr e, _ => .scr e
theorem IsAll.back {C : Cf} {Γ : Hp} {φ ψ : List Addr} {n : Nat} (h : φ <+: ψ) (hn : φ.length = n) : ∀ {ds : List D} {vs : List V}, IsAll C Γ ψ ds vs → blwAll n ds = true → IsAll C Γ φ ds vs
  | _, _, .nil, _ => .nil
  | _, _, .cons i q, b => by
    rw [blwAll, Bool.and_eq_true] at b
    exact .cons (Is.back h hn i b.1) (IsAll.back h hn q b.2)
end
theorem FdIs.back {C : Cf} {Γ : Hp} {φ ψ : List Addr} {n : Nat} (h : φ <+: ψ) (hn : φ.length = n) : ∀ {ds : List (Str × D)} {vs : List (Str × V)}, FdIs C Γ ψ ds vs → ds.all (fun p => p.2.blw n) = true → FdIs C Γ φ ds vs
  | _, _, .nil, _ => .nil
  | _, _, .cons i q, b => by
    rw [List.all_cons, Bool.and_eq_true] at b
    exact .cons (i.back h hn b.1) (FdIs.back h hn q b.2)
theorem EntsIs.back {C : Cf} {Γ : Hp} {φ ψ : List Addr} {n : Nat} (h : φ <+: ψ) (hn : φ.length = n) : ∀ {ds : List (D × D)} {es : List DictEntry}, EntsIs C Γ ψ ds es → ds.all (fun p => p.1.blw n && p.2.blw n) = true → EntsIs C Γ φ ds es
  | _, _, .nil, _ => .nil
  | _, _, .cons i q, b => by
    rw [List.all_cons, Bool.and_eq_true, Bool.and_eq_true] at b
    refine .cons ?_ (EntsIs.back h hn q b.2)
    obtain ⟨⟨v, h1, h2⟩, h3⟩ := i
    refine ⟨⟨v, h1.back h hn b.1.2, h2⟩, ?_⟩
    rcases h3 with h3 | ⟨ds, k, bb, e1, e2, e3, e4, e5, e6⟩
    · exact .inl h3
    · exact .inr ⟨ds, k, bb, e1, e2, e3, e4, e5.back h hn (by rw [← e1]; exact b.1.1), e6⟩
theorem Ext.forget {Γ H Γ' H' : Hp} {φ φ' : List Addr} (x : Ext Γ H φ Γ' H' φ') : Ext Γ H φ Γ' H' φ := ⟨x.gs, List.prefix_rfl, x.fr, x.gn, fun _ h => .inl h, x.al, x.tl⟩
theorem Sim.forget {C : Cf} {Γ H : Hp} {φ ψ : List Addr} {st : Sto} (s : Sim C Γ H ψ st) (h : φ <+: ψ) (hb : (st.take φ.length).all (Cell.blw φ.length) = true) : Sim C Γ H φ (st.take φ.length) := by
  have hl : φ.length ≤ st.length := by rw [← s.len]; exact h.length_le
  refine ⟨s.sub, fun a ha => s.off a (h.subset ha), s.nd.sublist h.sublist, by rw [List.length_take]; omega, fun n c a h1 h2 => ?_, s.tb, s.ta, s.tg⟩
  have hb' := List.all_eq_true.mp hb c (List.mem_of_getElem? h1)
  have hn : n < φ.length := (List.getElem?_eq_some_iff.mp h2).1
  rw [List.getElem?_take_of_lt hn] at h1
  have q := s.cell n c a h1 (pre_get h h2)
  cases c with
  | lst ds => obtain ⟨vs, q1, q2⟩ := q; exact ⟨vs, q1, q2.back h rfl hb'⟩
  | dct kvs => obtain ⟨es, q1, q2, q3⟩ := q; exact ⟨es, q1, EntsIs.back h rfl q2 hb', q3⟩
  | ins c fs => obtain ⟨dx, fv, q1, q2, q3, q4, q5⟩ := q; exact ⟨dx, fv, q1, q2, q3, fun z => q4 (h.subset z), q5.back h rfl hb'⟩

section
variable {P : Program} {w : World} {K : PySem.W.Frag} {mg : Str → Option Value} {base : Heap} {cl : Cl}
theorem begin_ok {C : Cf} {Γ : Hp} {φ : List Addr} {N : List Str} {ds : List D} {vs : List V} (h : IsAll C Γ φ ds vs) (hl : ds.length ≤ N.length) : EnvOk C Γ φ (begin_ N.length ds) (L2.start N vs) := by
  unfold begin_ L2.start
  refine ⟨by simp [h.length], fun i d e => ?_⟩
  by_cases hi : i < ds.length
  · rw [List.getElem?_append_left (by simpa using hi), List.getElem?_map] at e
    cases q : ds[i]? with
    | none => rw [q] at e; cases e
    | some x =>
      rw [q] at e
      cases e
      obtain ⟨v, h1, h2⟩ := h.get q
      exact ⟨v, by rw [List.getElem?_append_left (by rw [List.length_map, ← h.length]; exact hi), List.getElem?_map, h1]; rfl, h2⟩
  · rw [List.getElem?_append_right (by simpa using hi), List.getElem?_replicate] at e
    split at e <;> cases e
/-- THE RULE of a def: what its body does -/
theorem def_ok {x qual : Str} {st : Stmt} {f : Addr} {fd : FuncData} {N ps : List Str} {k n : Nat} {b : S} (F : Fun K x qual st f fd) (S : FnScope N ps (defScope st)) (hn : ps.length = n) 
    (hb : ∀ (cdv : Value) (A : Around) (outer : List PySem.Env) (s : Shared) (H : Hp) (E : XK), RG k (A.deeper (envOfC qual (defScope st) s.heap.objs.size f cdv)) → SSs (cxOf CX0 P w K mg base N qual (defScope st) f cdv A outer s H E).nox cl (defBody st) b) :
    FnG P w K mg base (k + 1) f fd ps (spOf ⟨w, K, cl⟩ n (fDef n N.length b)) := by
  have hpl : ps.length ≤ N.length := by have := congrArg List.length S.pre; rw [List.length_take] at this; omega
  refine fnG_of F S (fun vs H Q E h => by rw [hn]; exact h.1) fun cdv A outer s H vs Q E hr h => ?_
  obtain ⟨hl, Γ, φ, st0, ds, d, st', sm, i, h, q⟩ := h
  refine ⟨_, hb cdv A outer s H E hr, ?_⟩
  unfold fDef at h
  have hds : ds.length = n := by rw [i.length]; exact hl
  rw [if_pos hds] at h
  have fin : ∀ {d1 : D} {st1 : Sto}, some (leave st0.length d1 st1) = some (d, st') → ∀ Γ' H' φ', Ext Γ H φ Γ' H' φ' → Sim ⟨w, K, cl⟩ Γ' H' φ' st1 → ∀ v, Is ⟨w, K, cl⟩ Γ' φ' d1 v → Q v H' := fun {d1 st1} e Γ' H' φ' x s v iv => by
    unfold leave at e
    split at e
    · rename_i hc
      cases e
      rw [← sm.len] at hc q
      exact q Γ' H' φ v x.forget (s.forget x.ps hc.2) (iv.back x.ps rfl hc.1)
    · cases e
      exact q Γ' H' φ' v x s iv
  have en := begin_ok (N := N) i (by rw [hds, ← hn]; exact hpl)
  cases e : b (begin_ N.length ds) st0 with
  | none => rw [e] at h; cases h
  | some z =>
    obtain ⟨o, st1⟩ := z
    rw [e] at h
    refine ⟨Γ, φ, st0, _, o, st1, sm, en, e, fun Γ' H' φ' x s => ?_⟩
    cases o with
    | next r => exact fun σ' _ _ => fin h Γ' H' φ' x s .non .non
    | ret d1 => exact fun v iv => fin h Γ' H' φ' x s v iv
    | brk r => cases h
    | cont r => cases h
end
end EV
/-! EV.10: repr of data; == of texts. -/
namespace EV
open PySem PySem.Spec PyProof.Rows L2

/-- what can be shown -/
def RepOk (d : D) : Prop := d.dat = true ∧ d.py.showable = true ∧ d.py.hasDict = false ∧ d.py.depth ≤ 60 ∧ d.py.shown.length ≤ LIM
instance (d : D) : Decidable (RepOk d) := by unfold RepOk; exact inferInstance
def bRepr (st : Sto) (vs : List D) : Option D := match vs with
  | [d] => if RepOk (seen st d) then some (.str (seen st d).py.shown) else none
  | _ => none
section
variable {X : Cx} {cl : Cl}
theorem c_repr {k : Nat} (hr : RG k X.A) : CallR X (.builtin "repr") (rC (cf X cl) bRepr) := by
  intro pins s σ H xs us Q I r h0
  obtain ⟨Γ, φ, st, ds, d, sm, i1, h, q⟩ := rC_fin h0
  unfold bRepr at h
  split at h
  · rename_i e
    split at h
    · rename_i hc
      cases h
      obtain ⟨v, rfl, i⟩ := one_all i1
      obtain ⟨u, rfl, ru⟩ := vals1 r
      obtain ⟨h1, h2, h3, h4, h5⟩ := hc
      have dp := seen_dp sm i h1
      obtain ⟨as, rd⟩ := Dp.reads I _ v u dp ru
      have hu := hr.rm.units
      have fin : ∀ h' t tk, (∀ b o, s.heap.get? b = some o → h'.get? b = some o) → EP X pins σ Q (.str (seen st e).py.shown t) { s with heap := h', toks := tk } := fun h' t tk hk => ⟨.str _, H, I.kept hk, ⟨t, rfl⟩, q _ (.str _)⟩
      generalize hd : (seen st e).py = dd at *
      cases rd with
      | none => exact PySem.P.repr_of_none (fin _ _ _ fun _ _ z => z)
      | bool b => exact PySem.P.repr_of_bool (fin _ _ _ fun _ _ z => z)
      | int i t => exact PySem.P.repr_of_int (by simpa [PyData.showable] using h2) (fin _ _ _ fun _ _ z => z)
      | str x t => exact PySem.P.repr_of_str (fin _ _ _ fun _ _ z => z) h5
      | list a1 a2 a3 a4 => exact repr_of_reads' (h₀ := s.heap) (.list a1 a2 a3 a4) h2 (PyData.noDict_hsm h3) hr.gd (by omega) (fun _ _ z => z) (fun h' t tk hk => fin h' t tk hk) h5
      | tuple a1 a2 a3 a4 => exact repr_of_reads' (h₀ := s.heap) (.tuple a1 a2 a3 a4) h2 (PyData.noDict_hsm h3) hr.gd (by omega) (fun _ _ z => z) (fun h' t tk hk => fin h' t tk hk) h5
      | dict a1 a2 a3 a4 a5 => exact absurd h3 (by simp [PyData.hasDict])
    · cases h
  · cases h
end
end EV
/-! EV.11: min, max, sorted of data. -/
namespace EV
open PySem PySem.Spec PyProof.Rows L2

mutual
theorem py_inj : ∀ {d e : D}, d.dat = true → e.dat = true → d.py = e.py → d = e
  | .non, e, _, he, h => by cases e <;> simp_all [D.py, D.dat]
  | .bl b, e, _, he, h => by cases e <;> simp_all [D.py, D.dat]
  | .int b, e, _, he, h => by cases e <;> simp_all [D.py, D.dat]
  | .str b, e, _, he, h => by cases e <;> simp_all [D.py, D.dat]
  | .tup l, e, hd, he, h => by
    cases e <;> simp [D.py, D.dat] at h he hd ⊢
    exact pyAll_inj hd he h
  | .lst l, e, hd, he, h => by
    cases e <;> simp [D.py, D.dat] at h he hd ⊢
    exact pyAll_inj hd he h
  | .ref _, _, hd, _, _ => by simp [D.dat] at hd
  | .scr _, _, hd, _, _ => by simp [D.dat] at hd
theorem pyAll_inj : ∀ {l m : List D}, datAll l = true → datAll m = true → pyAll l = pyAll m → l = m
  | [], [], _, _, _ => rfl
  | [], _ :: _, _, _, h => by simp [pyAll] at h
  | _ :: _, [], _, _, h => by simp [pyAll] at h
  | a :: l, b :: m, hl, hm, h => by
    simp [pyAll, datAll] at hl hm h
    rw [py_inj hl.1 hm.1 h.1, pyAll_inj hl.2 hm.2 h.2]
end
theorem pyAll_map : ∀ l : List D, pyAll l = l.map D.py
  | [] => rfl
  | a :: l => by rw [pyAll, pyAll_map l]; rfl
theorem Alk.at {l : List D} (h : Alk l) {a : D} (ha : a ∈ l) : a.shp = true ∧ a.nn = true ∧ ∀ b ∈ l, PySem.W.alike a.py b.py = true := by
  have q := h a ha
  rw [Bool.and_eq_true, Bool.and_eq_true, List.all_eq_true] at q
  exact ⟨q.1.1, q.1.2, q.2⟩
theorem nn_ne {a : D} (h : a.nn = true) : a.py ≠ .none := by cases a <;> simp_all [D.nn, D.py]
theorem Alk.dat {l : List D} (h : Alk l) : datAll l = true := by
  have : ∀ m : List D, (∀ a ∈ m, a.shp = true) → datAll m = true := fun m => by
    induction m with
    | nil => intro _; rfl
    | cons a r ih =>
      intro k
      rw [datAll, ih fun b hb => k b (List.mem_cons_of_mem _ hb), Bool.and_true]
      have := k a List.mem_cons_self
      unfold D.shp at this
      rw [Bool.and_eq_true] at this
      exact this.1
  exact this l fun a ha => (h.at ha).1
theorem Alk.depth {l : List D} (h : Alk l) : PyData.depthAll (pyAll l) ≤ 64 := by
  have : ∀ m : List D, (∀ a ∈ m, a.shp = true) → PyData.depthAll (pyAll m) ≤ 64 := fun m => by
    induction m with
    | nil => intro _; simp [pyAll, PyData.depthAll]
    | cons a r ih =>
      intro k
      rw [pyAll, PyData.depthAll]
      have q := ih fun b hb => k b (List.mem_cons_of_mem _ hb)
      have := k a List.mem_cons_self
      unfold D.shp at this
      rw [Bool.and_eq_true] at this
      exact Nat.max_le.mpr ⟨SeqAt.depth_of_shaped this.2, q⟩
  exact this l fun a ha => (h.at ha).1
theorem Alk.each {l : List D} (h : Alk l) : PySem.W.AlikeAll (pyAll l) := by
  rw [pyAll_map]
  refine ⟨fun x hx y hy => ?_, fun x hx => ?_⟩
  · obtain ⟨a, ha, rfl⟩ := List.mem_map.mp hx
    obtain ⟨b, hb, rfl⟩ := List.mem_map.mp hy
    exact (h.at ha).2.2 b hb
  · obtain ⟨a, ha, rfl⟩ := List.mem_map.mp hx
    exact nn_ne (h.at ha).2.1
theorem least_py : ∀ (l : List D) (a : D), (least a l).py = PySem.W.minD a.py (pyAll l)
  | [], a => rfl
  | b :: l, a => by
    have q := least_py l (if dLt b a = true then b else a)
    unfold least PySem.W.minD at q ⊢
    rw [List.foldl_cons, q, pyAll, List.foldl_cons]
    congr 1
    unfold dLt
    split <;> rfl
theorem most_py : ∀ (l : List D) (a : D), (most a l).py = PySem.W.maxD a.py (pyAll l)
  | [], a => rfl
  | b :: l, a => by
    have q := most_py l (if dLt a b = true then b else a)
    unfold most PySem.W.maxD at q ⊢
    rw [List.foldl_cons, q, pyAll, List.foldl_cons]
    congr 1
    unfold dLt
    split <;> rfl
theorem least_mem : ∀ (l : List D) (a : D), least a l ∈ a :: l
  | [], a => List.mem_cons_self
  | b :: l, a => by
    have q := least_mem l (if dLt b a = true then b else a)
    show least (if dLt b a = true then b else a) l ∈ _
    rcases List.mem_cons.mp q with q | q
    · rw [q]; split
      · exact List.mem_cons_of_mem _ List.mem_cons_self
      · exact List.mem_cons_self
    · exact List.mem_cons_of_mem _ (List.mem_cons_of_mem _ q)
theorem most_mem : ∀ (l : List D) (a : D), most a l ∈ a :: l
  | [], a => List.mem_cons_self
  | b :: l, a => by
    have q := most_mem l (if dLt a b = true then b else a)
    show most (if dLt a b = true then b else a) l ∈ _
    rcases List.mem_cons.mp q with q | q
    · rw [q]; split
      · exact List.mem_cons_of_mem _ List.mem_cons_self
      · exact List.mem_cons_self
    · exact List.mem_cons_of_mem _ (List.mem_cons_of_mem _ q)
theorem datAll_mem : ∀ {l : List D} {a : D}, datAll l = true → a ∈ l → a.dat = true
  | b :: l, a, h, ha => by
    rw [datAll, Bool.and_eq_true] at h
    rcases List.mem_cons.mp ha with rfl | ha
    · exact h.1
    · exact datAll_mem h.2 ha
/-- two alike data that one value reads as are one -/
theorem reads_same {h : Heap} {v : Value} {d e : D} {as bs : List Addr} (r : Reads h v d.py as) (r' : Reads h v e.py bs) (a : PySem.W.alike d.py e.py = true) (hd : d.dat = true) (he : e.dat = true) : d = e :=
  py_inj hd he (PySem.W.alike_unique _ _ _ _ _ a r r')
section
variable {X : Cx} {cl : Cl}
/-- the items of a list or tuple of data, in the heap -/
theorem seq_reads {pins : List (Addr × Obj)} {σ : L2.St} {Γ H : Hp} {φ : List Addr} {st : Sto} {s : Shared} {a : Addr} {vs : List V} {l : List D} (I : Inv X pins σ H s) (sm : Sim (cf X cl) Γ H φ st) (e : SqL X.K H a vs ∨ SqT X.K H a vs) (q : IsAll (cf X cl) Γ φ l vs) (hd : datAll l = true) :
    ∃ its : List Value, Vals vs its ∧ (s.heap.IsList a its.toArray ∨ s.heap.IsTuple a its.toArray) ∧ ∃ as, ReadsAll s.heap its (pyAll l) as := by
  have dp : DpAll X.K H vs (pyAll l) := all_dp (C := cf X cl) sm.sub q hd
  rcases e with e | e
  · obtain ⟨its, rv, p, _⟩ := I.list e
    exact ⟨its, rv, .inl p.isList, Dp.readsAll I _ _ _ dp rv⟩
  · obtain ⟨its, rv, p, _⟩ := I.tuple e
    exact ⟨its, rv, .inr p, Dp.readsAll I _ _ _ dp rv⟩
theorem readsAll_get {h : Heap} : ∀ {its : List Value} {l : List D} {as : List Addr} {i : Nat} {v : Value}, ReadsAll h its (pyAll l) as → its[i]? = some v → ∃ d bs, l[i]? = some d ∧ Reads h v d.py bs
  | [], [], _, i, v, _, e => by simp at e
  | [], _ :: _, _, i, v, r, e => by simp at e
  | _ :: _, [], _, i, v, r, e => by rw [pyAll] at r; cases r
  | u :: its, d :: l, _, i, v, r, e => by
    rw [pyAll] at r
    cases r with
    | cons r1 r2 =>
      cases i with
      | zero => simp at e; subst e; exact ⟨d, _, rfl, r1⟩
      | succ i =>
        obtain ⟨d', bs, h1, h2⟩ := readsAll_get r2 (by simpa using e)
        exact ⟨d', bs, by simpa using h1, h2⟩
/-- min(xs), max(xs): what is chosen is one of the items -/
theorem chosen {pins : List (Addr × Obj)} {σ : L2.St} {Γ H : Hp} {φ : List Addr} {s : Shared} {vs : List V} {its : List Value} {l : List D} {as bs : List Addr} {z : D} {i : Nat} {v : Value} {h' : Heap} {tk : Tok} {Q : VK} (I : Inv X pins σ H s) (rv : Vals vs its)
    (q : IsAll (cf X cl) Γ φ l vs) (ra : ReadsAll s.heap its (pyAll l) as) (ha : Alk l) (hz : z ∈ l) (e : its[i]? = some v) (r : Reads h' v z.py bs) (hk : ∀ b o, s.heap.get? b = some o → h'.get? b = some o) (fin : ∀ x, Is (cf X cl) Γ φ z x → Q x H) :
    EP X pins σ Q v { s with heap := h', toks := tk } := by
  obtain ⟨d, cs, e1, e2⟩ := readsAll_get ra e
  have hdm : d ∈ l := List.mem_of_getElem? e1
  have ed : d = z := reads_same (PySem.W.reads_keeps hk e2) r ((ha.at hdm).2.2 z hz) (datAll_mem ha.dat hdm) (datAll_mem ha.dat hz)
  subst ed
  obtain ⟨x, e3, e4⟩ := q.get e1
  obtain ⟨u, e5, e6⟩ := rv.get e3
  rw [e] at e5
  cases e5
  exact ⟨x, H, I.kept hk, e6, fin x e4⟩
theorem c_min {k : Nat} (hc : X.calm = true) (hr : RG k X.A) : CallR X (.builtin "min") (rC (cf X cl) bMin) := by
  intro pins s σ H xs us Q I r h0
  obtain ⟨Γ, φ, st, ds, d, sm, i1, h, q⟩ := rC_fin h0
  unfold bMin at h
  split at h
  · cases h
    obtain ⟨v, w, rfl, j1, j2⟩ := two_all i1
    cases j1; cases j2
    exact call_min2 hc pins s σ H _ us Q I r ⟨_, _, rfl, q _ (.int _)⟩
  · obtain ⟨l, h1, h⟩ := Option.bind_eq_some_iff.mp h
    obtain ⟨v, rfl, i⟩ := one_all i1
    obtain ⟨u, rfl, ru⟩ := vals1 r
    cases l with
    | nil => cases h
    | cons a l =>
      replace h : (if Alk (a :: l) then some (least a l) else none) = some d := h
      split at h
      · rename_i ha
        cases h
        obtain ⟨ad, vs, rfl, e, q1⟩ := asSeq_at sm h1 i
        cases ru
        obtain ⟨its, rv, hl, as, ra⟩ := seq_reads I sm e q1 ha.dat
        have hu := hr.rm.units
        have hdp := ha.depth
        have go : ∀ (i : Nat) v h' tk bs, its.toArray[i]? = some v → Reads h' v (PySem.W.minD a.py (pyAll l)) bs → (∀ b o, s.heap.get? b = some o → h'.get? b = some o) → EP X pins σ Q v { s with heap := h', toks := tk } := fun i v h' tk bs e1 e2 hk => by
          rw [← least_py] at e2
          exact chosen I rv q1 ra ha (least_mem _ _) (by simpa using e1) e2 hk fun x ix => q x ix
        have hu2 : X.A.units + 1 + PyData.depthAll (a.py :: pyAll l) < cLine := by
          have : PyData.depthAll (a.py :: pyAll l) ≤ 64 := hdp
          have := hr.rm.un
          omega
        rcases hl with hl | hl
        · exact PySem.W.min_list_data (I.ok.hd hc) hl (by simpa [pyAll] using ra) (by simpa [pyAll] using ha.each) hu2 go
        · exact PySem.W.min_tuple_data (I.ok.hd hc) hl (by simpa [pyAll] using ra) (by simpa [pyAll] using ha.each) hu2 go
      · cases h
  · cases h
theorem c_max {k : Nat} (hc : X.calm = true) (hr : RG k X.A) : CallR X (.builtin "max") (rC (cf X cl) bMax) := by
  intro pins s σ H xs us Q I r h0
  obtain ⟨Γ, φ, st, ds, d, sm, i1, h, q⟩ := rC_fin h0
  unfold bMax at h
  split at h
  · cases h
    obtain ⟨v, w, rfl, j1, j2⟩ := two_all i1
    cases j1; cases j2
    exact call_max2 hc pins s σ H _ us Q I r ⟨_, _, rfl, q _ (.int _)⟩
  · obtain ⟨l, h1, h⟩ := Option.bind_eq_some_iff.mp h
    obtain ⟨v, rfl, i⟩ := one_all i1
    obtain ⟨u, rfl, ru⟩ := vals1 r
    cases l with
    | nil => cases h
    | cons a l =>
      replace h : (if Alk (a :: l) then some (most a l) else none) = some d := h
      split at h
      · rename_i ha
        cases h
        obtain ⟨ad, vs, rfl, e, q1⟩ := asSeq_at sm h1 i
        cases ru
        obtain ⟨its, rv, hl, as, ra⟩ := seq_reads I sm e q1 ha.dat
        have hdp := ha.depth
        have go : ∀ (i : Nat) v h' tk bs, its.toArray[i]? = some v → Reads h' v (PySem.W.maxD a.py (pyAll l)) bs → (∀ b o, s.heap.get? b = some o → h'.get? b = some o) → EP X pins σ Q v { s with heap := h', toks := tk } := fun i v h' tk bs e1 e2 hk => by
          rw [← most_py] at e2
          exact chosen I rv q1 ra ha (most_mem _ _) (by simpa using e1) e2 hk fun x ix => q x ix
        have hu2 : X.A.units + 1 + PyData.depthAll (a.py :: pyAll l) < cLine := by
          have : PyData.depthAll (a.py :: pyAll l) ≤ 64 := hdp
          have := hr.rm.un
          omega
        rcases hl with hl | hl
        · exact PySem.W.max_list_data (I.ok.hd hc) hl (by simpa [pyAll] using ra) (by simpa [pyAll] using ha.each) hu2 go
        · exact PySem.W.max_tuple_data (I.ok.hd hc) hl (by simpa [pyAll] using ra) (by simpa [pyAll] using ha.each) hu2 go
      · cases h
  · cases h
end
end EV
/-! EV.12: sorted of a list of data. -/
namespace EV
open PySem PySem.Spec PyProof.Rows L2
section
variable {X : Cx} {cl : Cl}
theorem each_mk {C : Cf} {Γ : Hp} {φ : List Addr} : ∀ {l : List D} {vs : List V} {its : List Value}, IsAll C Γ φ l vs → Vals vs its → PySem.W.EachIs (fun u d => ∃ x, RelV x u ∧ Is C Γ φ d x) its l
  | [], _, _, .nil, .nil => .nil
  | _ :: _, _, _, .cons i q, .cons r t => .cons ⟨_, r, i⟩ (each_mk q t)
theorem each_back {C : Cf} {Γ : Hp} {φ : List Addr} : ∀ {l : List D} {its : List Value}, PySem.W.EachIs (fun u d => ∃ x, RelV x u ∧ Is C Γ φ d x) its l → ∃ vs, Vals vs its ∧ IsAll C Γ φ l vs
  | _, _, .nil => ⟨[], .nil, .nil⟩
  | _, _, .cons ⟨x, r, i⟩ t => let ⟨vs, h1, h2⟩ := each_back t; ⟨x :: vs, .cons r h1, .cons i h2⟩
theorem each_reads {h : Heap} : ∀ {its : List Value} {l : List D} {as : List Addr}, ReadsAll h its (pyAll l) as → PySem.W.EachIs (fun u d => ∃ as, Reads h u d.py as) its l
  | [], [], _, _ => .nil
  | [], _ :: _, _, r => by rw [pyAll] at r; cases r
  | _ :: _, [], _, r => by rw [pyAll] at r; cases r
  | u :: its, d :: l, _, r => by
    rw [pyAll] at r
    cases r with
    | cons r1 r2 => exact .cons ⟨_, r1⟩ (each_reads r2)
theorem Alk.srt {l : List D} (h : Alk l) : PySem.W.AllAlike (l.map D.py) := fun x hx y hy => by
  obtain ⟨a, ha, rfl⟩ := List.mem_map.mp hx
  obtain ⟨b, hb, rfl⟩ := List.mem_map.mp hy
  exact (h.at ha).2.2 b hb
theorem can_sort {l : List D} (ha : Alk l) (h : l.all tupled = true ∨ l.all untupled = true) : PySem.W.Sortable (l.map D.py) := by
  rcases h with h | h
  · refine .inl fun x hx => ?_
    obtain ⟨a, hm, rfl⟩ := List.mem_map.mp hx
    have q := List.all_eq_true.mp h a hm
    unfold tupled at q
    split at q
    · rename_i b r
      exact ⟨b.py, pyAll r, rfl⟩
    · cases q
  · refine .inr fun x hx => ?_
    obtain ⟨a, hm, rfl⟩ := List.mem_map.mp hx
    have q := List.all_eq_true.mp h a hm
    have n := (ha.at hm).2.1
    cases a <;> simp_all [D.nn, D.py, untupled]
theorem f_sorted {k : Nat} (hr : RG k X.A) : CallR X (.builtin "sorted") (rCF (cf X cl) bSorted) := by
  intro pins s σ H xs us Q I r h0
  obtain ⟨Γ, φ, st, ds, d, sm, i1, h, q⟩ := h0
  unfold bSorted at h
  split at h
  · obtain ⟨l, h1, h⟩ := Option.bind_eq_some_iff.mp h
    split at h
    · rename_i hc
      cases h
      obtain ⟨ha, hs, hl⟩ := hc
      obtain ⟨v, rfl, i⟩ := one_all i1
      obtain ⟨u, rfl, ru⟩ := vals1 r
      obtain ⟨ad, vs, rfl, e, q1⟩ := asL_at sm h1 i
      cases ru
      obtain ⟨its, rv, p, _⟩ := I.list (SqL.of e)
      have dp : DpAll X.K H vs (pyAll l) := all_dp (C := cf X cl) sm.sub q1 ha.dat
      obtain ⟨as, ra⟩ := Dp.readsAll I _ _ _ dp rv
      refine PySem.W.sorted_data (enc := D.py) p.isList (each_mk q1 rv) (each_reads ra) ha.srt (can_sort ha hs) hl (fun b hb => ?_) fun out hlen ho => ?_
      · have := hr.rm.un
        have z := (ha.at hb).1
        unfold D.shp at z
        rw [Bool.and_eq_true] at z
        have := SeqAt.depth_of_shaped z.2
        omega
      · obtain ⟨ws, r2, i2⟩ := each_back ho
        obtain ⟨ep, he⟩ := PyProof.Rows.sortedAll_at s.heap its out.toArray
        have hf : H (s.heap.objs.size + 1) = none := I.hok.fresh (Nat.le_succ _)
        have wl : ws.length ≤ sizeLine := by rw [r2.length, hlen]; exact hl
        obtain ⟨s2, x2⟩ := sm.other (o := .lst ws) hf
        refine ⟨.ref _, upd H (s.heap.objs.size + 1) (.lst ws), I.laid (t' := s.toks) (fun _ _ => PyProof.Rows.sortedAll_old) (Nat.le_succ _) ⟨wl, out, ep, r2, ?_⟩, rfl, q _ _ _ _ _ x2 s2 hf upd_same (sm.notIn hf) (sm.fresh hf) i2⟩
        simpa using he
    · cases h
  · cases h
theorem lst_bSorted {aa : A} : ∀ r st d st', eBlt bSorted aa r st = some (d, st') → ∃ l, d = .lst l := fun r st d st' h => by
  unfold eBlt at h
  obtain ⟨x, h1, h⟩ := Option.bind_eq_some_iff.mp h
  obtain ⟨z, h2, h⟩ := Option.bind_eq_some_iff.mp h
  cases h
  unfold bSorted at h2
  split at h2
  · obtain ⟨l, h1, h2⟩ := Option.bind_eq_some_iff.mp h2
    split at h2
    · cases h2; exact ⟨_, rfl⟩
    · cases h2
  · cases h2
end
/-- a builtin that hands back a new list -/
theorem sf_bltF {X : Cx} {cl : Cl} {fb : Sto → List D → Option D} {es : List Expr} {aa : A} {x : Str} {p pos : Pos} {id : String} {e : Expr} (hc : CallR X (.builtin id) (rCF (cf X cl) fb)) (hg : Gl X x) (hm : X.mg x = none) (hv : bootBuiltins x = some (.builtin id)) (ha : SA X cl (e :: es) aa)
    (hn : x ≠ "__name__" := by decide) (hdb : (x == ("__debug__" : Str)) = false := by decide) (he : starEach (e :: es) X.env = (false, eval e X.env) :: starEach es X.env := by rfl) (hpl : (backTo pos (starEach es X.env)).any (·.1) = false := by rfl) :
    SF X cl (.Call (.Name x p) (e :: es) [] pos) (eBlt fb aa) := PE.imp (pe_callB hc hg hm hv ha hn hdb he hpl) fun _ _ _ h => tcbF_of h
end EV
/-! EV.13: enumerate of lists and tuples, zip of tuples. -/
namespace EV
open PySem PySem.Spec PyProof.Rows L2

/-- enumerate(v) begins -/
theorem enum_new1 {v : Value} {o : Obj} {R0 : Heap → Prop} (B : Begins v o R0) :
    Meets (Builtin.«enumerate.__new__» ⟨[.type "enumerate", v], []⟩) (fun _ R z => R0 z.heap ∧ R (.ok (.ret (.ref (z.heap.push o).objs.size))) { z with heap := (z.heap.push o).push { cls := .type "enumerate", data := .fields #[.none, .bool false, .ref z.heap.objs.size, rawInt 0, .none, .none] } }) :=
  .of_wp fun P w A R z h => by
    obtain ⟨hp, g, d, tk, os⟩ := z
    obtain ⟨h1, h⟩ := h
    have hsub := sub_enumerate
    have go : ∀ {A' : Around} {E : Value → Shared → Prop} {Q : Value → Shared → Prop}, Q (.ref hp.objs.size) ⟨hp.push o, g, d, tk, os⟩ → wpAny (model P w) A' (pyIter v) Q E ⟨hp, g, d, tk, os⟩ := fun q => B.iter P w _ _ ⟨hp, g, d, tk, os⟩ _ h1 q
    wp_walk using go
    refine wpAny_stack_any fun st => wpAny_pure ?_
    split
    · rename_i c _ _ _ _ _
      cases (c == Value.type "enumerate") <;> (wp_walk using go; exact ⟨_, rfl, h⟩)
    · wp_walk using go
      exact ⟨_, rfl, h⟩
theorem enum_call {prog : Program} {w : World} {A : Around} {E : Value → Shared → Prop} {s : Shared} {v : Value} {o : Obj} {R0 : Heap → Prop} {Q : Value → Shared → Prop} (B : Begins v o R0) (h1 : R0 s.heap)
    (h : ∀ h', IsEnum h' (s.heap.objs.size + 1) s.heap.objs.size 0 .none → h'.get? s.heap.objs.size = some o → (∀ b u, s.heap.get? b = some u → h'.get? b = some u) → Q (.ref (s.heap.objs.size + 1)) { s with heap := h' }) :
    wpAny (model prog w) A (call (.type "enumerate") [v]) Q E s := by
  refine callType_new F.called_enumerate (by decide) (F.typeCall_enumerate_1 _) (F.newCall_enumerate_1 _) (fun obj => F.args_object_init_2 obj _) F.entry_enumerate_new (enum_new1 B) ⟨h1, ?_⟩
  have size1 : (s.heap.push o).objs.size = s.heap.objs.size + 1 := Heap.size_push ..
  have cell := Heap.get?_push_size (s.heap.push o) (o := { cls := .type "enumerate", data := .fields #[.none, .bool false, .ref s.heap.objs.size, rawInt 0, .none, .none] }) rfl
  show _ ∧ _
  rw [size1] at cell ⊢
  exact ⟨⟨_, cell, rfl⟩, h _ cell (Heap.get?_push_of_some _ (Heap.get?_push_size _ B.free)) fun b u x => Heap.get?_push_of_some _ (Heap.get?_push_of_some _ x)⟩

/-- the tuple at a, each item in a new pair -/
def ItE (K : PySem.W.Frag) (a : Addr) : It :=
  ⟨fun i H => ∃ (xs : List V) (x : V), SqT K H a xs ∧ xs[i]? = some x, fun i H v H' => ∃ T x, v = .ref T ∧ H T = none ∧ H' = upd H T (.tup [.int (i : Nat), x]) ∧ ∀ xs, SqT K H a xs → xs[i]? = some x, fun i H => ∃ xs : List V, SqT K H a xs ∧ xs.length ≤ i⟩
theorem turn_enumT {P : Program} {w : World} {K : PySem.W.Frag} {elts : List Expr} {kk : Nat} {tpos : Pos} (a e it : Addr) :
    Turn P w K (.Tuple elts kk tpos) (ItE K a) [e, it] e (fun i h => (∃ old, IsEnum h e it ((i : Nat) : Int) old) ∧ h.IsTupleIter it a i ∧ e ≠ it ∧ a ≠ it ∧ a ≠ e) where
  mem := List.mem_cons_self
  obj := fun i h z b hb => by
    obtain ⟨⟨_, z1⟩, ⟨u, z2, _, z3⟩, _⟩ := z
    rcases (show b = e ∨ b = it by simpa using hb) with rfl | rfl
    · exact ⟨_, z1, fun v q => nomatch q⟩
    · refine ⟨u, z2, fun v q => ?_⟩
      rw [z3] at q; cases q
  keep := fun i h h' z k => by
    obtain ⟨⟨old, z1⟩, z2, z3⟩ := z
    exact ⟨⟨old, k e List.mem_cons_self _ z1⟩, z2.at fun u q => k it (by simp) u q, z3⟩
  item := by
    intro X hP hw hK hc i pins s σ H E I hf z hg
    subst hP; subst hw; subst hK
    obtain ⟨⟨old, z1⟩, z2, ne1, ne2, ne3⟩ := z
    obtain ⟨xs, x, hq, hx⟩ := hg
    obtain ⟨its, rv, p, _⟩ := I.tuple hq
    obtain ⟨u, hu, ru⟩ := rv.get hx
    have lt1 : e < s.heap.objs.size := Heap.lt_size z1
    have lt2 : it < s.heap.objs.size := by
      obtain ⟨_, q, _⟩ := z2
      exact Heap.lt_size q
    have hlt : i < its.toArray.size := by
      have := (List.getElem?_eq_some_iff.mp hu).1
      simpa using this
    refine wpAny_pyNext_enum_itemD (Draws.tuple (prog := X.prog) (w := X.w) (A := X.A.in1) (I.ok.hd hc) it a ne2 its.toArray) z1 ⟨z2, p⟩ hlt ne1 (by simp [ne1, Ne.symm ne3]) fun y h' tk hy out st' hT _ hk => ?_
    obtain rfl : u = y := Option.some.inj ((show its.toArray[i]? = some u by simpa using hu).symm.trans hy)
    refine ⟨_, rfl, wpAny_letOwnedTupleGo_enum (s := { s with heap := h', toks := tk + 1 }) out fun h2 z1' same => ?_⟩
    have pair : h2.get? s.heap.objs.size = some { cls := .type "tuple", data := .seq #[.int i tk, u] } := (same.2 _ (Nat.ne_of_gt lt1)).trans hT
    have obj : ObjOk X.prog X.w (upd H s.heap.objs.size (.tup [.int (i : Nat), x])) h2 s.heap.objs.size (.tup [.int (i : Nat), x]) :=
      ⟨by show 2 ≤ sizeLine; decide, [.int i tk, u], .cons ⟨_, rfl⟩ (.cons ru .nil), ⟨_, pair, rfl, _, rfl⟩⟩
    have I2 : Inv X pins σ (upd H s.heap.objs.size (.tup [.int (i : Nat), x])) { s with heap := h2, toks := tk + 1 } := by
      refine I.turnedNew (t' := tk + 1) (ch := [e, it]) (fun b ob hb q => ?_) hf (Nat.le_refl _) obj
      simp only [List.mem_cons, List.not_mem_nil, or_false, not_or] at hb
      exact (same.2 b hb.1).trans (hk b ob hb.1 hb.2 q)
    refine ⟨.ref s.heap.objs.size, _, I2, rfl, ⟨_, x, rfl, I.hok.fresh (Nat.le_refl _), rfl, fun ys hy => ?_⟩, ⟨⟨u, ?_⟩, st'.1.at fun ob q => (same.2 it (Ne.symm ne1)).trans q, ne1, ne2, ne3⟩, fun b hb => ?_⟩
    · rw [I.tuple_inj hy hq]; exact hx
    · have step : ((i + 1 : Nat) : Int) = (i : Int) + 1 := by omega
      rw [step]; exact z1'
    · have lt : b < s.heap.objs.size := by
        rcases (show b = e ∨ b = it by simpa using hb) with rfl | rfl
        · exact lt1
        · exact lt2
      rw [upd_ne (Nat.ne_of_lt lt)]
      exact (hf b hb).1
  done := by
    intro X hP hw hK hc i pins s σ H E I hf z hg
    subst hP; subst hw; subst hK
    obtain ⟨⟨old, z1⟩, z2, ne1, ne2, ne3⟩ := z
    obtain ⟨xs, hq, hx⟩ := hg
    obtain ⟨its, rv, p, _⟩ := I.tuple hq
    obtain ⟨f0, f1, f2, f3, f4, f5⟩ := hf it (by simp)
    have hl := rv.length
    unfold pyNext
    have ty : s.TypeIs (.ref e) "enumerate" := ⟨_, z1, rfl⟩
    refine wpAny_bind (wpAny_attempt (wpAny_callSpecial?_slot (name := Str.ofString "__next__") ty F.slot_enumerate_next (wpAny_call_entry F.slot_enumerate_next ty F.entry_enumerate_next ?_ (F.args_enumerate_next_1 _))))
    show wpAny _ _ (field (.ref e) 2 >>= _) _ _ _
    refine wpAny_bind (wpAny_field z1 rfl (x := .ref it) rfl (wpAny_bind ?_))
    refine wpAny_nextOf_tuple_end (I.ok.hd hc) z2 p (by simp; omega) fun h' x he hx' => ?_
    obtain ⟨u, hu, hcls⟩ := hx'
    exact wpAny_bind (wpAny_isInstance (T := "StopIteration") (b := true) ⟨u, hu, hcls⟩ isSubtype_stop (wpAny_pure ⟨rfl, I.turned (t' := s.toks) (fun b ob hb q => he b ob hb q) f0 f1 f3 f4 f5⟩))
  self := fun A i s Q E z h => by
    obtain ⟨⟨_, z1⟩, _⟩ := z
    exact wpAny_pyIter_enum z1 h

section
variable {X : Cx} {cl : Cl} {C : Cf} {e e2 : Expr} {ea eb : E}
theorem pair_walk {K : PySem.W.Frag} {Γ H : Hp} {φ : List Addr} {st : Sto} {T : Addr} {x y : V} {a b : D} (s : Sim C Γ H φ st) (hT : H T = none) (i : Is C Γ φ a x) (j : Is C Γ φ b y) :
    ∃ Γ', EV.Ext Γ H φ Γ' (upd H T (.tup [x, y])) φ ∧ Sim C Γ' (upd H T (.tup [x, y])) φ st ∧ Is C Γ' φ (.tup [a, b]) (.ref T) := by
  obtain ⟨s2, x2⟩ := s.frozen (o := .tup [x, y]) hT
  exact ⟨_, x2, s2, .tup upd_same (.cons (x2.is i) (.cons (x2.is j) .nil))⟩
theorem enumD_get {l : List D} {i : Nat} {d : D} (h : (enumD l)[i]? = some d) : ∃ a, l[i]? = some a ∧ d = .tup [.int (i : Nat), a] := by
  unfold enumD at h
  rw [List.getElem?_map, List.getElem?_zipIdx] at h
  cases e : l[i]? with
  | none => rw [e] at h; cases h
  | some a =>
    rw [e] at h
    cases h
    refine ⟨a, rfl, ?_⟩
    simp
theorem walk_enumL {Γ0 : Hp} {φ0 : List Addr} {a : Addr} {vs : List V} {l : List D} (h : Γ0 a = some (.lst vs)) (q : IsAll C Γ0 φ0 l vs) : WalkOk C (Ite C.K a) (.vals (enumD l)) Γ0 φ0 where
  go := fun Γ H φ st g p s _ i d hi hd => by
    obtain ⟨b, e1, rfl⟩ := enumD_get hd
    obtain ⟨v, e2, e3⟩ := q.get e1
    have hs : SqL C.K H a vs := SqL.of (s.sub _ _ (g _ _ h))
    refine ⟨⟨vs, v, hs, e2⟩, fun x H' y => ?_⟩
    obtain ⟨T, z, rfl, hT, rfl, hz⟩ := y
    obtain rfl : z = v := Option.some.inj ((hz vs hs).symm.trans e2)
    exact pair_walk (K := C.K) s hT (.int _) (e3.mono g p)
  stop := fun Γ H φ st g p s _ => ⟨vs, SqL.of (s.sub _ _ (g _ _ h)), by rw [← q.length]; simp [Src.len, enumD]⟩
theorem walk_enumT {Γ0 : Hp} {φ0 : List Addr} {a : Addr} {vs : List V} {l : List D} (h : Γ0 a = some (.tup vs)) (q : IsAll C Γ0 φ0 l vs) : WalkOk C (ItE C.K a) (.vals (enumD l)) Γ0 φ0 where
  go := fun Γ H φ st g p s _ i d hi hd => by
    obtain ⟨b, e1, rfl⟩ := enumD_get hd
    obtain ⟨v, e2, e3⟩ := q.get e1
    have hs : SqT C.K H a vs := SqT.of (s.sub _ _ (g _ _ h))
    refine ⟨⟨vs, v, hs, e2⟩, fun x H' y => ?_⟩
    obtain ⟨T, z, rfl, hT, rfl, hz⟩ := y
    obtain rfl : z = v := Option.some.inj ((hz vs hs).symm.trans e2)
    exact pair_walk (K := C.K) s hT (.int _) (e3.mono g p)
  stop := fun Γ H φ st g p s _ => ⟨vs, SqT.of (s.sub _ _ (g _ _ h)), by rw [← q.length]; simp [Src.len, enumD]⟩
theorem si_enum {p pos tpos : Pos} {elts : List Expr} {kk : Nat} (hg : Gl X "enumerate") (hm : X.mg "enumerate" = none) (ha : SE X cl e ea) (hs : starEach [e] X.env = [(false, eval e X.env)] := by rfl) :
    SI X cl (.Tuple elts kk tpos) (.Call (.Name "enumerate" p) [e] [] pos) (EV.iEnum ea) := by
  refine ⟨fun pins s σ H R I h => ?_⟩
  obtain ⟨Γ, φ, st, r, sr, st', sm, en, h, q⟩ := h
  unfold EV.iEnum at h
  obtain ⟨x, h1, h⟩ := Option.bind_eq_some_iff.mp h
  have hd : tCons (tD (cf X cl) ea) tNil σ H fun vs H1 => ∃ v, vs = [v] ∧ ((∃ a, v = .ref a ∧ (∃ xs, SqL X.K H1 a xs) ∧ R (Ite X.K a) H1) ∨ (∃ a, v = .ref a ∧ (∃ xs, SqT X.K H1 a xs) ∧ R (ItE X.K a) H1)) :=
    ⟨Γ, φ, st, r, x.1, x.2, sm, en, h1, fun Γ1 H1 φ1 v x1 s1 i1 => by
      refine ⟨v, rfl, ?_⟩
      obtain ⟨d, st1⟩ := x
      cases i1 with
      | tup e1 q1 => cases h; exact .inr ⟨_, rfl, ⟨_, SqT.of (s1.sub _ _ e1)⟩, q _ _ _ _ x1 s1 (walk_enumT e1 q1)⟩
      | lst e1 q1 => cases h; exact .inl ⟨_, rfl, ⟨_, SqL.of (s1.sub _ _ e1)⟩, q _ _ _ _ x1 s1 (walk_enumL e1 q1)⟩
      | _ => exact nomatch h⟩
  refine Call_ (ld_blt I hg hm boot_enumerate (PyProof.Rows.callWith_type1 ?_ hs rfl))
  refine thn ((pa_cons ha pa_nil (by rw [hs]; rfl)).run pos pins s σ H _ I hd) fun us s1 ⟨vs, H1, I1, r1, v, ev, q1⟩ => ?_
  subst ev
  obtain ⟨u, rfl, ru⟩ := vals1 r1
  rcases q1 with ⟨a, rfl, ⟨xs, hq⟩, q1⟩ | ⟨a, rfl, ⟨xs, hq⟩, q1⟩
  · cases ru
    obtain ⟨its, rv, p, hz⟩ := I1.list hq
    refine enum_call (begins_list a its.toArray) p.isList fun h' z1 hit hk => wpAny_pyIter_enum z1 ?_
    refine ⟨s1.heap.objs.size + 1, [s1.heap.objs.size + 1, s1.heap.objs.size], _, _, H1, rfl, I1.kept (t' := s1.toks) hk, turn_enum a (s1.heap.objs.size + 1) s1.heap.objs.size, ⟨⟨.none, z1⟩, ⟨_, hit, rfl, rfl⟩, Nat.succ_ne_self _⟩, fun b hb => ?_, q1⟩
    have le : s1.heap.objs.size ≤ b := by
      rcases (show b = s1.heap.objs.size + 1 ∨ b = s1.heap.objs.size by simpa using hb) with rfl | rfl
      · exact Nat.le_succ _
      · exact Nat.le_refl _
    exact I1.fpOk le (I1.hok.fresh le)
  · cases ru
    obtain ⟨its, rv, p, hz⟩ := I1.tuple hq
    have lt : a < s1.heap.objs.size := by
      obtain ⟨_, z, _⟩ := p
      exact Heap.lt_size z
    refine enum_call (begins_tuple a its.toArray) p fun h' z1 hit hk => wpAny_pyIter_enum z1 ?_
    refine ⟨s1.heap.objs.size + 1, [s1.heap.objs.size + 1, s1.heap.objs.size], _, _, H1, rfl, I1.kept (t' := s1.toks) hk, turn_enumT a (s1.heap.objs.size + 1) s1.heap.objs.size, ⟨⟨.none, z1⟩, ⟨_, hit, rfl, rfl⟩, Nat.succ_ne_self _, Nat.ne_of_lt lt, Nat.ne_of_lt (Nat.lt_succ_of_lt lt)⟩, fun b hb => ?_, q1⟩
    have le : s1.heap.objs.size ≤ b := by
      rcases (show b = s1.heap.objs.size + 1 ∨ b = s1.heap.objs.size by simpa using hb) with rfl | rfl
      · exact Nat.le_succ _
      · exact Nat.le_refl _
    exact I1.fpOk le (I1.hok.fresh le)
end
end EV
/-! EV.14: t[::-1] of tuples. -/
namespace EV
open PySem PySem.Spec PyProof.Rows L2 HT

theorem back_pick (xs : Array Value) : ((List.range xs.size).filterMap fun (k : Nat) => xs[((xs.size : Int) - 1 + (k : Int) * (-1)).toNat]?).toArray = xs.toList.reverse.toArray := by
  have e : ((List.range xs.size).filterMap fun (k : Nat) => xs[((xs.size : Int) - 1 + (k : Int) * (-1)).toNat]?) = ((List.range xs.size).map fun k => xs.size - 1 - k).filterMap (xs[·]?) := by
    rw [List.filterMap_map]
    congr 1
    funext k
    have e2 : ((xs.size : Int) - 1 + (k : Int) * (-1)).toNat = xs.size - 1 - k := by omega
    rw [e2]; rfl
  rw [e, PySem.W.krv_range, List.filterMap_reverse, PySem.W.krv_all]
section
variable {prog : Program} {w : World} {A : Around} {E : Value → Shared → Prop} {s : Shared}
theorem back_applied {sl : Addr} {u : Tok} {n : Nat} {Q : Int × Int × Nat → Shared → Prop} (hs : s.heap.IsSliceOf sl .none .none (.int (-1) u)) (h : Q ((n : Int) - 1, -1, n) s) :
    wpAny (model prog w) A (Builtin.Slice.sliceApplied (.ref sl) (pure (n : Int))) Q E s := by
  obtain ⟨os, hos, hcs, hds⟩ := id hs
  unfold Builtin.Slice.sliceApplied Builtin.Slice.sliceFields
  refine wpAny_bind (wpAny_bind (wpAny_field hos hds (x := .none) rfl (wpAny_bind (wpAny_field hos hds (x := .none) rfl (wpAny_bind (wpAny_field hos hds (x := .int (-1) u) rfl (wpAny_pure ?_)))))))
  refine wpAny_bind (slicePart_ (.int (-1) u) ?_)
  show wpAny _ _ (if ((-1 : Int) == 0) = true then _ else _) _ _ s
  rw [if_neg (by decide)]
  refine wpAny_bind (slicePart_ .none (wpAny_bind (slicePart_ .none (wpAny_bind (wpAny_pure ?_)))))
  show wpAny _ _ (match Builtin.Slice.sliceAdjust none none (-1) (n : Int) with | (lo, hi) => pure (lo, (-1 : Int), Builtin.Slice.slicePlaces lo hi (-1))) _ _ s
  have e : Builtin.Slice.sliceAdjust none none (-1) (n : Int) = ((n : Int) - 1, -1) := rfl
  rw [e]
  show wpAny _ _ (pure ((n : Int) - 1, (-1 : Int), Builtin.Slice.slicePlaces ((n : Int) - 1) (-1) (-1))) _ _ s
  have e2 : Builtin.Slice.slicePlaces ((n : Int) - 1) (-1) (-1) = n := by
    unfold Builtin.Slice.slicePlaces
    rw [if_neg (by decide), show (- -1 : Int) = 1 by decide, Int.ediv_one]
    split <;> omega
  rw [e2]
  exact wpAny_pure h
theorem back_tuple {t sl : Addr} {items : Array Value} {u : Tok} {Q : Value → Shared → Prop} (ht : IsTup s.heap t items) (hs : s.heap.IsSliceOf sl .none .none (.int (-1) u)) (hz : items.size ≤ sizeLine)
    (h : Q (.ref s.heap.objs.size) { s with heap := s.heap.push { cls := .type "tuple", data := .seq items.toList.reverse.toArray } }) : wpAny (model prog w) A (getItem (.ref t) (.ref sl)) Q E s := by
  have fits : sizeOk (.seq items.toList.reverse.toArray) := by
    show items.toList.reverse.toArray.size ≤ sizeLine
    rw [List.size_toArray, List.length_reverse, Array.length_toList]
    exact hz
  obtain ⟨os, hos, hcs, hds⟩ := id hs
  have ty : s.TypeIs (.ref sl) "slice" := ⟨os, hos, hcs⟩
  unfold getItem
  try with_reducible refine wpAny_holding ?_
  first | refine wpAny_bind (wpAny_pure ?_) | skip
  refine wpAny_bind (wpAny_sequenceKey ht.typeIs (by decide) (wpAny_bind ?_))
  refine wpAny_callSpecial?_slot (name := Str.ofString "__getitem__") ht.typeIs PyProof.Rows.slot_tuple_getitem (wpAny_call_entry PyProof.Rows.slot_tuple_getitem ht.typeIs entry_tuple_getitem ?_ (args_tuple_getitem _ _))
  show wpAny _ _ (Builtin.Tuple.tupleItemsOf (.ref t) >>= _) _ _ s
  refine wpAny_bind (tupleItemsOf_ ht (wpAny_bind (wpAny_typeOf ty ?_)))
  rw [if_pos (by decide)]
  refine wpAny_bind (back_applied hs ?_)
  have no : ¬ ((((items.size : Int) - 1) == 0 && (-1 : Int) == 1 && items.size == items.size) = true) := by simp
  show wpAny _ _ (if (((items.size : Int) - 1) == 0 && (-1 : Int) == 1 && items.size == items.size) = true then _ else _) _ _ s
  rw [if_neg no, back_pick]
  first
    | exact wpAny_bind (m := Builtin.Tuple.tupleExact _) (wpAny_newObj_type (wpAny_pure ⟨_, rfl, wpAny_pure h⟩) fits)
    | exact wpAny_bind (m := Builtin.Tuple.tupleExact _) (wpAny_newObj_type (wpAny_bind (wpAny_pure (wpAny_pure ⟨_, rfl, wpAny_pure h⟩))) fits)
    | exact wpAny_bind (wpAny_bind (m := Builtin.Tuple.tupleExact _) (wpAny_newObj_type (wpAny_pure (wpAny_pure ⟨_, rfl, wpAny_pure h⟩)) fits))
    | exact wpAny_bind (wpAny_bind (m := Builtin.Tuple.tupleExact _) (wpAny_newObj_type (wpAny_pure ⟨_, rfl, wpAny_pure h⟩) fits))
end
section
variable {X : Cx} {cl : Cl} {a : Expr} {ea : E} {k : Nat} {p1 p2 p3 pos : Pos}
theorem IsAll.back_ {C : Cf} {Γ : Hp} {φ : List Addr} {l : List D} {vs : List V} (h : IsAll C Γ φ l vs) : IsAll C Γ φ l.reverse vs.reverse := h.reverse
theorem se_rev (ha : SE X cl a ea) : SE X cl (.Subscript a (.Slice none none (some (.UnaryOp .USub (.Constant (.int 1) k p1) p2)) p3) pos) (eUn oRev ea) := by
  refine ⟨fun pins s σ H Q I h => ?_⟩
  obtain ⟨Γ, φ, st, r, d, st', sm, en, h, q⟩ := h
  unfold eUn at h
  obtain ⟨x, h1, h⟩ := Option.bind_eq_some_iff.mp h
  obtain ⟨z, h2, h⟩ := Option.bind_eq_some_iff.mp h
  cases h
  have hd : tD (cf X cl) ea σ H fun v H1 => ∃ ad xs, v = .ref ad ∧ SqT X.K H1 ad xs ∧ ∀ p, H1 p = none → Q (.ref p) (upd H1 p (.tup xs.reverse)) := ⟨Γ, φ, st, r, x.1, x.2, sm, en, h1, fun Γ1 H1 φ1 v x1 s1 i1 => by
    obtain ⟨d, st1⟩ := x
    cases i1 with
    | tup e1 q1 =>
      cases h2
      refine ⟨_, _, rfl, SqT.of (s1.sub _ _ e1), fun p hp => ?_⟩
      obtain ⟨s2, x2⟩ := s1.frozen (o := .tup (List.reverse _)) hp
      exact q _ _ _ _ (x1.trans x2) s2 (.tup upd_same (x2.all q1.reverse))
    | _ => exact nomatch h2⟩
  refine Subscript_ (thn (ha.run pins s σ H _ I hd) fun v s1 ⟨y, H1, I1, r1, q1⟩ => ?_)
  obtain ⟨ad, xs, rfl, hx, q1⟩ := q1
  cases r1
  have part : PO X (some (.UnaryOp .USub (.Constant (.int 1) k p1) p2)) (tPart (tUn (L2.rU fun i => .int (-i)) (tC (.int 1)))) := po_some (pe_un un_neg pe_int)
  refine wpAny_Slice (thn (po_none.run pins s1 σ H1 (fun o H2 => o = none ∧ H2 = H1) I1 ⟨rfl, rfl⟩) fun vl s2 ⟨l, H2, I2, pl, el, e2⟩ => ?_)
  subst el; subst e2
  refine thn (po_none.run pins s2 σ H2 (fun o H3 => o = none ∧ H3 = H2) I2 ⟨rfl, rfl⟩) fun vu s3 ⟨u, H3, I3, pu, eu, e3⟩ => ?_
  subst eu; subst e3
  refine thn (part.run pins s3 σ H3 (fun o H4 => o = some (-1) ∧ H4 = H3) I3 ⟨1, rfl, -1, rfl, rfl, rfl⟩) fun vs s4 ⟨o, H4, I4, ps, eo, e4⟩ => ?_
  subst eo; subst e4
  cases pl; cases pu
  cases ps with
  | int _ t =>
    have I5 : Inv X pins σ H4 { s4 with heap := s4.heap.push { cls := .type "slice", data := .fields #[.none, .none, .int (-1) t] } } := I4.kept (t' := s4.toks) fun b ob q => Heap.get?_push_of_some _ q
    obtain ⟨its, rv, ht, hz⟩ := I5.tuple hx
    have hl := rv.length
    show wpAny (model X.prog X.w) X.A (subscriptTail a (.Slice none none (some (.UnaryOp .USub (.Constant (.int 1) k p1) p2)) p3) (.ref ad) (.ref s4.heap.objs.size)) (EP X pins σ Q) X.xe { s4 with heap := s4.heap.push { cls := .type "slice", data := .fields #[.none, .none, .int (-1) t] } }
    refine tail_any (ops := [.ref ad, .ref s4.heap.objs.size]) ht.typeIs PyProof.Rows.slot_tuple_getitem.lookup ?_ (by with_unfolding_all rfl)
    refine back_tuple (u := t) ht (Heap.IsSliceOf.new _ _ _ _) (by rw [List.size_toArray]; omega) ?_
    refine ⟨.ref _, _, I5.laid (t' := s4.toks) (o := .tup xs.reverse) (fun b ob q => Heap.get?_push_of_some _ q) (Nat.le_refl _) ?_, rfl, q1 _ (I5.hok.fresh (Nat.le_refl _))⟩
    exact ⟨by rw [List.length_reverse]; exact hz, its.reverse, rv.reverse, ⟨_, Heap.get?_push_size _ rfl, rfl, 0, by simp⟩⟩
end
end EV
/-! EV.15: o[i], p[j] = x, y. -/
namespace EV
open PySem PySem.Spec PyProof.Rows L2
/-- o1[i1], o2[i2] = e1, e2 -/
def sSetIx2 (o1 i1 o2 i2 : E) (ee : E) : S := fun r st => (ee r st).bind fun v => match v.1 with
  | .tup [v1, v2] => (o1 r v.2).bind fun x => (i1 r x.2).bind fun y => (setIdx y.2 x.1 y.1 v1).bind fun st1 => (o2 r st1).bind fun x' => (i2 r x'.2).bind fun y' => (setIdx y'.2 x'.1 y'.1 v2).bind fun st2 => some (.next r, st2)
  | _ => none
section
variable {X : Cx} {cl : Cl} {e e1 e2 e3 e4 : Expr} {ea eb ec ed ee : E} {pos p1 p2 p3 : Pos} {k : Nat}
theorem ss_setix2 (hc : X.calm = true) (he : SE X cl e ee) (ho : SE X cl e1 ea) (hi : SE X cl e2 eb) (ho2 : SE X cl e3 ec) (hi2 : SE X cl e4 ed)
    (ha : ∀ v, assign (.Subscript e1 e2 p1) X.env v = (do
      let ov ← holding [v] (eval e1 X.env)
      let iv ← holding [v, ov] (eval e2 X.env)
      standAt p1
      holding [v, ov, iv] (setItem ov iv v)
      release [v, ov, iv] []) := by intro _; rfl)
    (ha2 : ∀ v, assign (.Subscript e3 e4 p2) X.env v = (do
      let ov ← holding [v] (eval e3 X.env)
      let iv ← holding [v, ov] (eval e4 X.env)
      standAt p2
      holding [v, ov, iv] (setItem ov iv v)
      release [v, ov, iv] []) := by intro _; rfl)
    (hs : swapsWithSole [.Tuple [.Subscript e1 e2 p1, .Subscript e3 e4 p2] k p3] e pos.line X.env = pure false := by rfl) (hw : swappedStores [.Tuple [.Subscript e1 e2 p1, .Subscript e3 e4 p2] k p3] e X.env = pure none := by rfl)
    (h1 : (assignEach [.Tuple [.Subscript e1 e2 p1, .Subscript e3 e4 p2] k p3] X.env).map (·.2) = [assign (.Tuple [.Subscript e1 e2 p1, .Subscript e3 e4 p2] k p3) X.env] := by rfl)
    (h2 : (assignEach [.Subscript e1 e2 p1, .Subscript e3 e4 p2] X.env).map (·.2) = assign (.Subscript e1 e2 p1) X.env :: (assignEach [.Subscript e3 e4 p2] X.env).map (·.2) := by rfl)
    (h3 : (assignEach [.Subscript e3 e4 p2] X.env).map (·.2) = assign (.Subscript e3 e4 p2) X.env :: (assignEach [] X.env).map (·.2) := by rfl)
    (h4 : (assignEach [.Subscript e1 e2 p1, .Subscript e3 e4 p2] X.env).length = 2 := by rfl) (h5 : (assignEach [.Subscript e1 e2 p1, .Subscript e3 e4 p2] X.env).findIdx? (·.1) = none := by rfl) :
    SS X cl (.Assign [.Tuple [.Subscript e1 e2 p1, .Subscript e3 e4 p2] k p3] e pos) (sSetIx2 ea eb ec ed ee) :=
  PS.imp (ps_asg he (pg_tup hc (pgs_cons (pg_sub ho hi (set_D (cl := cl)) ha) (pgs_cons (pg_sub ho2 hi2 (set_D (cl := cl)) ha2) pgs_nil h3) h2) h4 h5) hs hw h1) fun Dn σ H h => by
    obtain ⟨Γ, φ, st, r, o, st', s, en, h, q⟩ := h
    unfold sSetIx2 at h
    obtain ⟨v, g1, h⟩ := Option.bind_eq_some_iff.mp h
    obtain ⟨dv, st0⟩ := v
    simp only at h
    split at h
    · rename_i d1 d2
      obtain ⟨x, g2, h⟩ := Option.bind_eq_some_iff.mp h
      obtain ⟨y, g3, h⟩ := Option.bind_eq_some_iff.mp h
      obtain ⟨z, g4, h⟩ := Option.bind_eq_some_iff.mp h
      obtain ⟨x', g5, h⟩ := Option.bind_eq_some_iff.mp h
      obtain ⟨y', g6, h⟩ := Option.bind_eq_some_iff.mp h
      obtain ⟨z', g7, h⟩ := Option.bind_eq_some_iff.mp h
      cases h
      refine ⟨Γ, φ, st, r, _, _, s, en, g1, fun Γ1 H1 φ1 v1 x1 s1 i1 => ?_⟩
      cases i1 with
      | tup e1' q1 =>
        obtain ⟨w1, w2, rfl, j1, j2⟩ := two_all q1
        refine ⟨_, _, rfl, SqT.of (s1.sub _ _ e1'), rfl, w1, [w2], rfl, ?_⟩
        refine ⟨Γ1, φ1, _, r, x.1, x.2, s1, x1.env en, g2, fun Γ2 H2 φ2 v2 x2 s2 i2 => ⟨Γ2, φ2, x.2, r, y.1, y.2, s2, x2.env (x1.env en), g3, fun Γ3 H3 φ3 v3 x3 s3 i3 =>
          ⟨Γ3, φ3, y.2, x.1, y.1, d1, _, s3, x3.is i2, i3, x3.is (x2.is j1), g4, fun H4 x4 s4 => ?_⟩⟩⟩
        have en4 := x4.env (x3.env (x2.env (x1.env en)))
        refine ⟨w2, [], rfl, Γ3, φ3, z, r, x'.1, x'.2, s4, en4, g5, fun Γ5 H5 φ5 v5 x5 s5 i5 => ⟨Γ5, φ5, x'.2, r, y'.1, y'.2, s5, x5.env en4, g6, fun Γ6 H6 φ6 v6 x6 s6 i6 =>
          ⟨Γ6, φ6, y'.2, x'.1, y'.1, d2, _, s6, x6.is i5, i6, x6.is (x5.is (x4.is (x3.is (x2.is j2)))), g7, fun H7 x7 s7 => ?_⟩⟩⟩
        exact ⟨rfl, q _ _ _ ((((((x1.trans x2).trans x3).trans x4).trans x5).trans x6).trans x7) s7 σ (x7.env (x6.env (x5.env en4))) rfl⟩
    · cases h
end
end EV
/-! EV.16: the forms that the printer uses. -/
namespace EV
open PySem PySem.Spec PyProof.Rows L2
section
variable {X : Cx} {cl : Cl}
theorem kit_all {T : String} {f : String → Bool} (h1 : kitB "NoneType" T = some (f "NoneType") := by decide +kernel) (h2 : kitB "bool" T = some (f "bool") := by decide +kernel) (h3 : kitB "int" T = some (f "int") := by decide +kernel) (h4 : kitB "str" T = some (f "str") := by decide +kernel)
    (h5 : kitB "tuple" T = some (f "tuple") := by decide +kernel) (h6 : kitB "list" T = some (f "list") := by decide +kernel) {e : D} (he : e.dat = true) : kitB e.ty T = some (f e.ty) := by
  cases e <;> first | assumption | (simp [D.dat] at he)
theorem isT_ok {t : String} (h : ∀ e : D, e.dat = true → kitB e.ty t = some (e.ty == t)) : ∀ (st : Sto) (ds : List D) (d : D), bIs t st ds = some d → ∃ e, ds = [e] ∧ e.dat = true ∧ (∃ b, d = .bl b ∧ kitB e.ty t = some b) := fun st ds d q => by
  unfold bIs at q
  split at q
  · rename_i e
    split at q
    · rename_i he
      cases q
      exact ⟨e, rfl, he, _, rfl, h e he⟩
    · cases q
  · cases q
theorem isI_ok : ∀ (st : Sto) (ds : List D) (d : D), bIsInt st ds = some d → ∃ e, ds = [e] ∧ e.dat = true ∧ (∃ b, d = .bl b ∧ kitB e.ty "int" = some b) := fun st ds d q => by
  unfold bIsInt at q
  split at q
  · rename_i e
    split at q
    · rename_i he
      cases q
      exact ⟨e, rfl, he, _, rfl, kit_all (f := fun s => s == "int" || s == "bool") (he := he)⟩
    · cases q
  · cases q
theorem isTup_ok : ∀ (st : Sto) (ds : List D) (d : D), bIs "tuple" st ds = some d → ∃ e, ds = [e] ∧ e.dat = true ∧ (∃ b, d = .bl b ∧ kitB e.ty "tuple" = some b) := isT_ok (t := "tuple") fun _ he => kit_all (f := fun s => s == "tuple") (he := he)
theorem isBool_ok : ∀ (st : Sto) (ds : List D) (d : D), bIs "bool" st ds = some d → ∃ e, ds = [e] ∧ e.dat = true ∧ (∃ b, d = .bl b ∧ kitB e.ty "bool" = some b) := isT_ok (t := "bool") fun _ he => kit_all (f := fun s => s == "bool") (he := he)
theorem isStr_ok : ∀ (st : Sto) (ds : List D) (d : D), bIs "str" st ds = some d → ∃ e, ds = [e] ∧ e.dat = true ∧ (∃ b, d = .bl b ∧ kitB e.ty "str" = some b) := isT_ok (t := "str") fun _ he => kit_all (f := fun s => s == "str") (he := he)
theorem isList_ok : ∀ (st : Sto) (ds : List D) (d : D), bIs "list" st ds = some d → ∃ e, ds = [e] ∧ e.dat = true ∧ (∃ b, d = .bl b ∧ kitB e.ty "list" = some b) := isT_ok (t := "list") fun _ he => kit_all (f := fun s => s == "list") (he := he)

theorem bl_len {e : Expr} {es : List Expr} {aa : A} {p pos : Pos} (hm : X.mg "len" = none) (ha : SA X cl (e :: es) aa) (hg : Gl X "len" := by rfl) (he : starEach (e :: es) X.env = (false, eval e X.env) :: starEach es X.env := by rfl)
    (hpl : (backTo pos (starEach es X.env)).any (·.1) = false := by rfl) : SE X cl (.Call (.Name "len" p) (e :: es) [] pos) (eBlt bLen aa) := se_blt c_len hg hm (by decide +kernel) ha (he := he) (hpl := hpl)
theorem bl_abs {e : Expr} {es : List Expr} {aa : A} {p pos : Pos} (hm : X.mg "abs" = none) (ha : SA X cl (e :: es) aa) (hg : Gl X "abs" := by rfl) (he : starEach (e :: es) X.env = (false, eval e X.env) :: starEach es X.env := by rfl)
    (hpl : (backTo pos (starEach es X.env)).any (·.1) = false := by rfl) : SE X cl (.Call (.Name "abs" p) (e :: es) [] pos) (eBlt bAbs aa) := se_blt c_abs hg hm (by decide +kernel) ha (he := he) (hpl := hpl)
theorem bl_any {e : Expr} {es : List Expr} {aa : A} {p pos : Pos} (hc : X.calm = true) (hm : X.mg "any" = none) (ha : SA X cl (e :: es) aa) (hg : Gl X "any" := by rfl) (he : starEach (e :: es) X.env = (false, eval e X.env) :: starEach es X.env := by rfl)
    (hpl : (backTo pos (starEach es X.env)).any (·.1) = false := by rfl) : SE X cl (.Call (.Name "any" p) (e :: es) [] pos) (eBlt bAny aa) := se_blt (c_any hc) hg hm (by decide +kernel) ha (he := he) (hpl := hpl)
theorem bl_all {e : Expr} {es : List Expr} {aa : A} {p pos : Pos} (hc : X.calm = true) (hm : X.mg "all" = none) (ha : SA X cl (e :: es) aa) (hg : Gl X "all" := by rfl) (he : starEach (e :: es) X.env = (false, eval e X.env) :: starEach es X.env := by rfl)
    (hpl : (backTo pos (starEach es X.env)).any (·.1) = false := by rfl) : SE X cl (.Call (.Name "all" p) (e :: es) [] pos) (eBlt bAll aa) := se_blt (c_all hc) hg hm (by decide +kernel) ha (he := he) (hpl := hpl)
theorem bl_sum {e : Expr} {es : List Expr} {aa : A} {p pos : Pos} (hc : X.calm = true) (hm : X.mg "sum" = none) (ha : SA X cl (e :: es) aa) (hg : Gl X "sum" := by rfl) (he : starEach (e :: es) X.env = (false, eval e X.env) :: starEach es X.env := by rfl)
    (hpl : (backTo pos (starEach es X.env)).any (·.1) = false := by rfl) : SE X cl (.Call (.Name "sum" p) (e :: es) [] pos) (eBlt bSum aa) := se_blt (c_sum hc) hg hm (by decide +kernel) ha (he := he) (hpl := hpl)
theorem bl_min {e : Expr} {es : List Expr} {aa : A} {p pos : Pos} (hc : X.calm = true) {k : Nat} (hr : RG k X.A) (hm : X.mg "min" = none) (ha : SA X cl (e :: es) aa) (hg : Gl X "min" := by rfl) (he : starEach (e :: es) X.env = (false, eval e X.env) :: starEach es X.env := by rfl)
    (hpl : (backTo pos (starEach es X.env)).any (·.1) = false := by rfl) : SE X cl (.Call (.Name "min" p) (e :: es) [] pos) (eBlt bMin aa) := se_blt (c_min hc hr) hg hm (by decide +kernel) ha (he := he) (hpl := hpl)
theorem bl_max {e : Expr} {es : List Expr} {aa : A} {p pos : Pos} (hc : X.calm = true) {k : Nat} (hr : RG k X.A) (hm : X.mg "max" = none) (ha : SA X cl (e :: es) aa) (hg : Gl X "max" := by rfl) (he : starEach (e :: es) X.env = (false, eval e X.env) :: starEach es X.env := by rfl)
    (hpl : (backTo pos (starEach es X.env)).any (·.1) = false := by rfl) : SE X cl (.Call (.Name "max" p) (e :: es) [] pos) (eBlt bMax aa) := se_blt (c_max hc hr) hg hm (by decide +kernel) ha (he := he) (hpl := hpl)
theorem bl_repr {e : Expr} {es : List Expr} {aa : A} {p pos : Pos} {k : Nat} (hr : RG k X.A) (hm : X.mg "repr" = none) (ha : SA X cl (e :: es) aa) (hg : Gl X "repr" := by rfl) (he : starEach (e :: es) X.env = (false, eval e X.env) :: starEach es X.env := by rfl)
    (hpl : (backTo pos (starEach es X.env)).any (·.1) = false := by rfl) : SE X cl (.Call (.Name "repr" p) (e :: es) [] pos) (eBlt bRepr aa) := se_blt (c_repr hr) hg hm (by decide +kernel) ha (he := he) (hpl := hpl)
theorem bl_int {e : Expr} {es : List Expr} {aa : A} {p pos : Pos} (hm : X.mg "int" = none) (ha : SA X cl (e :: es) aa) (hg : Gl X "int" := by rfl) (he : starEach (e :: es) X.env = (false, eval e X.env) :: starEach es X.env := by rfl)
    (hpl : (backTo pos (starEach es X.env)).any (·.1) = false := by rfl) : SE X cl (.Call (.Name "int" p) (e :: es) [] pos) (eBlt bInt aa) := se_blty c_int hg hm (by decide +kernel) ha (he := he) (hpl := hpl)
theorem bl_tuple {e : Expr} {es : List Expr} {aa : A} {p pos : Pos} (hm : X.mg "tuple" = none) (ha : SA X cl (e :: es) aa) (hg : Gl X "tuple" := by rfl) (he : starEach (e :: es) X.env = (false, eval e X.env) :: starEach es X.env := by rfl)
    (hpl : (backTo pos (starEach es X.env)).any (·.1) = false := by rfl) : SE X cl (.Call (.Name "tuple" p) (e :: es) [] pos) (eBlt bTuple aa) := se_blty c_tuple hg hm (by decide +kernel) ha (he := he) (hpl := hpl)
theorem bl_list {e : Expr} {es : List Expr} {aa : A} {p pos : Pos} (hm : X.mg "list" = none) (ha : SA X cl (e :: es) aa) (hg : Gl X "list" := by rfl) (he : starEach (e :: es) X.env = (false, eval e X.env) :: starEach es X.env := by rfl)
    (hpl : (backTo pos (starEach es X.env)).any (·.1) = false := by rfl) : SF X cl (.Call (.Name "list" p) (e :: es) [] pos) (eBlt bList aa) := sf_blty f_list hg hm (by decide +kernel) ha (he := he) (hpl := hpl)
theorem bl_sorted {e : Expr} {es : List Expr} {aa : A} {p pos : Pos} {k : Nat} (hr : RG k X.A) (hm : X.mg "sorted" = none) (ha : SA X cl (e :: es) aa) (hg : Gl X "sorted" := by rfl) (he : starEach (e :: es) X.env = (false, eval e X.env) :: starEach es X.env := by rfl)
    (hpl : (backTo pos (starEach es X.env)).any (·.1) = false := by rfl) : SF X cl (.Call (.Name "sorted" p) (e :: es) [] pos) (eBlt bSorted aa) := sf_bltF (f_sorted hr) hg hm (by decide +kernel) ha (he := he) (hpl := hpl)
theorem is_int {a : Expr} {ea : E} {p p2 pos : Pos} (hm : X.mg "isinstance" = none) (hm2 : X.mg "int" = none) (ha : SE X cl a ea) (hg : Gl X "isinstance" := by rfl) (hg2 : Gl X "int" := by rfl) (hs : starEach [a, .Name "int" p2] X.env = (false, eval a X.env) :: starEach [.Name "int" p2] X.env := by rfl) :
    SE X cl (.Call (.Name "isinstance" p) [a, .Name "int" p2] [] pos) (eBlt bIsInt (aCons ea aNil)) := se_isi ha hg hm hg2 hm2 (by decide +kernel) _ isI_ok (hs := hs)
theorem is_tuple {a : Expr} {ea : E} {p p2 pos : Pos} (hm : X.mg "isinstance" = none) (hm2 : X.mg "tuple" = none) (ha : SE X cl a ea) (hg : Gl X "isinstance" := by rfl) (hg2 : Gl X "tuple" := by rfl) (hs : starEach [a, .Name "tuple" p2] X.env = (false, eval a X.env) :: starEach [.Name "tuple" p2] X.env := by rfl) :
    SE X cl (.Call (.Name "isinstance" p) [a, .Name "tuple" p2] [] pos) (eBlt (bIs "tuple") (aCons ea aNil)) := se_isi ha hg hm hg2 hm2 (by decide +kernel) _ isTup_ok (hs := hs)
theorem is_bool {a : Expr} {ea : E} {p p2 pos : Pos} (hm : X.mg "isinstance" = none) (hm2 : X.mg "bool" = none) (ha : SE X cl a ea) (hg : Gl X "isinstance" := by rfl) (hg2 : Gl X "bool" := by rfl) (hs : starEach [a, .Name "bool" p2] X.env = (false, eval a X.env) :: starEach [.Name "bool" p2] X.env := by rfl) :
    SE X cl (.Call (.Name "isinstance" p) [a, .Name "bool" p2] [] pos) (eBlt (bIs "bool") (aCons ea aNil)) := se_isi ha hg hm hg2 hm2 (by decide +kernel) _ isBool_ok (hs := hs)
theorem is_str {a : Expr} {ea : E} {p p2 pos : Pos} (hm : X.mg "isinstance" = none) (hm2 : X.mg "str" = none) (ha : SE X cl a ea) (hg : Gl X "isinstance" := by rfl) (hg2 : Gl X "str" := by rfl) (hs : starEach [a, .Name "str" p2] X.env = (false, eval a X.env) :: starEach [.Name "str" p2] X.env := by rfl) :
    SE X cl (.Call (.Name "isinstance" p) [a, .Name "str" p2] [] pos) (eBlt (bIs "str") (aCons ea aNil)) := se_isi ha hg hm hg2 hm2 (by decide +kernel) _ isStr_ok (hs := hs)
theorem is_list {a : Expr} {ea : E} {p p2 pos : Pos} (hm : X.mg "isinstance" = none) (hm2 : X.mg "list" = none) (ha : SE X cl a ea) (hg : Gl X "isinstance" := by rfl) (hg2 : Gl X "list" := by rfl) (hs : starEach [a, .Name "list" p2] X.env = (false, eval a X.env) :: starEach [.Name "list" p2] X.env := by rfl) :
    SE X cl (.Call (.Name "isinstance" p) [a, .Name "list" p2] [] pos) (eBlt (bIs "list") (aCons ea aNil)) := se_isi ha hg hm hg2 hm2 (by decide +kernel) _ isList_ok (hs := hs)
/-- a local name -/
theorem vr (i : Nat) {x : Str} {pos : Pos} (hN : X.N[i]? = some x := by rfl) (hv : Vis X.env.scope x := by first | exact Or.inl rfl | exact Or.inr (Or.inl rfl) | exact Or.inr (Or.inr rfl)) (hd : (x == ("__debug__" : Str)) = false := by decide) (hcd : (x == ("__classdict__" : Str)) = false := by decide) :
    SE X cl (.Name x pos) (eVar i) := se_var hN hv hd hcd
/-- a constant of the module -/
theorem gt {x : Str} {i : Int} {pos : Pos} (h : ∃ t, X.mg x = some (.int i t)) (hg : Gl X x := by rfl) (hd : (x == ("__debug__" : Str)) = false := by decide) : SE X cl (.Name x pos) (eC (.int i)) := by
  obtain ⟨t, hm⟩ := h
  exact se_gint hg hm hd
/-- a target -/
theorem nm (i : Nat) {x : Str} {pos : Pos} (hN : X.N.Nodup) (hi : X.N[i]? = some x := by rfl) (hx : Loc X.env.scope x := by first | exact Or.inl rfl | exact Or.inr rfl) (hf : X.fn x = true ∨ X.env.scope.names.lookup x = some .local := by first | exact .inl rfl | exact .inr rfl) : SG X cl (.Name x pos) [i] (gNm i) := sg_name hN hi hx hf
section
variable {e : Expr} {ea : E} {pos pos' : Pos}
theorem st_set (i : Nat) {x : Str} (hN : X.N.Nodup) (he : SE X cl e ea) (hi : X.N[i]? = some x := by rfl) (hx : Loc X.env.scope x := by first | exact Or.inl rfl | exact Or.inr rfl) (hs : swapsWith e (some (.Name x pos')) pos.line X.env = pure false := by rfl)
    (hf : X.fn x = true ∨ X.env.scope.names.lookup x = some .local := by first | exact .inl rfl | exact .inr rfl) : SS X cl (.Assign [.Name x pos'] e pos) (sAsg ea (gNm i)) := ss_set hN hi hx he hs hf
theorem st_aug (i : Nat) {x : Str} {op : Operator} {f : Sto → D → D → Option D} (hN : X.N.Nodup) (ho : PIp X op (rD (cf X cl) f)) (he : SE X cl e ea) (hi : X.N[i]? = some x := by rfl) (hx : Loc X.env.scope x := by first | exact Or.inl rfl | exact Or.inr rfl)
    (hf : X.fn x = true ∨ X.env.scope.names.lookup x = some .local := by first | exact .inl rfl | exact .inr rfl) : SS X cl (.AugAssign (.Name x pos') op e pos) (sAug i f ea) := ss_aug hN hi hx ho he hf
end
end
/-- a def of the module, where it stands -/
structure DefAt (K : PySem.W.Frag) (mg : Str → Option Value) (x : Str) (st : Stmt) (ps : List Str) : Prop where
  ex : ∃ (a : Addr) (fd : FuncData), Fun K x x st a fd ∧ mg x = some (.ref a) ∧ PySem.W.keepIn K (.ref a) = true ∧ L2.Binds K fd ps []
section
variable {P : Program} {w : World} {K : PySem.W.Frag} {mg : Str → Option Value} {base : Heap} {cl : Cl}
theorem fun_ok {x : Str} {st : Stmt} {N ps : List Str} {k n : Nat} {b : S} (F : DefAt K mg x st ps) (S : FnScope N ps (defScope st)) (hn : ps.length = n)
    (hb : ∀ (f : Addr) (cdv : Value) (A : Around) (outer : List PySem.Env) (s : Shared) (H : Hp) (E : XK), RG k (A.deeper (envOfC x (defScope st) s.heap.objs.size f cdv)) → SSs (cxOf CX0 P w K mg base N x (defScope st) f cdv A outer s H E).nox cl (defBody st) b) :
    FunOk P w K mg base cl (k + 1) n x (fDef n N.length b) := by
  obtain ⟨a, fd, h1, h2, h3, h4⟩ := F.ex
  exact ⟨a, fd, ps, h2, h3, h4, def_ok h1 S hn fun cdv A outer s H E r => hb a cdv A outer s H E r⟩
/-- all but the tables -/
def noTab (H : Hp) : Hp := fun a => match H a with
  | some (.tbl _) => none
  | o => o
theorem noTab_sub {H : Hp} {a : Addr} {o : HO} (e : noTab H a = some o) : H a = some o := by
  unfold noTab at e
  split at e
  · cases e
  · exact e
theorem noTab_of {H : Hp} {a : Addr} {o : HO} (e : H a = some o) (nt : NT o) : noTab H a = some o := by
  unfold noTab
  split
  · rename_i ps q
    rw [e] at q
    exact absurd (Option.some.inj q) (nt ps)
  · exact e
/-- the law's promise, at what stands at the law's entry -/
theorem law_sp {w : World} {cl : Cl} {K : PySem.W.Frag} {f : F} {n : Nat} (hf : ∀ ns : List Int, ns.length ≤ n → ∃ st, f [.scr ns] [] = some (.bl true, st)) {H : Hp} {a : Addr} {ns : List Int} (hl : ns.length ≤ n) (hS : SqL K H a (ns.map V.int))
    (tb : LamX.Tabs cl.tab H) (ta : ∀ a ps, H a = some (.tbl ps) → ∃ q, (a, q) ∈ cl.tab) :
    spOf ⟨w, K, cl⟩ 1 f [.ref a] H (fun v _ => v = .bl true) fun _ _ _ => False := by
  obtain ⟨st, e⟩ := hf ns hl
  have hS' : SqL K (noTab H) a (ns.map V.int) := by
    rcases hS with (h | ⟨o, h⟩) | h
    · exact .inl (.inl (noTab_of h fun _ z => nomatch z))
    · exact .inl (.inr ⟨o, noTab_of h fun _ z => nomatch z⟩)
    · exact .inr h
  refine ⟨rfl, noTab H, [], [], [.scr ns], .bl true, st, ⟨fun _ _ h => noTab_sub h, fun _ h => by (cases h), List.nodup_nil, rfl, fun n c a h _ => by simp at h, tb, ta, fun x hx => ?_⟩, .cons (.scr hS') .nil, e, fun Γ' H' φ' v _ _ i => ?_⟩
  · obtain ⟨ps, e1, _⟩ := tb x hx
    unfold noTab
    rw [e1]
  · cases i
    rfl
/-- .. where nothing but the script is spoken of -/
theorem law_sp0 {w : World} {K : PySem.W.Frag} {f : F} {n : Nat} (hf : ∀ ns : List Int, ns.length ≤ n → ∃ st, f [.scr ns] [] = some (.bl true, st)) {H : Hp} {a : Addr} {ns : List Int} (hl : ns.length ≤ n) (hO : Only H) (hS : SqL K H a (ns.map V.int)) :
    spOf ⟨w, K, ⟨fun _ => 0, []⟩⟩ 1 f [.ref a] H (fun v _ => v = .bl true) fun _ _ _ => False :=
  law_sp hf hl hS (fun p hp => nomatch hp) fun a ps e => by
    rcases hO a with z | ⟨_, _, z⟩ <;> rw [e] at z <;> cases z
end
end EV
/-! EV.17: how a meaning is worked out: W o Q says that o comes to something of which Q holds. -/
namespace EV
open PySem (Str PyData)

def W {α β : Type} (o : Option (α × β)) (Q : α → β → Prop) : Prop := ∃ a s, o = some (a, s) ∧ Q a s
/-- the same without a store -/
def V1 {α : Type} (o : Option α) (Q : α → Prop) : Prop := ∃ a, o = some a ∧ Q a
section
variable {α β γ δ : Type}
@[simp] theorem W_some {a : α} {s : β} {Q : α → β → Prop} : W (some (a, s)) Q ↔ Q a s := ⟨fun ⟨_, _, e, q⟩ => by cases e; exact q, fun q => ⟨_, _, rfl, q⟩⟩
@[simp] theorem W_none {Q : α → β → Prop} : W none Q ↔ False := ⟨fun ⟨_, _, e, _⟩ => (nomatch e), fun h => h.elim⟩
@[simp] theorem V1_some {a : α} {Q : α → Prop} : V1 (some a) Q ↔ Q a := ⟨fun ⟨_, e, q⟩ => by cases e; exact q, fun q => ⟨_, rfl, q⟩⟩
@[simp] theorem V1_none {Q : α → Prop} : V1 none Q ↔ False := ⟨fun ⟨_, e, _⟩ => (nomatch e), fun h => h.elim⟩
theorem W_bind {o : Option (α × β)} {f : α × β → Option (γ × δ)} {Q : γ → δ → Prop} : W (o.bind f) Q ↔ W o fun a s => W (f (a, s)) Q := by
  cases o with
  | none => simp
  | some x => obtain ⟨a, s⟩ := x; simp
theorem V_bind {o : Option α} {f : α → Option (γ × δ)} {Q : γ → δ → Prop} : W (o.bind f) Q ↔ V1 o fun a => W (f a) Q := by
  cases o <;> simp
theorem W_congr {o : Option (α × β)} {Q Q' : α → β → Prop} (h : ∀ a s, Q a s ↔ Q' a s) : W o Q ↔ W o Q' := ⟨fun ⟨a, s, e, q⟩ => ⟨a, s, e, (h a s).mp q⟩, fun ⟨a, s, e, q⟩ => ⟨a, s, e, (h a s).mpr q⟩⟩
theorem V1_congr {o : Option α} {Q Q' : α → Prop} (h : ∀ a, Q a ↔ Q' a) : V1 o Q ↔ V1 o Q' := ⟨fun ⟨a, e, q⟩ => ⟨a, e, (h a).mp q⟩, fun ⟨a, e, q⟩ => ⟨a, e, (h a).mpr q⟩⟩
theorem V_bindD {o : Option D} {f : D → Option (γ × δ)} {Q : γ → δ → Prop} : W (o.bind f) Q ↔ V1 o fun a => W (f a) Q := V_bind
theorem V_bindB {o : Option Bool} {f : Bool → Option (γ × δ)} {Q : γ → δ → Prop} : W (o.bind f) Q ↔ V1 o fun a => W (f a) Q := V_bind
theorem V_bindS {o : Option Sto} {f : Sto → Option (γ × δ)} {Q : γ → δ → Prop} : W (o.bind f) Q ↔ V1 o fun a => W (f a) Q := V_bind
theorem V_bindR {o : Option Env} {f : Env → Option (γ × δ)} {Q : γ → δ → Prop} : W (o.bind f) Q ↔ V1 o fun a => W (f a) Q := V_bind
theorem V_bindL {o : Option (List D)} {f : List D → Option (γ × δ)} {Q : γ → δ → Prop} : W (o.bind f) Q ↔ V1 o fun a => W (f a) Q := V_bind
theorem VV_bind {o : Option α} {f : α → Option γ} {Q : γ → Prop} : V1 (o.bind f) Q ↔ V1 o fun a => V1 (f a) Q := by
  cases o <;> simp
@[simp] theorem W_if {c : Prop} [Decidable c] {a b : Option (α × β)} {Q : α → β → Prop} : W (if c then a else b) Q ↔ (if c then W a Q else W b Q) := by split <;> rfl
@[simp] theorem V1_if {c : Prop} [Decidable c] {a b : Option α} {Q : α → Prop} : V1 (if c then a else b) Q ↔ (if c then V1 a Q else V1 b Q) := by split <;> rfl
theorem W.mono {o : Option (α × β)} {Q Q' : α → β → Prop} (h : W o Q) (i : ∀ a s, Q a s → Q' a s) : W o Q' := let ⟨a, s, e, q⟩ := h; ⟨a, s, e, i a s q⟩
theorem W.of {o : Option (α × β)} {a : α} {s : β} {Q : α → β → Prop} (e : o = some (a, s)) (q : Q a s) : W o Q := ⟨a, s, e, q⟩
theorem V1.of {o : Option α} {a : α} {Q : α → Prop} (e : o = some a) (q : Q a) : V1 o Q := ⟨a, e, q⟩
end
section
variable {r : Env} {st : Sto} {Q : D → Sto → Prop} {QT : Bool → Sto → Prop} {QA : List D → Sto → Prop} {QS : Out → Sto → Prop} {QI : Src → Sto → Prop} {QP : Option Int → Sto → Prop} {a b c : E} {t u : T} {as : A} {i : Nat}
/-- the value of a slot -/
def slot (r : Env) (i : Nat) : Option D := (r[i]?).join
@[simp] theorem slot0 {x : Option D} {l : Env} : slot (x :: l) 0 = x := by simp [slot]
@[simp] theorem slotS {x : Option D} {l : Env} {n : Nat} : slot (x :: l) (n + 1) = slot l n := by simp [slot]
@[simp] theorem wVar : W (eVar i r st) Q ↔ V1 (slot r i) fun d => Q d st := by
  unfold eVar slot
  split
  · rename_i d h; simp [h]
  · rename_i h
    cases e : r[i]? with
    | none => simp
    | some x =>
      cases x with
      | none => simp
      | some d => exact absurd e (h d)
@[simp] theorem wC {d : D} : W (eC d r st) Q ↔ Q d st := W_some
@[simp] theorem wNil : W (aNil r st) QA ↔ QA [] st := W_some
@[simp] theorem wCons : W (aCons a as r st) QA ↔ W (a r st) fun x st => W (as r st) fun l st => QA (x :: l) st := by
  unfold aCons; rw [W_bind]; simp only [W_bind, W_some]
@[simp] theorem wTup : W (eTup as r st) Q ↔ W (as r st) fun l st => l.length ≤ LIM ∧ Q (.tup l) st := by
  unfold eTup; rw [W_bind]; refine W_congr fun l st => ?_; by_cases h : l.length ≤ LIM <;> simp [h]
@[simp] theorem wLst : W (eLst as r st) Q ↔ W (as r st) fun l st => l.length ≤ LIM ∧ Q (.lst l) st := by
  unfold eLst; rw [W_bind]; refine W_congr fun l st => ?_; by_cases h : l.length ≤ LIM <;> simp [h]
@[simp] theorem wOp {f : Sto → D → D → Option D} : W (eOp f a b r st) Q ↔ W (a r st) fun x st => W (b r st) fun y st => V1 (f st x y) fun d => Q d st := by
  unfold eOp; rw [W_bind]; simp only [W_bind, V_bindD, V_bindB, V_bindS, V_bindR, V_bindL, W_some]
@[simp] theorem wUn {f : Sto → D → Option D} : W (eUn f a r st) Q ↔ W (a r st) fun x st => V1 (f st x) fun d => Q d st := by
  unfold eUn; rw [W_bind]; simp only [V_bindD, V_bindB, V_bindS, V_bindR, V_bindL, W_some]
@[simp] theorem wBlt {f : Sto → List D → Option D} : W (eBlt f as r st) Q ↔ W (as r st) fun l st => V1 (f st l) fun d => Q d st := by
  unfold eBlt; rw [W_bind]; simp only [V_bindD, V_bindB, V_bindS, V_bindR, V_bindL, W_some]
@[simp] theorem wCall {f : F} : W (eCall f as r st) Q ↔ W (as r st) fun l st => W (f l st) Q := by
  unfold eCall; rw [W_bind]
@[simp] theorem wIf : W (eIf t a b r st) Q ↔ W (t r st) fun x st => if x = true then W (a r st) Q else W (b r st) Q := by
  unfold eIf; rw [W_bind]; simp only [W_if]
@[simp] theorem wtOf : W (tOf a r st) QT ↔ W (a r st) fun d st => V1 (bv d) fun b => QT b st := by
  unfold tOf; rw [W_bind]; simp only [V_bindD, V_bindB, V_bindS, V_bindR, V_bindL, W_some]
@[simp] theorem wtYes : W (EV.tYes r st) QT ↔ QT true st := W_some
@[simp] theorem wtAnd : W (EV.tAnd t u r st) QT ↔ W (t r st) fun x st => if x = true then W (u r st) QT else QT false st := by
  unfold EV.tAnd; rw [W_bind]; simp only [W_if, W_some]
@[simp] theorem wtOr : W (EV.tOr t u r st) QT ↔ W (t r st) fun x st => if x = true then QT true st else W (u r st) QT := by
  unfold EV.tOr; rw [W_bind]; simp only [W_if, W_some]
@[simp] theorem wtNot : W (EV.tNot t r st) QT ↔ W (t r st) fun x st => QT (!x) st := by
  unfold EV.tNot; rw [W_bind]; simp only [W_some]
@[simp] theorem wAnd : W (eAnd a b r st) Q ↔ W (a r st) fun x st => V1 (bv x) fun c => if c = true then W (b r st) Q else Q (.bl false) st := by
  unfold eAnd; rw [W_bind]; simp only [V_bindD, V_bindB, V_bindS, V_bindR, V_bindL, W_if, W_some]
@[simp] theorem wOr : W (eOr a b r st) Q ↔ W (a r st) fun x st => V1 (bv x) fun c => if c = true then Q (.bl true) st else W (b r st) Q := by
  unfold eOr; rw [W_bind]; simp only [V_bindD, V_bindB, V_bindS, V_bindR, V_bindL, W_if, W_some]
@[simp] theorem wNot : W (eNot a r st) Q ↔ W (a r st) fun x st => V1 (bv x) fun c => Q (.bl (!c)) st := by
  unfold eNot; rw [W_bind]; simp only [V_bindD, V_bindB, V_bindS, V_bindR, V_bindL, W_some]
@[simp] theorem wChain {f g : Sto → D → D → Option D} : W (eChain f g a b c r st) Q ↔ W (a r st) fun x st => W (b r st) fun y st => V1 (f st x y) fun d => V1 (bv d) fun k => if k = true then W (c r st) fun z st => V1 (g st y z) fun e => Q e st else Q (.bl false) st := by
  unfold eChain; rw [W_bind]; simp only [W_bind, V_bindD, V_bindB, V_bindS, V_bindR, V_bindL, W_if, W_some]
@[simp] theorem wNew : W (eNew a r st) Q ↔ W (a r st) fun x st => ∃ l, x = .lst l ∧ Q (.ref st.length) (st ++ [.lst l]) := by
  unfold eNew; rw [W_bind]
  refine W_congr fun x st => ?_
  cases x <;> simp
@[simp] theorem wSlice {p q : P} : W (eSlice a p q r st) Q ↔ W (a r st) fun x st => W (p r st) fun l st => W (q r st) fun h st => V1 (oCut st x l h) fun d => Q d st := by
  unfold eSlice; rw [W_bind]; simp only [W_bind, V_bindD, V_bindB, V_bindS, V_bindR, V_bindL, W_some]
@[simp] theorem wpNo : W (pNo r st) QP ↔ QP none st := W_some
@[simp] theorem wpSome : W (pSome a r st) QP ↔ W (a r st) fun x st => ∃ i, x = .int i ∧ QP (some i) st := by
  unfold pSome; rw [W_bind]
  refine W_congr fun x st => ?_
  cases x <;> simp
/-! ### what is walked -/
@[simp] def srcOf (st : Sto) : D → Option Src
  | .tup l => some (.vals l)
  | .lst l => some (.vals l)
  | .ref n => match st[n]? with
    | some (.lst l) => some (.cell n l.length)
    | _ => none
  | _ => none
@[simp] theorem wiSeq : W (iSeq a r st) QI ↔ W (a r st) fun x st => V1 (srcOf st x) fun s => QI s st := by
  unfold iSeq; rw [W_bind]
  refine W_congr fun x st => ?_
  cases x with
  | ref n =>
    simp only [srcOf]
    cases e : st[n]? with
    | none => simp
    | some k => cases k <;> simp
  | _ => simp
@[simp] theorem wiR1 : W (iRange1 a r st) QI ↔ W (a r st) fun x st => ∃ j, x = .int j ∧ RngOk 0 j ∧ QI (.vals (rng 0 j)) st := by
  unfold iRange1; rw [W_bind]
  refine W_congr fun x st => ?_
  cases x with
  | int j => by_cases h : RngOk 0 j <;> simp [h]
  | _ => simp
@[simp] theorem wiR2 : W (iRange2 a b r st) QI ↔ W (a r st) fun x st => W (b r st) fun y st => ∃ i j, x = .int i ∧ y = .int j ∧ RngOk i j ∧ QI (.vals (rng i j)) st := by
  unfold iRange2; rw [W_bind]; simp only [W_bind]
  refine W_congr fun x st => ?_
  refine W_congr fun y st => ?_
  cases x with
  | int i =>
    cases y with
    | int j => by_cases h : RngOk i j <;> simp [h]
    | _ => simp
  | _ => simp
@[simp] theorem wiEn : W (EV.iEnum a r st) QI ↔ W (a r st) fun x st => ∃ l, (x = .tup l ∨ x = .lst l) ∧ QI (.vals (enumD l)) st := by
  unfold EV.iEnum; rw [W_bind]
  refine W_congr fun x st => ?_
  cases x <;> simp
theorem wLc {ii : I} {ow : List Nat} {g : G} {ct : T} : W (eLc ii ow g ct a r st) Q ↔ W (ii r st) fun s st => W (lcGo s (wipeE r ow) g ct a st) fun l st => l.length ≤ LIM ∧ Q (.lst l) st := by
  unfold eLc; rw [W_bind]; simp only [W_bind]
  refine W_congr fun _ _ => ?_
  refine W_congr fun l st => ?_
  by_cases h : l.length ≤ LIM <;> simp [h]
/-! ### statements -/
variable {s s' : S}
@[simp] theorem wsNext : W (sNext r st) QS ↔ QS (.next r) st := W_some
@[simp] theorem wsBreak : W (sBreak r st) QS ↔ QS (.brk r) st := W_some
@[simp] theorem wsNever : W (sNever r st) QS ↔ False := W_none
def after (s : S) (QS : Out → Sto → Prop) : Out → Sto → Prop := fun o st => match o with
  | .next r => W (s r st) QS
  | o => QS o st
@[simp] theorem after_next : after s QS (.next r) st ↔ W (s r st) QS := Iff.rfl
@[simp] theorem after_ret {d : D} : after s QS (.ret d) st ↔ QS (.ret d) st := Iff.rfl
@[simp] theorem after_brk : after s QS (.brk r) st ↔ QS (.brk r) st := Iff.rfl
@[simp] theorem after_cont : after s QS (.cont r) st ↔ QS (.cont r) st := Iff.rfl
@[simp] theorem wsSeq : W (sSeq s s' r st) QS ↔ W (s r st) (after s' QS) := by
  unfold sSeq; rw [W_bind]
  refine W_congr fun o st => ?_
  cases o <;> simp [after]
@[simp] theorem wsRet : W (sRet a r st) QS ↔ W (a r st) fun d st => QS (.ret d) st := by
  unfold sRet; rw [W_bind]; simp only [W_some]
@[simp] theorem wsRetN : W (sRetN r st) QS ↔ QS (.ret .non) st := W_some
@[simp] theorem wsDrop : W (sDrop a r st) QS ↔ W (a r st) fun _ st => QS (.next r) st := by
  unfold sDrop; rw [W_bind]; simp only [W_some]
@[simp] theorem wsIf : W (sIf t s s' r st) QS ↔ W (t r st) fun x st => if x = true then W (s r st) QS else W (s' r st) QS := by
  unfold sIf; rw [W_bind]; simp only [W_if]
@[simp] theorem wsAsg {g : G} : W (sAsg a g r st) QS ↔ W (a r st) fun d st => V1 (g d st r) fun r1 => QS (.next r1) st := by
  unfold sAsg; rw [W_bind]; simp only [V_bindD, V_bindB, V_bindS, V_bindR, V_bindL, W_some]
@[simp] theorem wsAug {f : Sto → D → D → Option D} : W (sAug i f a r st) QS ↔ V1 (slot r i) fun d => W (a r st) fun x st => V1 (f st d x) fun z => QS (.next (r.set i (some z))) st := by
  unfold sAug slot
  split
  · rename_i d h; rw [h, W_bind]; simp only [V_bindD, V_bindB, V_bindS, V_bindR, V_bindL, W_some]; simp
  · rename_i h
    cases e : r[i]? with
    | none => simp
    | some x =>
      cases x with
      | none => simp
      | some d => exact absurd e (h d)
@[simp] theorem wsSetIx : W (sSetIx a b c r st) QS ↔ W (c r st) fun v st => W (a r st) fun x st => W (b r st) fun y st => V1 (setIdx st x y v) fun st => QS (.next r) st := by
  unfold sSetIx; rw [W_bind]; simp only [W_bind, V_bindD, V_bindB, V_bindS, V_bindR, V_bindL, W_some]
@[simp] theorem wsAugIx {f : Sto → D → D → Option D} : W (sAugIx a b f c r st) QS ↔ W (a r st) fun x st => W (b r st) fun y st => V1 (oIdx st x y) fun old => W (c r st) fun v st => V1 (f st old v) fun z => V1 (setIdx st x y z) fun st => QS (.next r) st := by
  unfold sAugIx; rw [W_bind]; simp only [W_bind, V_bindD, V_bindB, V_bindS, V_bindR, V_bindL, W_some]
def appTo (st : Sto) (x v : D) : Option Sto := match x with
  | .ref n => match st[n]? with
    | some (.lst l) => if l.length < LIM then some (st.set n (.lst (l ++ [v]))) else none
    | _ => none
  | _ => none
@[simp] theorem wsApp : W (sApp a b r st) QS ↔ W (a r st) fun x st => V1 (asL st x) fun _ => W (b r st) fun v st => V1 (appTo st x v) fun st => QS (.next r) st := by
  unfold sApp; rw [W_bind]; simp only [W_bind, V_bindD, V_bindB, V_bindS, V_bindR, V_bindL]
  refine W_congr fun x st => ?_
  refine V1_congr fun _ => ?_
  refine W_congr fun v st => ?_
  cases x with
  | ref n =>
    unfold appTo
    simp only
    cases e : st[n]? with
    | none => simp
    | some k =>
      cases k with
      | lst l => simp only; by_cases h : l.length < LIM <;> simp [h]
      | _ => simp
  | _ => simp [appTo]
@[simp] theorem wsFor {ii : I} {g : G} : W (sFor ii g s r st) QS ↔ W (ii r st) fun z st => W (forGo z g s r st) QS := by
  unfold sFor; rw [W_bind]
/-! ### targets -/
@[simp] theorem vNm {d : D} {Q1 : Env → Prop} : V1 (gNm i d st r) Q1 ↔ Q1 (r.set i (some d)) := V1_some
@[simp] theorem vNil {Q1 : Env → Prop} : V1 (gsNil [] st r) Q1 ↔ Q1 r := V1_some
@[simp] theorem vCons {g : G} {h : Gs} {d : D} {l : List D} {Q1 : Env → Prop} : V1 (gsCons g h (d :: l) st r) Q1 ↔ V1 (g d st r) fun r1 => V1 (h l st r1) Q1 := by
  unfold gsCons; simp only [VV_bind]
@[simp] theorem vTp {n : Nat} {g : Gs} {l : List D} {Q1 : Env → Prop} : V1 (gTp n g (.tup l) st r) Q1 ↔ l.length = n ∧ V1 (g l st r) Q1 := by
  unfold gTp
  by_cases h : l.length = n <;> simp [h]
/-! ### a def -/
def okSt (st : Sto) : Prop := st.all (Cell.blw st.length) = true
theorem leave_self {d : D} {st : Sto} : leave st.length d st = (d, st) := by
  unfold leave; simp
theorem leave_add {d : D} {st ext : Sto} (h : okSt st) (hd : d.blw st.length = true) : leave st.length d (st ++ ext) = (d, st) := by
  unfold leave
  rw [List.take_left, if_pos ⟨hd, h⟩]
theorem fDef_W {np nn : Nat} {ds : List D} {st : Sto} {Q : D → Sto → Prop} (hl : ds.length = np) (h : W (s (begin_ nn ds) st) fun o st1 => match o with
    | .ret d => Q (leave st.length d st1).1 (leave st.length d st1).2
    | .next _ => Q (leave st.length .non st1).1 (leave st.length .non st1).2
    | _ => False) : W (fDef np nn s ds st) Q := by
  obtain ⟨o, st1, e, q⟩ := h
  unfold fDef
  rw [if_pos hl, e]
  cases o with
  | ret d => exact ⟨_, _, rfl, q⟩
  | next r => exact ⟨_, _, rfl, q⟩
  | brk r => exact q.elim
  | cont r => exact q.elim
end
end EV
/-! EV.18: comprehensions, loops. -/
namespace EV
open PySem (Str PyData)
section
variable {r : Env} {st : Sto} {g : G} {c : T} {e : E} {b : S}
theorem V1.mono {α : Type} {o : Option α} {Q Q' : α → Prop} (h : V1 o Q) (i : ∀ a, Q a → Q' a) : V1 o Q' := let ⟨a, e, q⟩ := h; ⟨a, e, i a q⟩
theorem W.bind {α β γ δ : Type} {o : Option (α × β)} {f : α × β → Option (γ × δ)} {Q : γ → δ → Prop} (h : W o fun a s => W (f (a, s)) Q) : W (o.bind f) Q := W_bind.mpr h

/-- a comprehension, item by item -/
theorem lc_ix {l : List D} (I : Nat → List D → Sto → Prop) {Q : List D → Sto → Prop} (h0 : I 0 [] st)
    (step : ∀ (i : Nat) (h : i < l.length) (acc : List D) (st : Sto), I i acc st → V1 (g l[i] st r) fun r1 => W (c r1 st) fun k st1 => if k = true then W (e r1 st1) fun y st2 => I (i + 1) (acc ++ [y]) st2 else I (i + 1) acc st1)
    (fin : ∀ acc st, I l.length acc st → Q acc st) : W (lcL r g c e l st) Q := by
  have go : ∀ (m i : Nat) (acc : List D) (st : Sto), i + m = l.length → I i acc st → W (lcL r g c e (l.drop i) st) fun ys st' => Q (acc ++ ys) st' := by
    intro m
    induction m with
    | zero =>
      intro i acc st hi h
      rw [List.drop_eq_nil_of_le (by omega)]
      simp only [lcL, W_some, List.append_nil]
      exact fin acc st (by have e : i = l.length := by omega
                           rw [← e]; exact h)
    | succ m ih =>
      intro i acc st hi h
      have hl : i < l.length := by omega
      rw [List.drop_eq_getElem_cons hl]
      unfold lcL
      obtain ⟨r1, e1, h1⟩ := step i hl acc st h
      rw [e1]
      refine W.bind (β := Sto) (o := c r1 st) (W.mono h1 fun k st1 h2 => ?_)
      cases k with
      | true =>
        simp only [if_true] at h2 ⊢
        refine W.bind (W.mono h2 fun y st2 h3 => W.bind (W.mono (ih (i + 1) _ st2 (by omega) h3) fun ys st3 q => ?_))
        simpa using q
      | false =>
        simp only [Bool.false_eq_true, if_false] at h2 ⊢
        exact ih (i + 1) _ st1 (by omega) h2
  have := go l.length 0 [] st (by omega) h0
  simpa using this
/-- nothing is changed by it -/
theorem lc_pure {α : Type} (xs : List α) (enc : α → D) (p : α → Bool) (f : α → D) {Q : List D → Sto → Prop} (h : ∀ x ∈ xs, V1 (g (enc x) st r) fun r1 => W (c r1 st) fun k st1 => k = p x ∧ st1 = st ∧ (p x = true → W (e r1 st) fun y st2 => y = f x ∧ st2 = st)) (q : Q ((xs.filter p).map f) st) :
    W (lcL r g c e (xs.map enc) st) Q := by
  have go : ∀ ys : List α, (∀ x ∈ ys, x ∈ xs) → W (lcL r g c e (ys.map enc) st) fun zs st' => zs = (ys.filter p).map f ∧ st' = st := by
    intro ys
    induction ys with
    | nil => intro _; simp [lcL]
    | cons x ys ih =>
      intro hm
      rw [List.map_cons]
      unfold lcL
      obtain ⟨r1, e1, h1⟩ := h x (hm x List.mem_cons_self)
      rw [e1]
      refine W.bind (β := Sto) (o := c r1 st) (W.mono h1 fun k st1 h2 => ?_)
      obtain ⟨rfl, rfl, h3⟩ := h2
      have ih' := ih fun y hy => hm y (List.mem_cons_of_mem _ hy)
      cases hp : p x with
      | true =>
        simp only [if_true]
        refine W.bind (W.mono (h3 hp) fun y st2 h4 => W.bind ?_)
        obtain ⟨rfl, rfl⟩ := h4
        refine W.mono ih' fun zs st3 h5 => ?_
        obtain ⟨rfl, rfl⟩ := h5
        rw [List.filter_cons_of_pos hp]
        simp
      | false =>
        simp only [Bool.false_eq_true, if_false]
        rw [List.filter_cons_of_neg (by simp [hp])]
        exact ih'
  exact W.mono (go xs fun _ h => h) fun zs st' h => by obtain ⟨rfl, rfl⟩ := h; exact q
theorem lc_pureA {α : Type} (xs : List α) (enc : α → D) (f : α → D) {Q : List D → Sto → Prop} (h : ∀ x ∈ xs, V1 (g (enc x) st r) fun r1 => W (e r1 st) fun y st2 => y = f x ∧ st2 = st) (q : Q (xs.map f) st) :
    W (lcL r g tYes e (xs.map enc) st) Q := by
  refine lc_pure xs enc (fun _ => true) f (fun x hx => (h x hx).mono fun r1 h1 => ?_) (by rw [List.filter_eq_self.mpr fun _ _ => rfl]; exact q)
  simp only [tYes, W_some]
  exact ⟨trivial, trivial, fun _ => h1⟩
/-- a loop, item by item -/
theorem for_ix {l : List D} (I : Nat → Env → Sto → Prop) {Q : Out → Sto → Prop} (h0 : I 0 r st)
    (step : ∀ (i : Nat) (h : i < l.length) (r : Env) (st : Sto), I i r st → V1 (g l[i] st r) fun r1 => W (b r1 st) fun o st2 => match o with
      | .next r2 => I (i + 1) r2 st2
      | .cont r2 => I (i + 1) r2 st2
      | .brk r2 => Q (.next r2) st2
      | .ret d => Q (.ret d) st2) (fin : ∀ r st, I l.length r st → Q (.next r) st) : W (forL g b l r st) Q := by
  have go : ∀ (m i : Nat) (r : Env) (st : Sto), i + m = l.length → I i r st → W (forL g b (l.drop i) r st) Q := by
    intro m
    induction m with
    | zero =>
      intro i r st hi h
      rw [List.drop_eq_nil_of_le (by omega)]
      simp only [forL, W_some]
      exact fin r st (by have e : i = l.length := by omega
                         rw [← e]; exact h)
    | succ m ih =>
      intro i r st hi h
      have hl : i < l.length := by omega
      rw [List.drop_eq_getElem_cons hl]
      unfold forL
      obtain ⟨r1, e1, h1⟩ := step i hl r st h
      rw [e1]
      refine W.bind (W.mono h1 fun o st2 h2 => ?_)
      cases o with
      | next r2 => exact ih (i + 1) r2 st2 (by omega) h2
      | cont r2 => exact ih (i + 1) r2 st2 (by omega) h2
      | brk r2 => exact W_some.mpr h2
      | ret d => exact W_some.mpr h2
  have := go l.length 0 r st (by omega) h0
  simpa using this
/-- while -/
theorem while_ix {t : T} (I : Nat → Env → Sto → Prop) {Q : Out → Sto → Prop} {n : Nat} (h0 : I n r st)
    (step : ∀ (n : Nat) (r : Env) (st : Sto), I n r st → W (t r st) fun k st1 => if k = true then W (b r st1) fun o st2 => match o with
      | .next r2 => ∃ m, m < n ∧ I m r2 st2
      | .cont r2 => ∃ m, m < n ∧ I m r2 st2
      | .brk r2 => Q (.next r2) st2
      | .ret d => Q (.ret d) st2 else Q (.next r) st1) : W (sWhile t b r st) Q := by
  have go : ∀ (n : Nat) (r : Env) (st : Sto), I n r st → ∃ k o st', whileN t b k r st = some (o, st') ∧ Q o st' := by
    intro n
    induction n using Nat.strongRecOn with
    | ind n ih =>
      intro r st h
      obtain ⟨k, st1, e1, h1⟩ := step n r st h
      cases k with
      | false =>
        simp only [Bool.false_eq_true, if_false] at h1
        exact ⟨1, .next r, st1, by unfold whileN; rw [e1]; rfl, h1⟩
      | true =>
        simp only [if_true] at h1
        obtain ⟨o, st2, e2, h2⟩ := h1
        cases o with
        | next r2 =>
          obtain ⟨m, hm, h3⟩ := h2
          obtain ⟨k, o, st3, e3, q⟩ := ih m hm r2 st2 h3
          exact ⟨k + 1, o, st3, by unfold whileN; rw [e1]; simp only [Option.bind_some, if_true]; rw [e2]; exact e3, q⟩
        | cont r2 =>
          obtain ⟨m, hm, h3⟩ := h2
          obtain ⟨k, o, st3, e3, q⟩ := ih m hm r2 st2 h3
          exact ⟨k + 1, o, st3, by unfold whileN; rw [e1]; simp only [Option.bind_some, if_true]; rw [e2]; exact e3, q⟩
        | brk r2 => exact ⟨1, .next r2, st2, by unfold whileN; rw [e1]; simp only [Option.bind_some, if_true]; rw [e2]; rfl, h2⟩
        | ret d => exact ⟨1, .ret d, st2, by unfold whileN; rw [e1]; simp only [Option.bind_some, if_true]; rw [e2]; rfl, h2⟩
  obtain ⟨k, o, st', e, q⟩ := go n r st h0
  exact ⟨o, st', sWhile_of e, q⟩
end
/-! ### data without cells -/
theorem blw_dat : ∀ (n : Nat) (d : D), d.dat = true → d.blw n = true := by
  intro n d
  induction d using D.rec (motive_2 := fun l => datAll l = true → blwAll n l = true) with
  | non => intro _; simp [D.blw]
  | bl b => intro _; simp [D.blw]
  | int i => intro _; simp [D.blw]
  | str s => intro _; simp [D.blw]
  | tup l ih => intro h; simp [D.blw]; exact ih (by simpa [D.dat] using h)
  | lst l ih => intro h; simp [D.blw]; exact ih (by simpa [D.dat] using h)
  | ref n => intro h; simp [D.dat] at h
  | scr l => intro h; simp [D.blw]
  | nil => simp [blwAll]
  | cons d r i1 i2 =>
    rename_i h
    rw [datAll, Bool.and_eq_true] at h
    rw [blwAll, i1 h.1, i2 h.2]; rfl
theorem blwAll_dat (n : Nat) : ∀ l : List D, datAll l = true → blwAll n l = true
  | [], _ => by simp [blwAll]
  | d :: l, h => by
    rw [datAll, Bool.and_eq_true] at h
    rw [blwAll, blw_dat n d h.1, blwAll_dat n l h.2]; rfl
/-- a cell that speaks of no cell -/
def Cell.clean : Cell → Bool
  | .lst l => datAll l
  | _ => false
theorem ok_clean {st : Sto} (h : st.all Cell.clean = true) : okSt st := by
  refine List.all_eq_true.mpr fun c hc => ?_
  have := List.all_eq_true.mp h c hc
  cases c with
  | lst l => exact blwAll_dat _ l this
  | _ => simp [Cell.clean] at this
@[simp] theorem dat_ints (l : List Int) : datAll (l.map D.int) = true := by
  induction l with
  | nil => rfl
  | cons a l ih => simp [datAll, D.dat, ih]
end EV
/-! EV.19: operators at work. -/
namespace EV
open PySem (Str PyData)
section
variable {st : Sto} {Q : D → Prop} {QS : Sto → Prop} {i j k : Int} {l m : List D} {x y : Str} {d v : D}
@[simp] theorem vAdd_ii : V1 (oAdd st (.int i) (.int j)) Q ↔ Q (.int (i + j)) := V1_some
@[simp] theorem vAddI_ii : V1 (oAddI st (.int i) (.int j)) Q ↔ Q (.int (i + j)) := V1_some
@[simp] theorem vAdd_tt : V1 (oAdd st (.tup l) (.tup m)) Q ↔ l.length + m.length ≤ LIM ∧ Q (.tup (l ++ m)) := by
  show V1 (if l.length + m.length ≤ LIM then some (D.tup (l ++ m)) else none) Q ↔ _
  by_cases h : l.length + m.length ≤ LIM <;> simp [h]
@[simp] theorem vAdd_ll : V1 (oAdd st (.lst l) (.lst m)) Q ↔ l.length + m.length ≤ LIM ∧ Q (.lst (l ++ m)) := by
  show V1 (if l.length + m.length ≤ LIM then some (D.lst (l ++ m)) else none) Q ↔ _
  by_cases h : l.length + m.length ≤ LIM <;> simp [h]
@[simp] theorem vSub_ii : V1 (oSub st (.int i) (.int j)) Q ↔ Q (.int (i - j)) := V1_some
@[simp] theorem vMul_ii : V1 (oMul st (.int i) (.int j)) Q ↔ MulOk i j ∧ Q (.int (i * j)) := by
  show V1 (if MulOk i j then some (D.int (i * j)) else none) Q ↔ _
  by_cases h : MulOk i j <;> simp [h]
theorem vMul_ti : V1 (oMul st (.tup l) (.int k)) Q ↔ (0 < l.length ∧ 2 ≤ k ∧ k ≤ 1000 ∧ l.length ≤ 1000) ∧ Q (.tup (List.replicate k.toNat l).flatten) := by
  show V1 (if 0 < l.length ∧ 2 ≤ k ∧ k ≤ 1000 ∧ l.length ≤ 1000 then some (D.tup (List.replicate k.toNat l).flatten) else none) Q ↔ _
  by_cases h : 0 < l.length ∧ 2 ≤ k ∧ k ≤ 1000 ∧ l.length ≤ 1000 <;> simp [h]
@[simp] theorem vMul_li : V1 (oMul st (.lst l) (.int k)) Q ↔ (0 ≤ k ∧ k < 1000000 ∧ l.length * k.toNat ≤ LIM) ∧ Q (.lst (List.replicate k.toNat l).flatten) := by
  show V1 (if 0 ≤ k ∧ k < 1000000 ∧ l.length * k.toNat ≤ LIM then some (D.lst (List.replicate k.toNat l).flatten) else none) Q ↔ _
  by_cases h : 0 ≤ k ∧ k < 1000000 ∧ l.length * k.toNat ≤ LIM <;> simp [h]
@[simp] theorem vDiv_ii : V1 (oDiv st (.int i) (.int j)) Q ↔ (0 < j ∧ j.natAbs.log2 < 9000) ∧ Q (.int (i / j)) := by
  show V1 (if 0 < j ∧ j.natAbs.log2 < 9000 then some (D.int (i / j)) else none) Q ↔ _
  by_cases h : 0 < j ∧ j.natAbs.log2 < 9000 <;> simp [h]
@[simp] theorem vMod_ii : V1 (oMod st (.int i) (.int j)) Q ↔ 0 < j ∧ Q (.int (i % j)) := by
  show V1 (if 0 < j then some (D.int (i % j)) else none) Q ↔ _
  by_cases h : 0 < j <;> simp [h]
@[simp] theorem vNeg_i : V1 (oNeg st (.int i)) Q ↔ Q (.int (-i)) := V1_some
@[simp] theorem vEq_ii : V1 (oEq st (.int i) (.int j)) Q ↔ Q (.bl (decide (i = j))) := V1_some
@[simp] theorem vNe_ii : V1 (oNe st (.int i) (.int j)) Q ↔ Q (.bl (!decide (i = j))) := V1_some
@[simp] theorem vEq_ss : V1 (oEq st (.str x) (.str y)) Q ↔ Q (.bl (decide (x = y))) := V1_some
@[simp] theorem vNe_ss : V1 (oNe st (.str x) (.str y)) Q ↔ Q (.bl (!decide (x = y))) := V1_some
@[simp] theorem vLt_ii : V1 (oLt st (.int i) (.int j)) Q ↔ Q (.bl (decide (i < j))) := V1_some
@[simp] theorem vLe_ii : V1 (oLe st (.int i) (.int j)) Q ↔ Q (.bl (decide (i ≤ j))) := V1_some
@[simp] theorem vGt_ii : V1 (oGt st (.int i) (.int j)) Q ↔ Q (.bl (decide (j < i))) := V1_some
@[simp] theorem vGe_ii : V1 (oGe st (.int i) (.int j)) Q ↔ Q (.bl (decide (j ≤ i))) := V1_some
@[simp] theorem vbv {b : Bool} {Q : Bool → Prop} : V1 (bv (.bl b)) Q ↔ Q b := V1_some
@[simp] theorem vIsN_n : V1 (oIsN st .non) Q ↔ Q (.bl true) := V1_some
@[simp] theorem vIsN_i : V1 (oIsN st (.int i)) Q ↔ Q (.bl false) := V1_some
@[simp] theorem vIsN_t : V1 (oIsN st (.tup l)) Q ↔ Q (.bl false) := V1_some
@[simp] theorem vIsN_l : V1 (oIsN st (.lst l)) Q ↔ Q (.bl false) := V1_some
@[simp] theorem vNotN_n : V1 (oNotN st .non) Q ↔ Q (.bl false) := V1_some
@[simp] theorem vNotN_i : V1 (oNotN st (.int i)) Q ↔ Q (.bl true) := V1_some
@[simp] theorem vNotN_t : V1 (oNotN st (.tup l)) Q ↔ Q (.bl true) := V1_some
@[simp] theorem vNotN_l : V1 (oNotN st (.lst l)) Q ↔ Q (.bl true) := V1_some
/-! places -/
@[simp] theorem vIdx_t : V1 (oIdx st (.tup l) (.int k)) Q ↔ V1 (L2.atI l k) Q := Iff.rfl
@[simp] theorem vIdx_l : V1 (oIdx st (.lst l) (.int k)) Q ↔ V1 (L2.atI l k) Q := Iff.rfl
@[simp] theorem vIdx_s {ns : List Int} : V1 (oIdx st (.scr ns) (.int k)) Q ↔ V1 (L2.atI (ns.map D.int) k) Q := Iff.rfl
@[simp] theorem vIdx_r {n : Nat} : V1 (oIdx st (.ref n) (.int k)) Q ↔ V1 (asL st (.ref n)) fun l => V1 (L2.atI l k) Q := VV_bind
@[simp] theorem vasL_r {n : Nat} {QL : List D → Prop} : V1 (asL st (.ref n)) QL ↔ ∃ l, st[n]? = some (.lst l) ∧ QL l := by
  unfold asL
  simp only
  cases e : st[n]? with
  | none => simp
  | some c => cases c <;> simp
@[simp] theorem vasL_l {QL : List D → Prop} : V1 (asL st (.lst l)) QL ↔ QL l := V1_some
theorem at_nat {α : Type} {l : List α} {n : Nat} (h : n < l.length) : L2.atI l (n : Int) = some l[n] := L2.atI_nat (List.getElem?_eq_getElem h)
theorem at_int {α : Type} {l : List α} {k : Int} (h0 : 0 ≤ k) (h : k.toNat < l.length) : L2.atI l k = some l[k.toNat] := by
  have := at_nat h
  rwa [Int.toNat_of_nonneg h0] at this
@[simp] theorem at_0 {α : Type} {a : α} {l : List α} : L2.atI (a :: l) 0 = some a := at_nat (n := 0) (by simp)
@[simp] theorem at_1 {α : Type} {a b : α} {l : List α} : L2.atI (a :: b :: l) 1 = some b := at_nat (n := 1) (by simp)
@[simp] theorem at_2 {α : Type} {a b c : α} {l : List α} : L2.atI (a :: b :: c :: l) 2 = some c := at_nat (n := 2) (by simp)
@[simp] theorem at_3 {α : Type} {a b c e : α} {l : List α} : L2.atI (a :: b :: c :: e :: l) 3 = some e := at_nat (n := 3) (by simp)
@[simp] theorem vSet {n : Nat} : V1 (setIdx st (.ref n) (.int k) v) QS ↔ ∃ l, st[n]? = some (.lst l) ∧ V1 (L2.ixN l.length k) fun j => QS (st.set n (.lst (l.set j v))) := by
  unfold setIdx
  simp only
  cases e : st[n]? with
  | none => simp
  | some c => cases c with
    | lst l =>
      simp only
      cases h : L2.ixN l.length k <;> simp [h]
    | _ => simp
theorem ixN_of {n j : Nat} (hj : j < n) : L2.ixN n (j : Int) = some j := by
  unfold L2.ixN
  rw [if_pos (by omega), if_pos (by omega), Int.toNat_natCast]
theorem ix_int {n : Nat} {k : Int} (h0 : 0 ≤ k) (h : k.toNat < n) : L2.ixN n k = some k.toNat := by
  have := ixN_of h
  rwa [Int.toNat_of_nonneg h0] at this
@[simp] theorem ix_0 {n : Nat} : L2.ixN (n + 1) 0 = some 0 := ixN_of (j := 0) (by omega)
@[simp] theorem ix_1 {n : Nat} : L2.ixN (n + 1 + 1) 1 = some 1 := ixN_of (j := 1) (by omega)
@[simp] theorem vApp {n : Nat} : V1 (appTo st (.ref n) v) QS ↔ ∃ l, st[n]? = some (.lst l) ∧ l.length < LIM ∧ QS (st.set n (.lst (l ++ [v]))) := by
  unfold appTo
  simp only
  cases e : st[n]? with
  | none => simp
  | some c => cases c with
    | lst l => simp only; by_cases h : l.length < LIM <;> simp [h]
    | _ => simp
/-! built-in functions -/
@[simp] theorem vLen_t : V1 (bLen st [.tup l]) Q ↔ Q (.int l.length) := V1_some
@[simp] theorem vLen_l : V1 (bLen st [.lst l]) Q ↔ Q (.int l.length) := V1_some
@[simp] theorem vLen_s {ns : List Int} : V1 (bLen st [.scr ns]) Q ↔ Q (.int ns.length) := by
  unfold bLen asSeq; simp
@[simp] theorem vLen_r {n : Nat} : V1 (bLen st [.ref n]) Q ↔ ∃ l, st[n]? = some (.lst l) ∧ Q (.int l.length) := by
  show V1 ((asL st (.ref n)).bind _) Q ↔ _
  rw [VV_bind, vasL_r]; simp
@[simp] theorem vAbs_i : V1 (bAbs st [.int i]) Q ↔ Q (.int (if i < 0 then -i else i)) := V1_some
@[simp] theorem vInt_i : V1 (bInt st [.int i]) Q ↔ Q (.int i) := V1_some
@[simp] theorem ints_map : ∀ l : List Int, intsOf (l.map D.int) = some l
  | [] => rfl
  | a :: l => by rw [List.map_cons, intsOf, ints_map l]; rfl
@[simp] theorem bls_map : ∀ l : List Bool, bls (l.map D.bl) = some l
  | [] => rfl
  | a :: l => by rw [List.map_cons, bls, bls_map l]; rfl
theorem bls_mapf {α : Type} (f : α → Bool) (l : List α) : bls (l.map fun a => D.bl (f a)) = some (l.map f) := by
  have := bls_map (l.map f)
  rwa [List.map_map] at this
theorem ints_mapf {α : Type} (f : α → Int) (l : List α) : intsOf (l.map fun a => D.int (f a)) = some (l.map f) := by
  have := ints_map (l.map f)
  rwa [List.map_map] at this
@[simp] theorem vSum_t : V1 (bSum st [.tup l]) Q ↔ V1 (intsOf l) fun ns => Q (.int ns.sum) := by
  show V1 ((intsOf l).bind fun ns => some (.int ns.sum)) Q ↔ _
  rw [VV_bind]; simp
@[simp] theorem vSum_l : V1 (bSum st [.lst l]) Q ↔ V1 (intsOf l) fun ns => Q (.int ns.sum) := by
  show V1 ((intsOf l).bind fun ns => some (.int ns.sum)) Q ↔ _
  rw [VV_bind]; simp
@[simp] theorem vAny_l : V1 (bAny st [.lst l]) Q ↔ V1 (bls l) fun bs => Q (.bl (bs.any id)) := by
  show V1 ((bls l).bind fun bs => some (.bl (bs.any id))) Q ↔ _
  rw [VV_bind]; simp
@[simp] theorem vAll_l : V1 (bAll st [.lst l]) Q ↔ V1 (bls l) fun bs => Q (.bl (bs.all id)) := by
  show V1 ((bls l).bind fun bs => some (.bl (bs.all id))) Q ↔ _
  rw [VV_bind]; simp
@[simp] theorem vTup_l : V1 (bTuple st [.lst l]) Q ↔ Q (.tup l) := V1_some
@[simp] theorem vTup_t : V1 (bTuple st [.tup l]) Q ↔ Q (.tup l) := V1_some
@[simp] theorem vTup_r {n : Nat} : V1 (bTuple st [.ref n]) Q ↔ ∃ l, st[n]? = some (.lst l) ∧ Q (.tup l) := by
  show V1 ((asL st (.ref n)).bind _) Q ↔ _
  rw [VV_bind, vasL_r]; simp
@[simp] theorem vList_l : V1 (bList st [.lst l]) Q ↔ Q (.lst l) := V1_some
@[simp] theorem vList_t : V1 (bList st [.tup l]) Q ↔ Q (.lst l) := V1_some
@[simp] theorem vList_r {n : Nat} : V1 (bList st [.ref n]) Q ↔ ∃ l, st[n]? = some (.lst l) ∧ Q (.lst l) := by
  show V1 ((asL st (.ref n)).bind _) Q ↔ _
  rw [VV_bind, vasL_r]; simp
@[simp] theorem vMin_ii : V1 (bMin st [.int i, .int j]) Q ↔ Q (.int (if j < i then j else i)) := V1_some
@[simp] theorem vMax_ii : V1 (bMax st [.int i, .int j]) Q ↔ Q (.int (if i < j then j else i)) := V1_some
theorem vMin_l : V1 (bMin st [.lst (d :: l)]) Q ↔ Alk (d :: l) ∧ Q (least d l) := by
  show V1 (if Alk (d :: l) then some (least d l) else none) Q ↔ _
  by_cases h : Alk (d :: l) <;> simp [h]
theorem vMax_l : V1 (bMax st [.lst (d :: l)]) Q ↔ Alk (d :: l) ∧ Q (most d l) := by
  show V1 (if Alk (d :: l) then some (most d l) else none) Q ↔ _
  by_cases h : Alk (d :: l) <;> simp [h]
@[simp] theorem vCut_t {lo hi : Option Int} : V1 (oCut st (.tup l) lo hi) Q ↔ Q (.tup (cut l lo hi)) := V1_some
@[simp] theorem vCut_l {lo hi : Option Int} : V1 (oCut st (.lst l) lo hi) Q ↔ Q (.lst (cut l lo hi)) := V1_some
@[simp] theorem vCut_r {n : Nat} {lo hi : Option Int} : V1 (oCut st (.ref n) lo hi) Q ↔ ∃ l, st[n]? = some (.lst l) ∧ Q (.lst (cut l lo hi)) := by
  show V1 ((asL st (.ref n)).bind _) Q ↔ _
  rw [VV_bind, vasL_r]; simp
@[simp] theorem vRev_t : V1 (oRev st (.tup l)) Q ↔ Q (.tup l.reverse) := V1_some
@[simp] theorem vIsI : V1 (bIsInt st [.int i]) Q ↔ Q (.bl true) := by
  show V1 (if (D.int i).dat = true then some (.bl (D.ty (.int i) == "int" || D.ty (.int i) == "bool")) else none) Q ↔ _
  simp [D.dat, D.ty]
@[simp] theorem vIsB : V1 (bIs "bool" st [.int i]) Q ↔ Q (.bl false) := by
  show V1 (if (D.int i).dat = true then some (.bl (D.ty (.int i) == "bool")) else none) Q ↔ _
  simp [D.dat, D.ty]
@[simp] theorem vIsT : V1 (bIs "tuple" st [.tup l]) Q ↔ datAll l = true ∧ Q (.bl true) := by
  show V1 (if (D.tup l).dat = true then some (.bl (D.ty (.tup l) == "tuple")) else none) Q ↔ _
  by_cases h : datAll l = true <;> simp [D.dat, D.ty, h]
theorem vRepr (h : RepOk (seen st d)) : V1 (bRepr st [d]) Q ↔ Q (.str (seen st d).py.shown) := by
  show V1 (if RepOk (seen st d) then some (.str (seen st d).py.shown) else none) Q ↔ _
  simp [h]
end
theorem mul_small {i j : Int} (h : -(2 ^ 64) < i ∧ i < 2 ^ 64) : MulOk i j := .inl h
theorem mul_small' {i j : Int} (h : -(2 ^ 64) < j ∧ j < 2 ^ 64) : MulOk i j := .inr (.inl h)
theorem log_small {j : Int} (h0 : 0 < j) (h : j < 2 ^ 64) : j.natAbs.log2 < 9000 := by
  have h1 : j.natAbs < 2 ^ 64 := by omega
  have := (Nat.log2_lt (n := j.natAbs) (k := 64) (by omega)).mpr h1
  omega
end EV
namespace EV
open PySem (Str PyData)
section
variable {st : Sto} {Q : D → Prop} {i : Int} {α : Type}
theorem flat_ints {l : List α} {f : α → Int} : (l.map fun a => D.int (f a)).all D.flat = true := by
  induction l with
  | nil => rfl
  | cons a l ih => simp [D.flat]
theorem vIn_m {l : List α} {f : α → Int} : V1 (oIn st (.int i) (.tup (l.map fun a => D.int (f a)))) Q ↔ Q (.bl (l.any fun a => f a == i)) := by
  show V1 (if (D.int i).flat = true ∧ (l.map fun a => D.int (f a)).all D.flat = true then some (D.bl ((l.map fun a => D.int (f a)).any fun z => PyData.eqv z.py (D.py (.int i)))) else none) Q ↔ _
  rw [if_pos ⟨rfl, flat_ints⟩, V1_some, List.any_map]
  have e : ((fun z => PyData.eqv z.py (D.int i).py) ∘ fun a => D.int (f a)) = fun a => f a == i := by
    funext a
    simp [D.py, PyData.eqv]
  rw [e]
theorem vNotIn_m {l : List α} {f : α → Int} : V1 (oNotIn st (.int i) (.tup (l.map fun a => D.int (f a)))) Q ↔ Q (.bl (!l.any fun a => f a == i)) := by
  unfold oNotIn
  rw [VV_bind, vIn_m, VV_bind, vbv, V1_some]
theorem rng_nat (n : Nat) : rng 0 (n : Int) = (List.range n).map fun i : Nat => D.int (i : Int) := by
  unfold rng
  simp
theorem rng_ok {n : Nat} (h : n < 2 ^ 60) : RngOk 0 (n : Int) := by
  refine ⟨by decide, by decide, by omega, by omega⟩
end
/-- D.int of naturals -/
abbrev nD (i : Nat) : D := .int (i : Int)
theorem dat_map {α : Type} {l : List α} {f : α → D} (h : ∀ a ∈ l, (f a).dat = true) : datAll (l.map f) = true := by
  induction l with
  | nil => rfl
  | cons a l ih =>
    rw [List.map_cons, datAll, h a List.mem_cons_self, ih fun b hb => h b (List.mem_cons_of_mem _ hb)]; rfl
end EV
/-! EV.20: data in order. -/
namespace EV
open PySem (Str PyData)
open PySem.W (alike alikeAll dataLt)
@[simp] theorem py_int (i : Int) : (D.int i).py = .int i := rfl
theorem pyAll_ints : ∀ l : List Int, pyAll (l.map D.int) = l.map PyData.int
  | [] => rfl
  | a :: l => by rw [List.map_cons, pyAll, pyAll_ints l]; rfl
theorem py_ints (l : List Int) : (D.tup (l.map D.int)).py = .tuple (l.map .int) := by rw [D.py, pyAll_ints]
theorem canLay_ints : ∀ l : List Int, PyData.canLayAll0 (l.map .int) = true
  | [] => by simp [PyData.canLayAll0]
  | a :: l => by simp [PyData.canLayAll0, PyData.canLay0, canLay_ints l]
theorem shp_ints (l : List Int) : (D.tup (l.map D.int)).shp = true := by
  unfold D.shp
  rw [py_ints]
  simp [D.dat, PySem.SeqAt.shaped, PyData.canLay0, canLay_ints, PyData.depth, PySem.W.depth_ints]
theorem shp_pair (t : Int) (l : List Int) : (D.tup [.int t, .tup (l.map D.int)]).shp = true := by
  unfold D.shp
  have e : (D.tup [.int t, .tup (l.map D.int)]).py = .tuple [.int t, .tuple (l.map .int)] := by
    rw [D.py, pyAll, pyAll, pyAll, py_ints]; rfl
  rw [e]
  simp [D.dat, datAll, PySem.SeqAt.shaped, PyData.canLay0, PyData.canLayAll0, canLay_ints, PyData.depth, PyData.depthAll, PySem.W.depth_ints]
theorem shp_ii (t u : Int) : (D.tup [.int t, .int u]).shp = true := by
  unfold D.shp
  simp [D.dat, D.py, pyAll, datAll, PySem.SeqAt.shaped, PyData.canLay0, PyData.canLayAll0, PyData.depth, PyData.depthAll]
theorem pair_lt (t u : Int) (l m : List Int) : dLt (.tup [.int t, .tup (l.map D.int)]) (.tup [.int u, .tup (m.map D.int)]) = decide (t < u ∨ (t = u ∧ l < m)) := by
  unfold dLt
  have e : ∀ (t : Int) (l : List Int), (D.tup [.int t, .tup (l.map D.int)]).py = .tuple [.int t, .tuple (l.map .int)] := fun t l => by
    rw [D.py, pyAll, pyAll, pyAll, py_ints]; rfl
  rw [e, e, PySem.W.dataLt_pair (by simp [alike]) (by simp [alike, PySem.W.alike_ints]), PySem.W.dataLt_int, PySem.W.dataLt_tuple]
  have e2 := PySem.W.dataLt_ints l m
  unfold PySem.W.rowLt at e2
  rw [e2]
  have eI : PyData.eqv (.int t) (.int u) = (t == u) := by rw [PyData.eqv]
  have eT : PyData.eqv (.tuple (l.map .int)) (.tuple (m.map .int)) = PyData.eqvAll (l.map .int) (m.map .int) := by rw [PyData.eqv]
  rw [eI]
  simp only [beq_iff_eq]
  by_cases h1 : t = u
  · subst h1
    simp only [if_true, Int.lt_irrefl, false_or, true_and]
    by_cases h2 : PyData.eqv (.tuple (l.map .int)) (.tuple (m.map .int)) = true
    · rw [if_pos h2]
      rw [eT] at h2
      have e3 : l = m := by
        have : ∀ (l m : List Int), PyData.eqvAll (l.map .int) (m.map .int) = true → l = m := by
          intro l
          induction l with
          | nil => intro m h; cases m <;> simp_all [PyData.eqvAll]
          | cons a l ih =>
            intro m h
            cases m with
            | nil => simp [PyData.eqvAll] at h
            | cons b m =>
              simp [PyData.eqvAll, PyData.eqv] at h
              rw [h.1, ih m h.2]
        exact this l m h2
      subst e3
      simp [List.lt_irrefl]
    · rw [if_neg h2]
  · simp [h1]
theorem ii_lt (t u x y : Int) : dLt (.tup [.int t, .int x]) (.tup [.int u, .int y]) = decide (t < u ∨ (t = u ∧ x < y)) := by
  unfold dLt
  exact PySem.W.dataLt_ii t x u y
/-- pairs of a number and a row of numbers -/
def pD (c : Int × List Int) : D := .tup [.int c.1, .tup (c.2.map D.int)]
theorem alk_pairs (l : List (Int × List Int)) : Alk (l.map pD) := fun a ha => by
  obtain ⟨c, hc, rfl⟩ := List.mem_map.mp ha
  rw [Bool.and_eq_true, Bool.and_eq_true, List.all_eq_true]
  refine ⟨⟨shp_pair _ _, rfl⟩, fun b hb => ?_⟩
  obtain ⟨c', _, rfl⟩ := List.mem_map.mp hb
  have e : ∀ c : Int × List Int, (pD c).py = .tuple [.int c.1, .tuple (c.2.map .int)] := fun c => by
    unfold pD
    rw [D.py, pyAll, pyAll, pyAll, py_ints]; rfl
  rw [e, e]
  simp [alike, alikeAll, PySem.W.alike_ints]
theorem alk_ii (l : List (Int × Int)) : Alk (l.map fun c => D.tup [.int c.1, .int c.2]) := fun a ha => by
  obtain ⟨c, hc, rfl⟩ := List.mem_map.mp ha
  rw [Bool.and_eq_true, Bool.and_eq_true, List.all_eq_true]
  refine ⟨⟨shp_ii _ _, rfl⟩, fun b hb => ?_⟩
  obtain ⟨c', _, rfl⟩ := List.mem_map.mp hb
  simp [alike, alikeAll, D.py, pyAll]
/-- the first of the least ones, where the rows go up: by the numbers alone -/
theorem least_pairs : ∀ (r : List (Int × List Int)) (a : Int × List Int), (a :: r).Pairwise (fun x y => x.2 < y.2) → least (pD a) (r.map pD) = pD (r.foldl (fun a b => if b.1 < a.1 then b else a) a)
  | [], a, _ => rfl
  | b :: r, a, h => by
    have hab : a.2 < b.2 := (List.pairwise_cons.mp h).1 b List.mem_cons_self
    have e : dLt (pD b) (pD a) = decide (b.1 < a.1) := by
      unfold pD
      rw [pair_lt]
      have : ¬ (b.2 < a.2) := List.lt_asymm hab
      simp [this]
    have h2 : ((if b.1 < a.1 then b else a) :: r).Pairwise (fun x y => x.2 < y.2) := by
      have hb := (List.pairwise_cons.mp h).2
      have ha := (List.pairwise_cons.mp h).1
      split
      · exact hb
      · exact List.pairwise_cons.mpr ⟨fun x hx => ha x (List.mem_cons_of_mem _ hx), (List.pairwise_cons.mp hb).2⟩
    rw [List.map_cons, List.foldl_cons, ← least_pairs r _ h2]
    show least (if dLt (pD b) (pD a) = true then pD b else pD a) (r.map pD) = _
    rw [e]
    by_cases q : b.1 < a.1 <;> simp [q]
end EV
namespace EV
open PySem (Str PyData)
theorem shp_rows {α : Type} {f : α → D} {l : List α} (h : ∀ a ∈ l, (f a).shp = true ∧ (f a).py.depth ≤ 60) : (D.lst (l.map f)).shp = true := by
  have key : ∀ l : List α, (∀ a ∈ l, (f a).shp = true ∧ (f a).py.depth ≤ 60) → datAll (l.map f) = true ∧ PyData.canLayAll0 (pyAll (l.map f)) = true ∧ PyData.depthAll (pyAll (l.map f)) ≤ 60 := by
    intro l
    induction l with
    | nil => intro _; simp [datAll, pyAll, PyData.canLayAll0, PyData.depthAll]
    | cons a l ih =>
      intro h
      obtain ⟨h1, h2, h3⟩ := ih fun b hb => h b (List.mem_cons_of_mem _ hb)
      obtain ⟨g1, g2⟩ := h a List.mem_cons_self
      unfold D.shp PySem.SeqAt.shaped at g1
      simp only [Bool.and_eq_true, decide_eq_true_eq] at g1
      rw [List.map_cons, datAll, pyAll, PyData.canLayAll0, PyData.depthAll, g1.1, h1, g1.2.1, h2]
      exact ⟨rfl, rfl, Nat.max_le.mpr ⟨g2, h3⟩⟩
  obtain ⟨h1, h2, h3⟩ := key l h
  unfold D.shp PySem.SeqAt.shaped
  simp only [D.dat, D.py, PyData.canLay0, PyData.depth, h1, h2, Bool.true_and, decide_eq_true_eq]
  omega
theorem depth_pair (c : Int × List Int) : (pD c).py.depth ≤ 60 := by
  have e : (pD c).py = .tuple [.int c.1, .tuple (c.2.map .int)] := by
    unfold pD
    rw [D.py, pyAll, pyAll, pyAll, py_ints]; rfl
  rw [e]
  simp [PyData.depth, PyData.depthAll, PySem.W.depth_ints]
theorem vNe_nil {st : Sto} {n : Nat} {l : List D} {Q : D → Prop} (e : st[n]? = some (.lst l)) (h : (D.lst l).shp = true) : V1 (oNe st (.ref n) (.lst [])) Q ↔ Q (.bl (!l.isEmpty)) := by
  have e1 : seen st (.ref n) = .lst l := by
    unfold seen
    simp only [e]
  have e2 : oNe st (.ref n) (.lst []) = if (seen st (.ref n)).shp = true ∧ (seen st (.lst [])).shp = true then some (.bl (!PyData.eqv (seen st (.ref n)).py (seen st (.lst [])).py)) else none := rfl
  have e3 : seen st (.lst []) = .lst [] := rfl
  have e4 : (D.lst []).shp = true := by decide +kernel
  rw [e2, e1, e3, if_pos ⟨h, e4⟩, V1_some]
  have e5 : PyData.eqv (D.lst l).py (D.lst []).py = l.isEmpty := by
    cases l with
    | nil => simp [D.py, pyAll, PyData.eqv, PyData.eqvAll]
    | cons a l => simp [D.py, pyAll, PyData.eqv, PyData.eqvAll]
  rw [e5]
/-! ### repr -/
mutual
def D.nice : D → Bool
  | .non => true
  | .bl _ => true
  | .int i => decide (i.natAbs < 10 ^ 18)
  | .tup l => niceAll l
  | .lst l => niceAll l
  | _ => false
def niceAll : List D → Bool
  | [] => true
  | d :: r => d.nice && niceAll r
end
mutual
def D.cnt : D → Nat
  | .tup l => 1 + cntAll l
  | .lst l => 1 + cntAll l
  | _ => 1
def cntAll : List D → Nat
  | [] => 0
  | d :: r => d.cnt + cntAll r
end
theorem short_int {i : Int} (h : i.natAbs < 10 ^ 18) : (PyData.shown (.int i)).length ≤ 20 := by
  have e := PySem.int_text_length_le10 (k := 18) (by decide) h
  show (PySem.Str.ofString (toString i)).length ≤ 20
  rw [PySem.ofString_length]
  omega
mutual
theorem nice_all : ∀ (d : D), d.nice = true → d.dat = true ∧ d.py.showable = true ∧ d.py.hasDict = false ∧ d.py.leavesShort 20 = true ∧ d.py.weight + 1 ≤ 64 * d.cnt
  | .non, _ => by simp [D.dat, D.py, PyData.showable, PyData.hasDict, PyData.leavesShort, PyData.weight, D.cnt]
  | .bl b, _ => by simp [D.dat, D.py, PyData.showable, PyData.hasDict, PyData.leavesShort, PyData.weight, D.cnt]
  | .int i, h => by
    have h1 : i.natAbs < 10 ^ 18 := by simpa [D.nice] using h
    have h2 : i.natAbs.log2 < 60 := by
      by_cases z : i.natAbs = 0
      · rw [z]; decide
      · exact (Nat.log2_lt z).mpr (by omega)
    refine ⟨by simp [D.dat], ?_, by simp [D.py, PyData.hasDict], ?_, ?_⟩
    · simp only [D.py, PyData.showable, decide_eq_true_eq]; omega
    · simp only [D.py, PyData.leavesShort, decide_eq_true_eq]; exact short_int h1
    · simp only [D.py, PyData.weight, D.cnt]; split <;> omega
  | .tup l, h => by
    obtain ⟨h1, h2, h3, h4, h5⟩ := niceAll_all l (by simpa [D.nice] using h)
    simp only [D.dat, D.py, PyData.showable, PyData.hasDict, PyData.leavesShort, PyData.weight, D.cnt]
    exact ⟨h1, h2, h3, h4, by omega⟩
  | .lst l, h => by
    obtain ⟨h1, h2, h3, h4, h5⟩ := niceAll_all l (by simpa [D.nice] using h)
    simp only [D.dat, D.py, PyData.showable, PyData.hasDict, PyData.leavesShort, PyData.weight, D.cnt]
    exact ⟨h1, h2, h3, h4, by omega⟩
  | .str _, h => by simp [D.nice] at h
  | .ref _, h => by simp [D.nice] at h
  | .scr _, h => by simp [D.nice] at h
theorem niceAll_all : ∀ (l : List D), niceAll l = true → datAll l = true ∧ PyData.showableAll (pyAll l) = true ∧ PyData.hasDictAll (pyAll l) = false ∧ PyData.leavesShortAll 20 (pyAll l) = true ∧ PyData.weightAll (pyAll l) ≤ 64 * cntAll l
  | [], _ => by simp [datAll, pyAll, PyData.showableAll, PyData.hasDictAll, PyData.leavesShortAll, PyData.weightAll, cntAll]
  | d :: l, h => by
    have h : (d.nice && niceAll l) = true := by simpa [niceAll] using h
    rw [Bool.and_eq_true] at h
    obtain ⟨a1, a2, a3, a4, a5⟩ := nice_all d h.1
    obtain ⟨b1, b2, b3, b4, b5⟩ := niceAll_all l h.2
    simp only [datAll, pyAll, PyData.showableAll, PyData.hasDictAll, PyData.leavesShortAll, PyData.weightAll, cntAll, a1, a2, a3, a4, b1, b2, b3, b4, List.length_cons]
    refine ⟨rfl, rfl, rfl, rfl, ?_⟩
    omega
end
/-- what repr shows -/
theorem nice_ok {d : D} (h : d.nice = true) (h2 : d.cnt ≤ 8000) (h3 : d.py.depth ≤ 60) : RepOk d := by
  obtain ⟨a1, a2, a3, a4, a5⟩ := nice_all d h
  refine ⟨a1, a2, a3, h3, ?_⟩
  have := PyData.shown_le 20 (by decide) d.py a4
  show d.py.shown.length ≤ 16777216
  omega
theorem seen_nice {st : Sto} {d : D} (h : d.nice = true) : seen st d = d := by
  cases d <;> first | rfl | simp [D.nice] at h
theorem vRepr_nice {st : Sto} {d : D} {Q : D → Prop} (h : d.nice = true) (h2 : d.cnt ≤ 8000) (h3 : d.py.depth ≤ 60) : V1 (bRepr st [d]) Q ↔ Q (.str d.py.shown) := by
  have e := seen_nice (st := st) h
  rw [vRepr (by rw [e]; exact nice_ok h h2 h3), e]
theorem nice_ints {l : List Int} (h : ∀ i ∈ l, i.natAbs < 10 ^ 18) : niceAll (l.map D.int) = true := by
  induction l with
  | nil => rfl
  | cons a l ih =>
    rw [List.map_cons, niceAll, ih fun b hb => h b (List.mem_cons_of_mem _ hb)]
    simp [D.nice, h a List.mem_cons_self]
theorem cnt_ints (l : List Int) : cntAll (l.map D.int) = l.length := by
  induction l with
  | nil => rfl
  | cons a l ih => simp [cntAll, ih, D.cnt]; omega
theorem nice_pair {c : Int × List Int} (h0 : c.1.natAbs < 10 ^ 18) (h : ∀ i ∈ c.2, i.natAbs < 10 ^ 18) : (pD c).nice = true := by
  unfold pD
  simp [D.nice, niceAll, h0, nice_ints h]
theorem cnt_pair (c : Int × List Int) : (pD c).cnt = 3 + c.2.length := by
  unfold pD
  simp [D.cnt, cntAll, cnt_ints]
  omega
theorem depth_ints_ (l : List Int) : (D.tup (l.map D.int)).py.depth ≤ 60 := by
  rw [py_ints]
  simp [PyData.depth, PySem.W.depth_ints]
theorem vMin_r {st : Sto} {n : Nat} {l : List D} {Q : D → Prop} (e : st[n]? = some (.lst l)) : V1 (bMin st [.ref n]) Q ↔ V1 (bMin st [.lst l]) Q := by
  have h : bMin st [.ref n] = bMin st [.lst l] := by
    have h1 : asSeq st (.ref n) = some l := by
      unfold asSeq asL
      simp only [e]
    have h2 : asSeq st (.lst l) = some l := rfl
    unfold bMin
    simp only [h1, h2]
  rw [h]
end EV
namespace EV
open PySem (Str PyData)
section
variable {st : Sto} {Q : D → Prop} {a b : Bool}
theorem vNe_bb : V1 (oNe st (.bl a) (.bl b)) Q ↔ Q (.bl (!(a == b))) := by
  have e : oNe st (.bl a) (.bl b) = some (.bl (!(a == b))) := by
    show (if (seen st (.bl a)).shp = true ∧ (seen st (.bl b)).shp = true then some (D.bl (!PyData.eqv (seen st (.bl a)).py (seen st (.bl b)).py)) else none) = _
    have h : ∀ c : Bool, (seen st (.bl c)).shp = true := fun c => show (D.bl c).shp = true by cases c <;> decide +kernel
    rw [if_pos ⟨h a, h b⟩]
    simp [seen, D.py, PyData.eqv]
  rw [e, V1_some]
theorem vEq_bb : V1 (oEq st (.bl a) (.bl b)) Q ↔ Q (.bl (a == b)) := by
  have e : oEq st (.bl a) (.bl b) = some (.bl (a == b)) := by
    show (if (seen st (.bl a)).shp = true ∧ (seen st (.bl b)).shp = true then some (D.bl (PyData.eqv (seen st (.bl a)).py (seen st (.bl b)).py)) else none) = _
    have h : ∀ c : Bool, (seen st (.bl c)).shp = true := fun c => show (D.bl c).shp = true by cases c <;> decide +kernel
    rw [if_pos ⟨h a, h b⟩]
    simp [seen, D.py, PyData.eqv]
  rw [e, V1_some]
theorem shp_lints (l : List Int) : (D.lst (l.map D.int)).shp = true := by
  unfold D.shp
  rw [D.py, pyAll_ints]
  simp [D.dat, PySem.SeqAt.shaped, PyData.canLay0, canLay_ints, PyData.depth, PySem.W.depth_ints]
theorem eqv_ints (l : List Int) : PyData.eqvAll (l.map .int) (l.map .int) = true := by
  induction l with
  | nil => simp [PyData.eqvAll]
  | cons a l ih => simp [PyData.eqvAll, PyData.eqv, ih]
theorem vNe_same {n : Nat} {l : List Int} (e : st[n]? = some (.lst (l.map D.int))) : V1 (oNe st (.ref n) (.lst (l.map D.int))) Q ↔ Q (.bl false) := by
  have e1 : seen st (.ref n) = .lst (l.map D.int) := by
    unfold seen
    simp only [e]
  have e3 : seen st (.lst (l.map D.int)) = .lst (l.map D.int) := rfl
  have e2 : oNe st (.ref n) (.lst (l.map D.int)) = if (seen st (.ref n)).shp = true ∧ (seen st (.lst (l.map D.int))).shp = true then some (.bl (!PyData.eqv (seen st (.ref n)).py (seen st (.lst (l.map D.int))).py)) else none := rfl
  rw [e2, e1, e3, if_pos ⟨shp_lints l, shp_lints l⟩, V1_some]
  have e5 : PyData.eqv (D.lst (l.map D.int)).py (D.lst (l.map D.int)).py = true := by
    rw [D.py, pyAll_ints, PyData.eqv, eqv_ints]
  rw [e5]; rfl
end
theorem rng_1 (n : Nat) : rng 1 ((n : Int) + 1) = (List.range n).map fun i : Nat => D.int (1 + (i : Int)) := by
  unfold rng
  have e : ((n : Int) + 1 - 1).toNat = n := by omega
  rw [e]
theorem rng1_ok {n : Nat} (h : n < 2 ^ 60) : RngOk 1 ((n : Int) + 1) := by
  refine ⟨by decide, by decide, by omega, by omega⟩
@[simp] theorem new0 {st : Sto} {a : Cell} {l : Sto} : (st ++ a :: l)[st.length]? = some a := by simp
@[simp] theorem new1 {st : Sto} {a b : Cell} {l : Sto} : (st ++ a :: b :: l)[st.length + 1]? = some b := by
  rw [List.getElem?_append_right (by omega)]
  simp
@[simp] theorem setnew0 {st : Sto} {a v : Cell} {l : Sto} : (st ++ a :: l).set st.length v = st ++ v :: l := by
  rw [List.set_append_right _ _ (Nat.le_refl _)]
  simp
@[simp] theorem setnew1 {st : Sto} {a b v : Cell} {l : Sto} : (st ++ a :: b :: l).set (st.length + 1) v = st ++ a :: v :: l := by
  rw [List.set_append_right _ _ (by omega)]
  simp
theorem enum_map {α : Type} (l : List α) (f : α → D) : enumD (l.map f) = (l.zipIdx).map fun p => .tup [.int p.2, f p.1] := by
  unfold enumD
  rw [List.zipIdx_map, List.map_map]
  rfl
theorem enum_rng (m : Nat) (f : Nat → D) : enumD ((List.range m).map f) = (List.range m).map fun k => .tup [.int (k : Int), f k] := by
  apply List.ext_getElem
  · simp [enumD]
  · intro i h1 h2
    simp [enumD]
end EV
namespace EV
section
variable {r : Env} {st : Sto} {QS : Out → Sto → Prop} {o1 i1 o2 i2 e : E}
@[simp] theorem wsSetIx2 : W (sSetIx2 o1 i1 o2 i2 e r st) QS ↔ W (e r st) fun v st => ∃ v1 v2, v = .tup [v1, v2] ∧ W (o1 r st) fun x st => W (i1 r st) fun y st => V1 (setIdx st x y v1) fun st => W (o2 r st) fun x' st => W (i2 r st) fun y' st => V1 (setIdx st x' y' v2) fun st => QS (.next r) st := by
  unfold sSetIx2
  rw [W_bind]
  refine W_congr fun v st => ?_
  simp only
  split
  · rename_i v1 v2
    simp only [W_bind, V_bindS, W_some]
    constructor
    · intro h; exact ⟨v1, v2, rfl, h⟩
    · rintro ⟨w1, w2, e, h⟩
      cases e
      exact h
  · rename_i h
    rw [W_none]
    exact ⟨fun z => z.elim, fun ⟨v1, v2, e, _⟩ => h v1 v2 e⟩
end
end EV
/-! EV.17: a lambda without parameters, handed to a def that calls it inside a try; no exception comes. -/
namespace EV
open PySem PySem.Spec PyProof.Rows L2 LamX

section
variable {C : Cf} {Γ H : Hp} {φ : List Addr} {st : Sto}
/-- a table has grown by a new code object -/
theorem Sim.grown {P c : Addr} {q : Str} {ps qs : Array Value} (s : Sim C Γ H φ st) (hP : H P = some (.tbl ps)) (hu : ∀ p ∈ C.cl.tab, p.1 = P → p.2 = q) (hc : H c = none) (ht : TriplesOk qs.toList)
    (hk : ∀ (pos : Pos) (cv : Value), codeAmong pos qs.toList = some cv → (∃ c', cv = .ref c' ∧ H c' = some (CodeO c' q)) ∨ cv = .ref c) :
    Sim C Γ (upd (upd H P (.tbl qs)) c (CodeO c q)) φ st ∧ Ext Γ H φ Γ (upd (upd H P (.tbl qs)) c (CodeO c q)) φ := by
  have nP : P ≠ c := ne_of_none hP hc
  have atP : upd (upd H P (.tbl qs)) c (CodeO c q) P = some (.tbl qs) := by rw [upd_ne nP, upd_same]
  have at_ : ∀ b, b ≠ P → b ≠ c → upd (upd H P (.tbl qs)) c (CodeO c q) b = H b := fun b h1 h2 => by rw [upd_ne h2, upd_ne h1]
  have keep : ∀ b o, H b = some o → NT o → upd (upd H P (.tbl qs)) c (CodeO c q) b = some o := fun b o e nt => by
    rw [at_ b (fun z => by subst z; rw [hP] at e; exact nt ps (Option.some.inj e).symm) (ne_of_none e hc)]; exact e
  have offP : ∀ a ∈ φ, a ≠ P := fun a ha z => by
    obtain ⟨n, hn⟩ := List.mem_iff_getElem?.mp ha
    exact s.cell_nt hn ps (by rw [z]; exact hP)
  have hex : ∀ a o, H a = some o → ∃ o', upd (upd H P (.tbl qs)) c (CodeO c q) a = some o' := fun a o e => by
    by_cases z : a = P
    · subst z; exact ⟨_, atP⟩
    · exact ⟨o, by rw [at_ a z (ne_of_none e hc)]; exact e⟩
  refine ⟨⟨fun a o e => ?_, s.off, s.nd, s.len, fun n d a h1 h2 => ?_, fun p hp => ?_, fun a us e => ?_, s.tg⟩, ⟨fun _ _ e => e, List.prefix_rfl, fun a o e _ nt => keep a o e nt, fun _ _ e => .inl e, fun a h => .inl h, fun a ha => ?_, fun a us e => ?_⟩⟩
  · have e1 := s.sub a o e
    by_cases nt : NT o
    · exact keep a o e1 nt
    · cases o with
      | tbl us =>
        obtain ⟨q', h'⟩ := s.ta a us e1
        have z := s.tg _ h'
        rw [e] at z; cases z
      | _ => exact absurd (fun us z => nomatch z) nt
  · have ha : a ∈ φ := List.mem_of_getElem? h2
    obtain ⟨o, ho⟩ := s.there ha
    refine (s.cell n d a h1 h2).keep (fun _ _ e => e) List.prefix_rfl (fun u e => keep a u e fun us z => offP a ha ?_) fun dx e e1 e2 => ⟨keep dx _ e fun us z => (nomatch z), e2, e1⟩
    subst z
    exact absurd (s.cell_nt h2 us e) id
  · obtain ⟨us, e1, e2, e3⟩ := s.tb p hp
    by_cases z : p.1 = P
    · have eq := hu p hp z
      refine ⟨qs, by rw [z]; exact atP, ht, fun pos cv hcv => ?_⟩
      rw [eq]
      rcases hk pos cv hcv with ⟨c', h1, h2⟩ | h1
      · exact ⟨c', h1, keep c' _ h2 codeO_ne⟩
      · exact ⟨c, h1, upd_same⟩
    · refine ⟨us, by rw [at_ p.1 z (ne_of_none e1 hc)]; exact e1, e2, fun pos cv hcv => ?_⟩
      obtain ⟨c', h1, h2⟩ := e3 pos cv hcv
      exact ⟨c', h1, keep c' _ h2 codeO_ne⟩
  · by_cases z : a = c
    · subst z; rw [upd_same] at e; exact absurd (Option.some.inj e) (codeO_ne us)
    · by_cases z2 : a = P
      · subst z2; exact s.ta a ps hP
      · rw [at_ a z2 z] at e; exact s.ta a us e
  · obtain ⟨o, ho⟩ := s.there ha
    exact hex a o ho
  · by_cases z : a = P
    · subst z; exact ⟨qs, atP⟩
    · exact ⟨us, by rw [at_ a z (ne_of_none e hc)]; exact e⟩
end

section
variable {X : Cx} {pins : List (Addr × Obj)} {σ : L2.St} {H : Hp} {s : Shared}
/-- a lambda is made: told in full -/
theorem lam_new {c P : Addr} {params : Arguments} {body : Expr} {scope : Scope} {pos : Pos} {E : Value → Shared → Prop} {Q : Value → Shared → Prop} {ps : Array Value} (I : Inv X pins σ H s) (B : TabB X.base X.mg c P) (hcode : X.env.code = .ref c)
    (hP : H P = some (.tbl ps)) (ht : TriplesOk ps.toList) (hk : ∀ (p' : Pos) (cv : Value), codeAmong p' ps.toList = some cv → ∃ c', cv = .ref c' ∧ H c' = some (CodeO c' (X.env.qual ++ "<lambda>")))
    (hdef : defaultsOf params X.env = ([], [])) (hfree : ∀ y ∈ scope.names, y.2 = .free → ∃ c, X.env.cells.lookup y.1 = some c)
    (h : ∀ (f c' : Addr) (pm ctv : Value) (H1 : Hp) (s' : Shared), Inv X pins σ H1 s' → (H1 = H ∨ (H c' = none ∧ H1 = upd (upd H P (.tbl (ps ++ #[rawInt pos.line, rawInt pos.col, .ref c']))) c' (CodeO c' (X.env.qual ++ "<lambda>")))) →
      s'.heap.get? f = some (PySem.W.kla_obj "<lambda>" (X.env.qual ++ "<lambda>") params body scope (cloFrom X.env.cells scope.names []) pm c' ctv) → H1 f = none → f ∉ frs X.stack → H1 c' = some (CodeO c' (X.env.qual ++ "<lambda>")) → Q (.ref f) s') :
    wpAny (model X.prog X.w) X.A (eval (.Lambda params body scope pos) X.env) Q E s := by
  have inP := I.hok P _ hP
  have offS : ∀ f, s.heap.objs.size ≤ f → f ∉ frs X.stack := fun f le hm => (List.mem_cons.mp (I.stkSub f hm)).elim (fun e => absurd I.lt (by rw [← e]; exact Nat.not_lt.mpr le)) (I.nofs le)
  have bP := B.bm.keeps I.bk
  have code := B.code.keeps I.bk
  have ns := I.mod.glob.keeps I.bk
  have gl := I.ok.glob
  refine PySem.W.kla_eval hdef ?_
  rcases q : codeAmong pos ps.toList with _ | cv
  · refine PySem.W.kla_makeFunction (c := c) (P := P) (ps := ps) (closure_ok hfree) gl ns hcode code inP ht q B.gP bP fun c' ctv h' tk grow ge lt rec tb => ?_
    obtain ⟨c2, oc, vs, t, ec, hoc, hd, hv⟩ := rec
    cases ec
    have le : s.heap.objs.size ≤ h'.objs.size := Nat.le_of_lt (Nat.lt_of_le_of_lt ge lt)
    have freshC : H c' = none := I.hok.fresh ge
    let o := PySem.W.kla_obj "<lambda>" (X.env.qual ++ "<lambda>") params body scope (cloFrom X.env.cells scope.names []) ((X.mg "__name__").getD .none) c' ctv
    have J := inv_table (h' := h'.push o) (t' := tk) (more := #[rawInt pos.line, rawInt pos.col, .ref c']) I hP (fun b u nb e => Heap.get?_push_of_some _ (grow b u nb e)) (Heap.get?_push_of_some _ tb) ge ⟨oc, vs, t, Heap.get?_push_of_some _ hoc, hd, hv⟩
    refine h _ _ _ _ _ _ J (.inr ⟨freshC, rfl⟩) (Heap.get?_push_size _ rfl) ?_ (offS _ le) upd_same
    have neP : h'.objs.size ≠ P := fun z => absurd (Nat.lt_of_lt_of_le (Heap.lt_size inP) le) (by rw [z]; exact Nat.lt_irrefl _)
    rw [upd_ne (fun z => absurd lt (by rw [z]; exact Nat.lt_irrefl _)), upd_ne neP]
    exact I.hok.fresh le
  · obtain ⟨c', rfl, hc⟩ := hk pos cv q
    refine PySem.W.kla_makeFunctionHit (c := c) (P := P) (ps := ps) (closure_ok hfree) gl ns hcode code inP ht q bP fun ctv h' tk grow le => ?_
    let o := PySem.W.kla_obj "<lambda>" (X.env.qual ++ "<lambda>") params body scope (cloFrom X.env.cells scope.names []) ((X.mg "__name__").getD .none) c' ctv
    have J : Inv X pins σ H { s with heap := h'.push o, toks := tk } := I.kept fun b u e => Heap.get?_push_of_some _ (grow b u e)
    exact h _ _ _ _ _ _ J (.inl rfl) (Heap.get?_push_size _ rfl) (I.hok.fresh le) (offS _ le) hc
/-- a(), a the lambda, in the def that got it -/
theorem lam_act {CXg : CXT} {Eg : XK} {Ng : List Str} {qg : Str} {sg : Scope} {g f c' : Addr} {cdg pm ctv : Value} {params : Arguments} {body : Expr} {scope : Scope} {k : Nat} {a : Str} {tb : TE} {p1 p2 : Pos} {s1 : Shared} {H1 : Hp}
    (I : Inv X pins σ H1 s1) (L : LamS X.env.scope scope) (hf : s1.heap.get? f = some (PySem.W.kla_obj "<lambda>" (X.env.qual ++ "<lambda>") params body scope (cloFrom X.env.cells scope.names []) pm c' ctv)) (hfn : H1 f = none) (hfr : f ∉ frs X.stack)
    (hbind : bindArgs (PySem.W.kla_fn "<lambda>" (X.env.qual ++ "<lambda>") params body scope (cloFrom X.env.cells scope.names []) pm (.ref c') ctv) ⟨[], []⟩ = pure [])
    (hr : RG (k + 1) (X.A.deeper (envOfC qg sg s1.heap.objs.size g cdg)))
    (hbody : ∀ (A : Around) (outer : List PySem.Env) (s : Shared) (H : Hp), RG k (A.deeper (lamEnv X scope s.heap.objs.size f c')) → PE (lamCx X A outer s H C8.E0 scope f c') body tb)
    (hN : Ng[0]? = some a) (hv : Vis sg a) (hd : (a == ("__debug__" : Str)) = false := by decide) (hcd : (a == ("__classdict__" : Str)) = false := by decide) :
    PE (cxOf CXg X.prog X.w X.K X.mg X.base Ng qg sg g cdg X.A X.stack s1 H1 Eg).nox (.Call (.Name a p1) [] [] p2)
      (fun σZ HZ Q => σZ[0]? = some (some (.ref f)) ∧ HZ c' = some (CodeO c' (X.env.qual ++ "<lambda>")) ∧ tb σ HZ Q) := by
  refine ⟨fun pinsZ sZ σZ HZ Q IZ ⟨hs, hc, ht⟩ => ?_⟩
  refine wpAny_Call_Name_kw (thn ((pe_var (pos := p1) (i := 0) hN hv hd hcd).run pinsZ sZ σZ HZ (fun v H' => v = .ref f ∧ H' = HZ) IZ ⟨.ref f, hs, rfl, rfl⟩) fun u s2 ⟨v, H2, I2, rv, ev, eH⟩ => ?_)
  subst ev eH
  cases rv
  have fo := I2.base.keep f _ hf hfn hfr fun z => nomatch (show f ∈ ([] : List Addr) from z)
  refine PySem.W.callWith_F0 ⟨_, _, _, _, fo⟩ ?_
  obtain ⟨⟨oc, vs, t, ho, hdat, hnm⟩, _, _⟩ := I2.hok c' _ hc
  have rc : codeAny (model X.prog X.w) (X.A.deeper (envOfC qg sg s1.heap.objs.size g cdg)) (.call (.ref f) ⟨[], []⟩) (CR (L2.CX X.prog X.w) (envOfC qg sg s1.heap.objs.size g cdg :: X.stack) X.prog X.w H2 s2 Q C8.E0) s2 := by
    refine PySem.W.kla_callFunE hr.rm.depth fo rfl L.co L.gen rfl ⟨c', oc, vs, t, rfl, ho, hdat, hnm⟩ ?_
    rw [hbind]
    refine wpAny_pure (wpAny_newFunctionEnv (fun y hy => (L.own y hy).2) (fun y hy => nomatch hy) (fun h₁ hns lay => ⟨I2.nolimit.fresh _ lay, ?_⟩) L.kind)
    have J := lam_start2 (A := X.A.deeper (envOfC qg sg s1.heap.objs.size g cdg)) (outer := envOfC qg sg s1.heap.objs.size g cdg :: X.stack) (f := f) (c' := c') (E := C8.E0) (tk := s2.toks + ([] : List (Str × Value)).length) I L I2.env0 hr.rm.hd (show Un (frs X.stack) [] H1 H2 s1.heap s2.heap from I2.base) hns fun b o e => lay.extBut b o (Nat.ne_of_lt (Heap.lt_size e)) (Heap.get?_push_of_some _ e)
    refine PySem.W.kla_codeExpr (wpAny_mono ((hbody _ _ s2 H2 (hr.deeper _)).run [] _ _ H2 Q J ht) (fun v s' ⟨w', H', J', rv, z⟩ => ⟨w', H', J'.os, J'.bare, J'.base, J'.hok, rv, z⟩) fun e s' z => z)
  refine wpAny_call (codeAny_mono rc fun r s' z => ?_)
  match r, z with
  | .error _, ⟨_, _, _, _, _, _, _, _, _, _, _, _, z⟩ => exact False.elim z
  | .ok (.ret _), z => exact I2.after z
end
/-- try: .., where no exception comes -/
theorem ps_through {X : Cx} {body : List Stmt} {h₀ : ExceptHandler} {hs : List ExceptHandler} {pos : Pos} {t : TS} (hx : ∀ e s, ¬ X.xe e s) (hb : PSs X body t) : PS X (.Try body (h₀ :: hs) [] [] pos) t := by
  refine ⟨fun pins s σ H D I h => wpAny_Try_except (wpAny_mono (hb.run pins s σ H D I h) (fun f s1 z => ?_) fun e s1 z => (hx e s1 z).elim)⟩
  cases f with
  | next => exact wpAny_execs_nil z
  | brk => exact z
  | cont => exact z
  | ret u => exact z
/-- a def's run, from its very state -/
theorem run_g {P : Program} {w : World} {K : PySem.W.Frag} {mg : Str → Option Value} {base : Heap} {k : Nat} {x qual : Str} {st : Stmt} {f : Addr} {fd : FuncData} {N ps : List Str} {A : Around} {outer : List PySem.Env} {s : Shared} {H : Hp} {args : Args} {us : List Value} {vs : List V} {Q : VK} {E : XK}
    (F : Fun K x qual st f fd) (S : FnScope N ps (defScope st)) (hl : vs.length = ps.length) (r : RG (k + 1) A) (e0 : Env0 P w K mg base A outer s H) (b : BindsTo s fd args (ps.zip us)) (rv : Vals vs us)
    (hb : ∀ cdv : Value, cdv = fd.code → RG k (A.deeper (envOfC qual (defScope st) s.heap.objs.size f cdv)) → ∃ t, PSs (cxOf C8.CX0 P w K mg base N qual (defScope st) f cdv A outer s H E).nox (defBody st) t ∧ t { nx := fun _ H' => Q .non H', rt := Q } (L2.start N vs) H) :
    codeAny (model P w) A (.call (.ref f) args) (CR C8.CX0 outer P w H s Q E) s := by
  obtain ⟨oc, od, kV, doc, pm, an, cdv, ct, osl, rfl, lk, hcd⟩ := F.ex
  have inH : K.In s.heap := e0.mod.kin.keeps fun a u z => (e0.bs a u z).1
  have nl : s.heap.NoLimit := e0.mod.nolimit.keeps fun a u z => (e0.bs a u z).1
  refine codeAny_call_function r.rm.depth (inH _ _ lk) rfl S.co S.gen rfl (PySem.W.codeRec_of inH hcd) (b _ _ _ _ ?_)
  refine wpAny_newFunctionEnv_cells S.kind (fun ⟨n, v⟩ hy => (S.par n (List.of_mem_zip hy).1).imp id fun z => ⟨z, PySem.W.cellsFrom_some _ _ _ (.inl z)⟩) fun env he s1 lay => ?_
  subst he
  obtain ⟨t, ht, hq⟩ := hb cdv rfl (r.deeper _)
  have I := inv_start (CX := C8.CX0) (E := E) (qual := qual) S r.rm.hd e0 hl rv lay
  refine ⟨nl.keeps lay.toInCall.keep, codeAny_func (wpAny_mono (ht.nox.run [] s1 _ H _ I hq) (fun fl s' z => ?_) fun e s' z => z)⟩
  match fl, z with
  | .ret u, ⟨v, _, H', J, rv', z⟩ => exact ⟨v, H', J.os, J.bare, J.base, J.hok, rv', z⟩
  | .next, ⟨_, H', J, z⟩ => exact ⟨.non, H', J.os, J.bare, J.base, J.hok, rfl, z⟩
  | .brk, ⟨_, _, _, z⟩ => exact False.elim z
  | .cont, ⟨_, _, _, z⟩ => exact False.elim z
/-- what the def told gives of the lambda's value: a pair of 0 and what is read of it -/
def eTold (ff : F) (ea : E) : E := fun r st => (ea r st).bind fun y => (ff [y.1] y.2).bind fun z => some (.tup [.int 0, z.1], z.2)
theorem se_told {X : Cx} {cl : Cl} {x a rd : Str} {c P : Addr} {k kr : Nat} {st : Stmt} {Ng : List Str} {params : Arguments} {body : Expr} {scope : Scope} {h₀ : ExceptHandler} {hs : List ExceptHandler} {ff : F} {ea : E} {j m : _} {p lpos pos p1 p2 p3 p4 p5 p6 p7 p8 : Pos}
    (D : DefAt X.K X.mg x st [a]) (S : FnScope Ng [a] (defScope st))
    (hst : defBody st = [.Try [.Return (some (.Tuple [.Constant (.int 0) j p1, .Call (.Name rd p2) [.Call (.Name a p3) [] [] p4] [] p5] m p6)) p7] (h₀ :: hs) [] [] p8])
    (hrd : (defScope st).names.lookup rd = some .globalImplicit) (R : FunOk X.prog X.w X.K X.mg X.base cl kr 1 rd ff) (hkr : kr ≤ k + 1)
    (hNg : Ng[0]? = some a) (hva : Vis (defScope st) a)
    (B : TabB X.base X.mg c P) (hcode : X.env.code = .ref c) (hmT : (P, X.env.qual ++ "<lambda>") ∈ cl.tab) (hu : ∀ p ∈ cl.tab, p.1 = P → p.2 = X.env.qual ++ "<lambda>") (hr : RG (k + 2) X.A) (L : LamS X.env.scope scope)
    (hbody : ∀ (A : Around) (outer : List PySem.Env) (s : Shared) (H : Hp) (f c' : Addr), RG k (A.deeper (lamEnv X scope s.heap.objs.size f c')) → SE (lamCx X A outer s H C8.E0 scope f c').nox cl body ea)
    (hg : Gl X x) (hdef : defaultsOf params X.env = ([], []))
    (hbind : ∀ (q : Str) (cl : List (Str × Addr)) (pm cv ctv : Value), bindArgs (PySem.W.kla_fn "<lambda>" q params body scope cl pm cv ctv) ⟨[], []⟩ = pure [])
    (hdb : (x == ("__debug__" : Str)) = false := by decide) (hdr : (rd == ("__debug__" : Str)) = false := by decide) (hd : (a == ("__debug__" : Str)) = false := by decide) (hcd : (a == ("__classdict__" : Str)) = false := by decide) :
    SE X cl (.Call (.Name x p) [.Lambda params body scope lpos] [] pos) (eTold ff ea) := by
  refine ⟨fun pins s σ H Q I h => ?_⟩
  obtain ⟨Γ, φ, st0, r, d, st', sm, en, h, q⟩ := h
  unfold eTold at h
  obtain ⟨y, he, h⟩ := Option.bind_eq_some_iff.mp h
  obtain ⟨z, hf, h⟩ := Option.bind_eq_some_iff.mp h
  cases h
  obtain ⟨g, fd, hF, hm, hk, hb⟩ := D.ex
  obtain ⟨ra, rfd, rps, hrm, hrk, hrb, hR⟩ := R.ex
  obtain ⟨ps, hP, ht, hkn⟩ := sm.tb _ hmT
  refine wpAny_Call_Name_kw (ld_glob I hg hm ?_ hdb)
  refine PySem.W.callWith_K (h₀ := X.base) I.ok.mod.kin hk ?_ (by rfl) (by rfl)
  show wpAny _ _ (spliced ((false, eval (.Lambda params body scope lpos) X.env) :: backTo pos (starEach [] X.env))) _ _ s
  refine Calls.spliced_cons (lam_new I B hcode hP ht hkn hdef (L.has I.ok) fun f c' pm ctv H1 s1 I1 hH hlf hfn hfr hco => ?_)
  have step : Sim (cf X cl) Γ H1 φ st0 ∧ Ext Γ H φ Γ H1 φ := by
    rcases hH with e | ⟨hc, e⟩
    · subst e; exact ⟨sm, .refl sm⟩
    · subst e
      refine sm.grown (q := X.env.qual ++ "<lambda>") hP hu hc ?_ fun p' cv hcv => ?_
      · rw [show (ps ++ #[rawInt lpos.line, rawInt lpos.col, .ref c']).toList = ps.toList ++ [rawInt lpos.line, rawInt lpos.col, .ref c'] by simp]
        exact PySem.TriplesOk_snoc _ _ _ _ ht
      · rw [show (ps ++ #[rawInt lpos.line, rawInt lpos.col, .ref c']).toList = ps.toList ++ [rawInt lpos.line, rawInt lpos.col, .ref c'] by simp] at hcv
        exact (among_app _ ht hcv).imp (hkn p' cv) id
  obtain ⟨sm1, x1⟩ := step
  refine Calls.spliced_nil ⟨I1.kIn, ?_⟩
  have rc : codeAny (model X.prog X.w) X.A (.call (.ref g) ⟨[.ref f], []⟩) (CR C8.CX0 X.stack X.prog X.w H1 s1 Q C8.E0) s1 := by
    refine run_g (N := Ng) (ps := [a]) (us := [.ref f]) (vs := [.ref f]) hF S rfl hr I1.env0 ?_ (.cons rfl .nil) fun cdv _ hr1 => ?_
    · have := hb s1 [.ref f] I1.kIn rfl
      simpa using this
    have act := lam_act (CXg := C8.CX0) (Eg := C8.E0) (Ng := Ng) (qg := x) (sg := defScope st) (g := g) (cdg := cdv) (p1 := p3) (p2 := p4) (tb := tD (cf X cl) ea) I1 L hlf hfn hfr (hbind _ _ _ _ _) hr1 (fun A outer s H hr2 => (hbody A outer s H f c' hr2).nox) hNg hva hd hcd
    have rdc := pe_callG (X := (cxOf C8.CX0 X.prog X.w X.K X.mg X.base Ng x (defScope st) g cdv X.A X.stack s1 H1 C8.E0).nox) (E := C8.E0) (p := p2) (pos := p5) (hR.mono hkr) hr1 hrd hrm hrk hrb (pa_cons act pa_nil) hdr
    have tp := pe_tup (pos := p6) (x1 := m) (pa_cons (pe_int (i := 0) (j := j) (pos := p1)) (pa_cons rdc pa_nil))
    rw [hst]
    refine ⟨_, pss_one (ps_through (pos := p8) (h₀ := h₀) (hs := hs) (fun e s z => z) (pss_one (ps_ret (pos := p7) tp))), ?_⟩
    refine ⟨rfl, hco, Γ, φ, st0, r, y.1, y.2, sm1, x1.env en, he, fun Γ2 H2 φ2 v x2 s2 i2 => ⟨rfl, Γ2, φ2, y.2, [y.1], z.1, z.2, s2, .cons i2 .nil, hf, fun Γ3 H3 φ3 v2 x3 s3 i3 => ⟨?_, fun pp hp => ?_⟩⟩⟩
    · show (2 : Nat) ≤ sizeLine
      decide
    · obtain ⟨s4, x4⟩ := s3.frozen (o := .tup [.int 0, v2]) hp
      exact q _ _ _ _ (x1.trans (x2.trans (x3.trans x4))) s4 (.tup upd_same (.cons (.int 0) (.cons (x4.is i3) .nil)))
  refine wpAny_call (codeAny_mono rc fun r s2 hq => ?_)
  match r, hq with
  | .error _, hq => exact (show False from hq).elim
  | .ok (.ret _), hq => exact I1.after hq
end EV
/-! EV.18: the end of a law, where tables of code objects are spoken of. -/
namespace EV
open PySem PySem.Spec PyProof.Rows L2 LamX
/-- the script and the tables, nothing else -/
def OnlyT (ts : List Addr) (H : Hp) : Prop := (∀ P ∈ ts, H P = some (.tbl #[])) ∧ ∀ b, H b = none ∨ b ∈ ts ∨ ∃ o xs, H b = some (.frz o (.lst xs))
/-- what is known of the code object at p.1 and its table at p.2 -/
structure TabAt (K : PySem.W.Frag) (h : Heap) (p : Addr × Addr) : Prop where
  obj : h.get? p.2 = some (PySem.W.tabObj #[])
  off : K.lookup p.2 = none
  code : PySem.W.CodeHd h p.1 p.2
theorem g_lawT {P : Program} {w : World} {K : PySem.W.Frag} {mg mb : Str → Option Value} {k : Nat} {fa a : Addr} {fd : FuncData} {x : Str} {sp : Sp} {s₁ : Shared} {vs : List Value} {ns : List Int} {cs : List (Addr × Addr)} (inH : K.In s₁.heap) (nsG : s₁.heap.Ns mainGlobals mg)
    (nsB : s₁.heap.Ns builtinsNs mb) (boot : ∀ y : Str, y ≠ "__name__" → mb y = bootBuiltins y) (nl : s₁.heap.NoLimit) (gens : s₁.gens = #[]) (T : ∀ p ∈ cs, TabAt K s₁.heap p)
    (hbm : ∃ (bm : Addr) (ob : Obj), mg "__builtins__" = some (.ref bm) ∧ bm ≠ builtinsNs ∧ s₁.heap.get? bm = some ob ∧ ob.cls = .type "module" ∧ ob.dict = some builtinsNs ∧ ob.data = .plain)
    (ha : s₁.heap.get? a = some { cls := .type "list", data := .seq vs.toArray }) (hi : IntsAre vs ns)
    (hl : ns.length ≤ sizeLine) (r : RG k callerA) (F : ∀ base : Heap, K.In base → base.Ns mainGlobals mg → (∀ p ∈ cs, TabB base mg p.1 p.2) → FnG P w K mg base k fa fd [x] sp) (hbind : ∀ (s : Shared) (u : Value), BindsTo s fd ⟨[u], []⟩ [(x, u)])
    (hsp : ∀ H : Hp, OnlyT (cs.map (·.2)) H → SqL K H a (ns.map V.int) → sp [.ref a] H (fun v _ => v = .bl true) fun _ _ _ => False) :
    codeAny (model P w) callerA (.call (.ref fa) ⟨[.ref a], []⟩) (fun r s' => r = .ok (.ret (.bool true)) ∧ OldK s₁.heap s'.heap ∧ s'.os = s₁.os ∧ AllBare s'.gens) s₁ := by
  have isT : ∀ b ∈ cs.map (·.2), ∃ c, (c, b) ∈ cs := fun b hb => by
    obtain ⟨⟨c, b'⟩, hp, rfl⟩ := List.mem_map.mp hb
    exact ⟨c, hp⟩
  have aT : a ∉ cs.map (·.2) := fun z => by
    obtain ⟨c, hp⟩ := isT a z
    have q := (T _ hp).obj
    rw [ha] at q
    have q := congrArg Obj.data (Option.some.inj q)
    cases q
  have tail : ∀ H : Hp, OnlyT (cs.map (·.2)) H → SqL K H a (ns.map V.int) → HOk P w H s₁.heap → (∀ b, H b ≠ none → b = a ∨ b ∈ cs.map (·.2)) → (H a ≠ none → K.lookup a = none) →
      codeAny (model P w) callerA (.call (.ref fa) ⟨[.ref a], []⟩) (fun r s' => r = .ok (.ret (.bool true)) ∧ OldK s₁.heap s'.heap ∧ s'.os = s₁.os ∧ AllBare s'.gens) s₁ := by
    intro H only hS hok alone offK
    -- what is neither a row nor a bare table is out of sight
    have dark : ∀ {b : Addr} {o : Obj}, s₁.heap.get? b = some o → (∀ l n, o.data ≠ .seq l n) → o.data ≠ .fields #[] → H b = none := fun {b o} e n1 n2 => by
      cases q : H b with
      | none => rfl
      | some u =>
        rcases alone b (by rw [q]; exact Option.some_ne_none u) with z | z
        · subst z
          rw [ha] at e; cases e
          exact absurd rfl (n1 _ _)
        · obtain ⟨c, hp⟩ := isT b z
          have q2 := (T _ hp).obj
          rw [e] at q2; cases q2
          exact absurd rfl n2
    have seen : ∀ {b : Addr} {o : Obj}, s₁.heap.get? b = some o → (∀ l n, o.data ≠ .seq l n) → o.data ≠ .fields #[] → (hidT s₁.heap H).get? b = some o := fun e n1 n2 => hidT_get e (dark e n1 n2)
    have out : ∀ {b : Addr} {m : Str → Option Value}, s₁.heap.Ns b m → (hidT s₁.heap H).Ns b m := fun {b m} ⟨o, es, ep, e, d, z⟩ =>
      ⟨o, es, ep, seen e (fun l n y => by rw [d] at y; cases y) (fun y => by rw [d] at y; cases y), d, z⟩
    have inB : K.In (hidT s₁.heap H) := fun b o e => by
      refine hidT_get (inH b o e) ?_
      cases q : H b with
      | none => rfl
      | some u =>
        have nn : H b ≠ none := by rw [q]; exact Option.some_ne_none u
        rcases alone b nn with z | z
        · subst z
          rw [offK nn] at e; cases e
        · obtain ⟨c, hp⟩ := isT b z
          have q2 := (T _ hp).off
          rw [q2] at e; cases e
    have TB : ∀ p ∈ cs, TabB (hidT s₁.heap H) mg p.1 p.2 := fun p hp => by
      have t := T p hp
      refine ⟨?_, ?_, fun z => ?_⟩
      · obtain ⟨o, us, file, tf, flags, tg, inF, text, tt, e1, r1, r2, r3, rest⟩ := t.code
        refine ⟨o, us, file, tf, flags, tg, inF, text, tt, seen e1 (fun l n y => by rw [r2] at y; cases y) (fun y => ?_), r1, r2, r3, rest⟩
        rw [r2] at y
        cases y
        simp at r3
      · obtain ⟨bm, ob, b1, b2, b3, b4, b5, b6⟩ := hbm
        refine ⟨bm, ob, b1, b2, fun q => ?_, fun q => ?_, seen b3 (fun l n y => by rw [b6] at y; cases y) (fun y => by rw [b6] at y; cases y), b4, b5, b6⟩
        · obtain ⟨o, es, ep, e, d, _⟩ := nsG
          rw [q, e] at b3
          cases b3
          rw [d] at b6; cases b6
        · have y := t.obj
          rw [← q, b3] at y
          cases y
          cases b6
      · obtain ⟨o, es, ep, e, d, _⟩ := nsG
        have y := t.obj
        rw [← z, e] at y
        cases y
        cases d
    obtain ⟨mc, n1, n2⟩ := nl
    have e0 : Env0 P w K mg (hidT s₁.heap H) callerA [] s₁ H := by
      refine ⟨rfl, ⟨inB, out nsG, ⟨mb, out nsB, boot⟩, ⟨mc, out n1, n2⟩⟩, fun b o e => of_hidT e, Nat.le_of_eq (hidT_size _ _), trivial, fun b hb => ?_, hok, .of_eq gens⟩
      cases hb
    have run := (F _ inB (out nsG) TB).go callerA [] s₁ H ⟨[.ref a], []⟩ [.ref a] [.ref a] _ _ r e0 (hbind s₁ (.ref a)) (.cons rfl .nil) (hsp H only hS)
    refine codeAny_mono run fun res s' z => ?_
    match res, z with
    | .error _, z => exact False.elim z
    | .ok (.ret u), z =>
      obtain ⟨v, H', os, bare, un, hok', rv, rfl⟩ := z
      cases rv
      have same : ∀ b o, b ∉ cs.map (·.2) → s₁.heap.get? b = some o → s'.heap.get? b = some o := fun b o nb e => by
        cases q : H b with
        | none => exact un.keep b o e q (fun z => by cases z) (fun z => by cases z)
        | some u =>
          rcases only.2 b with z | z | ⟨ob, xs, z⟩
          · rw [q] at z; cases z
          · exact absurd z nb
          · have old := (hok b _ z).1
            have new := (hok' b _ (un.frzs b ob _ z)).1
            rw [e] at old
            cases old
            exact new
      have tabs : ∀ p ∈ cs, ∃ more : Array Value, s'.heap.get? p.2 = some { cls := .none, data := .fields more } := fun p hp => by
        obtain ⟨more, z⟩ := un.tbls p.2 #[] (only.1 _ (List.mem_map.mpr ⟨p, hp, rfl⟩))
        exact ⟨_, hok' _ _ z⟩
      refine ⟨rfl, ⟨fun b o e => ?_, fun b o e => ?_⟩, os, bare⟩
      · by_cases hb : b ∈ cs.map (·.2)
        · obtain ⟨c, hp⟩ := isT b hb
          have t := T _ hp
          obtain ⟨more, hm⟩ := tabs _ hp
          have y := t.obj
          rw [e] at y
          cases y
          exact .inr (.inl ⟨(t.code.tab t.obj).isCodeTable, rfl, #[], more, rfl, by rw [Array.empty_append]; exact hm⟩)
        · exact .inl (same b o hb e)
      · by_cases hb : b ∈ cs.map (·.2)
        · obtain ⟨c, hp⟩ := isT b hb
          obtain ⟨more, hm⟩ := tabs _ hp
          exact ⟨_, hm⟩
        · exact ⟨o, same b o hb e⟩
  have lenV : vs.length = ns.length := hi.length
  have rel : Vals (ns.map V.int) vs := vals_ints hi
  rcases hk : K.lookup a with _ | o
  · let H : Hp := fun b => if b = a then some (.frz { cls := .type "list", data := .seq vs.toArray } (.lst (ns.map V.int))) else if b ∈ cs.map (·.2) then some (.tbl #[]) else none
    have atA : H a = some (.frz { cls := .type "list", data := .seq vs.toArray } (.lst (ns.map V.int))) := if_pos rfl
    have atT : ∀ b ∈ cs.map (·.2), H b = some (.tbl #[]) := fun b hb => (if_neg (show ¬ b = a from fun z => aT (by rw [← z]; exact hb))).trans (if_pos hb)
    have at0 : ∀ b, b ≠ a → b ∉ cs.map (·.2) → H b = none := fun b h1 h2 => (if_neg h1).trans (if_neg h2)
    refine tail H ⟨atT, fun b => ?_⟩ (.inl (.inr ⟨_, atA⟩)) (fun b u z => ?_) (fun b z => ?_) fun _ => hk
    · by_cases h1 : b = a
      · subst h1; exact .inr (.inr ⟨_, _, atA⟩)
      · by_cases h2 : b ∈ cs.map (·.2)
        · exact .inr (.inl h2)
        · exact .inl (at0 b h1 h2)
    · by_cases h1 : b = a
      · subst h1
        rw [atA] at z; cases z
        exact ⟨ha, by rw [List.length_map]; exact hl, vs, _, rel, ha⟩
      · by_cases h2 : b ∈ cs.map (·.2)
        · rw [atT b h2] at z; cases z
          obtain ⟨c, hp⟩ := isT b h2
          exact (T _ hp).obj
        · rw [at0 b h1 h2] at z; cases z
    · by_cases h1 : b = a
      · exact .inl h1
      · by_cases h2 : b ∈ cs.map (·.2)
        · exact .inr h2
        · exact absurd (at0 b h1 h2) z
  · have e := inH a o hk
    rw [ha] at e
    cases e
    let H : Hp := fun b => if b ∈ cs.map (·.2) then some (.tbl #[]) else none
    have atT : ∀ b ∈ cs.map (·.2), H b = some (.tbl #[]) := fun b hb => if_pos hb
    have at0 : ∀ b, b ∉ cs.map (·.2) → H b = none := fun b h2 => if_neg h2
    refine tail H ⟨atT, fun b => ?_⟩ (.inr ⟨_, vs.toArray, _, hk, rfl, rfl, rfl, ?_, by simpa using rel⟩) (fun b u z => ?_) (fun b z => ?_) fun z => absurd (at0 a aT) z
    · by_cases h2 : b ∈ cs.map (·.2)
      · exact .inr (.inl h2)
      · exact .inl (at0 b h2)
    · rw [List.size_toArray, lenV]
      exact hl
    · by_cases h2 : b ∈ cs.map (·.2)
      · rw [atT b h2] at z; cases z
        obtain ⟨c, hp⟩ := isT b h2
        exact (T _ hp).obj
      · rw [at0 b h2] at z; cases z
    · by_cases h2 : b ∈ cs.map (·.2)
      · exact .inr h2
      · exact absurd (at0 b h2) z
/-- from the law's promise to the walk that the head asks for -/
theorem walk_gT {l : PySem.W.OpenLaw} {n k : Nat} {q : Program} {loose : List Str} {XP : (Str → Option Value) → Heap → Prop} {YP : World → Heap → Prop} {d : DefRec} {K : Params → PySem.W.Frag} {x : Str} (hn : l.most = some n) (hn2 : n ≤ sizeLine) (hdf : d.params.defaults = [])
    (r : RG k callerA) (hY : ∀ (w : World) (h : Heap), YP w h → (K w.params).In h)
    (F : ∀ (w : World) (mg : Str → Option Value) (fa : Addr) (h : Heap), (K w.params).In h → h.Ns mainGlobals mg → mg d.name = some (.ref fa) →
      ∃ (fd : FuncData) (cs : List (Addr × Addr)) (sp : Sp),
        ((∀ (y : Str) (e : DefRec) (c P : Addr), (recsOf q).find? (fun e => e.name == y) = some e → PySem.W.tabIn (K w.params) y = some (c, P) → PySem.W.CodeHd h c P ∧ h.get? P = some (PySem.W.tabObj #[])) → ∀ p ∈ cs, TabAt (K w.params) h p) ∧
        (∀ (s : Shared) (u : Value), BindsTo s fd ⟨[u], []⟩ [(x, u)]) ∧
        (∀ (H : Hp) (a : Addr) (ns : List Int), ns.length ≤ n → OnlyT (cs.map (·.2)) H → SqL (K w.params) H a (ns.map V.int) → sp [.ref a] H (fun v _ => v = .bl true) fun _ _ _ => False) ∧
        ∀ base : Heap, (K w.params).In base → base.Ns mainGlobals mg → (∀ p ∈ cs, TabB base mg p.1 p.2) → FnG l.prog w (K w.params) mg base k fa fd [x] sp) :
    PySem.W.WalkO q loose XP YP l.row.toRowW d [] (fun f vs => PySem.call f vs) := by
  refine Att.attach_call hn hdf fun w s₀ s₁ mg mb fa o pm cd doc a vs ns G Y ho hd hcd hmg hobj hints hlen hg => ?_
  obtain ⟨fd, cs, sp, hT, hb, hsp, hF⟩ := F w mg fa _ (hY w _ Y) G.T.g hmg
  exact g_lawT (hY w _ Y) G.T.g G.T.b G.T.builtins G.T.nolimit hg (hT fun y e c P h1 h2 => PySem.W.tab_of G.T (hY w _ Y) h1 h2) G.T.bmain hobj hints (Nat.le_trans hlen hn2) r hF hb fun H only hS => hsp H a ns hlen only hS
/-- the law's promise, where tables are spoken of -/
theorem law_spT {w : World} {cl : Cl} {K : PySem.W.Frag} {f : F} {n : Nat} (hf : ∀ ns : List Int, ns.length ≤ n → ∃ st, f [.scr ns] [] = some (.bl true, st)) {H : Hp} {a : Addr} {ns : List Int} (hl : ns.length ≤ n) (hO : OnlyT (cl.tab.map (·.1)) H) (hS : SqL K H a (ns.map V.int)) :
    spOf ⟨w, K, cl⟩ 1 f [.ref a] H (fun v _ => v = .bl true) fun _ _ _ => False :=
  law_sp hf hl hS (fun p hp => TabS.nil (hO.1 _ (List.mem_map.mpr ⟨p, hp, rfl⟩))) fun b ps e => by
    rcases hO.2 b with z | z | ⟨_, _, z⟩
    · rw [e] at z; cases z
    · obtain ⟨p, hp, rfl⟩ := List.mem_map.mp z
      exact ⟨p.2, hp⟩
    · rw [e] at z; cases z
end EV
/-! EV.19: is True, is False; defs whose code object is known; a def that calls itself. -/
namespace EV
open PySem PySem.Spec PyProof.Rows L2 LamX
def oIsB (b : Bool) (_ : Sto) : D → Option D
  | .bl c => some (.bl (decide (c = b)))
  | _ => some (.bl false)
theorem op_isB1 {X : Cx} (b : Bool) : OpR X (compareOp .Is) (fun x y H Q => y = .bl b ∧ Q (.bl (decide (x = .bl b))) H) := by
  intro pins s σ H x y v u Q I rx ry h
  obtain ⟨rfl, q⟩ := h
  cases ry
  by_cases e : x = .bl b
  · subst e
    cases rx
    exact wpAny_is_self rfl ⟨.bl true, H, I, rfl, by simpa using q⟩
  · have q' : Q (.bl false) H := by simpa [e] using q
    cases x with
    | bl c => cases rx; exact wpAny_is_other rfl (fun z => e (by cases z; rfl)) ⟨.bl false, H, I, rfl, q'⟩
    | int i => obtain ⟨t, rfl⟩ := rx; exact wpAny_is_other rfl (fun z => nomatch z) ⟨.bl false, H, I, rfl, q'⟩
    | str i => obtain ⟨t, rfl⟩ := rx; exact wpAny_is_other rfl (fun z => nomatch z) ⟨.bl false, H, I, rfl, q'⟩
    | byt i => obtain ⟨t, rfl⟩ := rx; exact wpAny_is_other rfl (fun z => nomatch z) ⟨.bl false, H, I, rfl, q'⟩
    | flt i => obtain ⟨t, rfl⟩ := rx; exact wpAny_is_other rfl (fun z => nomatch z) ⟨.bl false, H, I, rfl, q'⟩
    | non => cases rx; exact wpAny_is_other rfl (fun z => nomatch z) ⟨.bl false, H, I, rfl, q'⟩
    | ref i => cases rx; exact wpAny_is_other rfl (fun z => nomatch z) ⟨.bl false, H, I, rfl, q'⟩
    | ty i => cases rx; exact wpAny_is_other rfl (fun z => nomatch z) ⟨.bl false, H, I, rfl, q'⟩
theorem isB_eq {C : Cf} {Γ : Hp} {φ : List Addr} {st : Sto} {d e : D} {v : V} {b : Bool} (i : Is C Γ φ d v) (h : oIsB b st d = some e) : e = .bl (decide (v = .bl b)) := by
  cases i with
  | bl c =>
    cases h
    by_cases q : c = b
    · subst q; simp
    · simp [q]
  | _ => cases h; rfl
section
variable {X : Cx} {cl : Cl}
theorem se_isB {a : Expr} {ea : E} {b : Bool} {j : Nat} {pos pos' : Pos} (ha : SE X cl a ea) : SE X cl (.Compare a [.Is] [.Constant (.bool b) j pos'] pos) (eUn (oIsB b) ea) := by
  refine PE.imp (pe_cmpR (op_isB1 b) ha pe_bl (nomark _)) fun σ H Q ⟨Γ, φ, st, r, d, st', s, en, h, q⟩ => ?_
  unfold eUn at h
  obtain ⟨x, h1, h⟩ := Option.bind_eq_some_iff.mp h
  obtain ⟨z, h2, h⟩ := Option.bind_eq_some_iff.mp h
  cases h
  refine ⟨Γ, φ, st, r, x.1, x.2, s, en, h1, fun Γ1 H1 φ1 v x1 s1 i1 => ⟨rfl, ?_⟩⟩
  refine q _ _ _ _ x1 s1 ?_
  rw [isB_eq i1 h2]
  exact .bl _
theorem st_isB {a : Expr} {ea : E} {b : Bool} {j : Nat} {pos pos' : Pos} (ha : SE X cl a ea) : ST X cl (.Compare a [.Is] [.Constant (.bool b) j pos'] pos) (tOf (eUn (oIsB b) ea)) := by
  refine PT.imp (pt_cmpR (op_isB1 b) ha pe_bl (nomark _)) fun σ H Q h => ?_
  obtain ⟨Γ, φ, st, r, d, st', s, en, h, q⟩ := test_of h
  unfold eUn at h
  obtain ⟨x, h1, h⟩ := Option.bind_eq_some_iff.mp h
  obtain ⟨z, h2, h⟩ := Option.bind_eq_some_iff.mp h
  cases h
  refine ⟨Γ, φ, st, r, x.1, x.2, s, en, h1, fun Γ1 H1 φ1 v x1 s1 i1 => ⟨rfl, ?_⟩⟩
  exact q Γ1 H1 φ1 (.bl (decide (v = .bl b))) x1 s1 (by rw [isB_eq i1 h2]; exact .bl _)
end
/-- a def of the module, where it stands, its code object -/
structure DefAtC (K : PySem.W.Frag) (mg : Str → Option Value) (x : Str) (st : Stmt) (ps : List Str) (c : Addr) : Prop where
  ex : ∃ (a : Addr) (fd : FuncData), Fun K x x st a fd ∧ mg x = some (.ref a) ∧ PySem.W.keepIn K (.ref a) = true ∧ L2.Binds K fd ps [] ∧ fd.code = .ref c
section
variable {P : Program} {w : World} {K : PySem.W.Frag} {mg : Str → Option Value} {base : Heap} {cl : Cl}
theorem fun_code {x qual : Str} {st : Stmt} {f c : Addr} {fd : FuncData} (F : Fun K x qual st f fd) (h : fd.code = .ref c) : ∃ (oc : Value) (od : Option Addr) (kV doc pm : Value) (an : Option Addr) (ct : Value) (osl : Array (Option Value)),
    fd = PySem.W.fnOf x qual (defArgs st) (defBody st) (defScope st) .none kV doc pm an (.ref c) ct ∧ K.lookup f = some ⟨oc, od, .func fd, osl⟩ ∧ PySem.W.codeIn K (.ref c) qual = true := by
  obtain ⟨oc, od, kV, doc, pm, an, cdv, ct, osl, rfl, lk, hcd⟩ := F.ex
  have e : cdv = .ref c := h
  subst e
  exact ⟨oc, od, kV, doc, pm, an, ct, osl, rfl, lk, hcd⟩
/-- THE RULE of a def whose code object is known -/
theorem def_okC {x qual : Str} {st : Stmt} {f c : Addr} {fd : FuncData} {N ps : List Str} {k n : Nat} {b : S} (F : Fun K x qual st f fd) (hc : fd.code = .ref c) (S : FnScope N ps (defScope st)) (hn : ps.length = n)
    (hb : ∀ (A : Around) (outer : List PySem.Env) (s : Shared) (H : Hp) (E : XK), RG k (A.deeper (envOfC qual (defScope st) s.heap.objs.size f (.ref c))) → SSs (cxOf C8.CX0 P w K mg base N qual (defScope st) f (.ref c) A outer s H E).nox cl (defBody st) b) :
    FnG P w K mg base (k + 1) f fd ps (spOf ⟨w, K, cl⟩ n (fDef n N.length b)) := by
  have hpl : ps.length ≤ N.length := by have := congrArg List.length S.pre; rw [List.length_take] at this; omega
  have num : ∀ vs H Q E, spOf ⟨w, K, cl⟩ n (fDef n N.length b) vs H Q E → vs.length = ps.length := fun vs H Q E h => by rw [hn]; exact h.1
  refine ⟨num, fun A outer s H args us vs Q E r e0 bb rv h => ?_⟩
  refine run_g (N := N) F S (num _ _ _ _ h) r e0 bb rv fun cdv hcv hr => ?_
  have ecd : cdv = .ref c := hcv.trans hc
  subst ecd
  obtain ⟨hl, Γ, φ, st0, ds, d, st', sm, i, h, q⟩ := h
  refine ⟨_, hb A outer s H E hr, ?_⟩
  unfold fDef at h
  have hds : ds.length = n := by rw [i.length]; exact hl
  rw [if_pos hds] at h
  have fin : ∀ {d1 : D} {st1 : Sto}, some (leave st0.length d1 st1) = some (d, st') → ∀ Γ' H' φ', Ext Γ H φ Γ' H' φ' → Sim ⟨w, K, cl⟩ Γ' H' φ' st1 → ∀ v, Is ⟨w, K, cl⟩ Γ' φ' d1 v → Q v H' := fun {d1 st1} e Γ' H' φ' x s v iv => by
    unfold leave at e
    split at e
    · rename_i hc
      cases e
      rw [← sm.len] at hc q
      exact q Γ' H' φ v x.forget (s.forget x.ps hc.2) (iv.back x.ps rfl hc.1)
    · cases e
      exact q Γ' H' φ' v x s iv
  have en := begin_ok (N := N) i (by rw [hds, ← hn]; exact hpl)
  cases e : b (begin_ N.length ds) st0 with
  | none => rw [e] at h; cases h
  | some z =>
    obtain ⟨o, st1⟩ := z
    rw [e] at h
    refine ⟨Γ, φ, st0, _, o, st1, sm, en, e, fun Γ' H' φ' x s => ?_⟩
    cases o with
    | next r => exact fun σ' _ _ => fin h Γ' H' φ' x s .non .non
    | ret d1 => exact fun v iv => fin h Γ' H' φ' x s v iv
    | brk r => cases h
    | cont r => cases h
theorem fun_okC {x : Str} {st : Stmt} {N ps : List Str} {k n : Nat} {b : S} {c : Addr} (F : DefAtC K mg x st ps c) (S : FnScope N ps (defScope st)) (hn : ps.length = n)
    (hb : ∀ (f : Addr) (A : Around) (outer : List PySem.Env) (s : Shared) (H : Hp) (E : XK), RG k (A.deeper (envOfC x (defScope st) s.heap.objs.size f (.ref c))) → SSs (cxOf C8.CX0 P w K mg base N x (defScope st) f (.ref c) A outer s H E).nox cl (defBody st) b) :
    FunOk P w K mg base cl (k + 1) n x (fDef n N.length b) := by
  obtain ⟨a, fd, h1, h2, h3, h4, h5⟩ := F.ex
  exact ⟨a, fd, ps, h2, h3, h4, def_okC h1 h5 S hn fun A outer s H E r => hb a A outer s H E r⟩
/-- of which nothing is said -/
def fNever : F := fun _ _ => none
theorem fun_never {x : Str} {st : Stmt} {ps : List Str} {n k : Nat} (D : DefAt K mg x st ps) (hn : ps.length = n) : FunOk P w K mg base cl k n x fNever := by
  obtain ⟨a, fd, h1, h2, h3, h4⟩ := D.ex
  refine ⟨a, fd, ps, h2, h3, h4, fun vs H Q E h => by rw [hn]; exact h.1, fun A outer s H args us vs Q E r e b rv h => ?_⟩
  obtain ⟨_, _, _, _, _, _, _, _, _, h, _⟩ := h
  cases h
end
/-- the name of a def's lambdas -/
def lamQ (x : Str) : Str := x ++ ".<locals>." ++ "<lambda>"
theorem tabAt_of {K : PySem.W.Frag} {h : Heap} {x : Str} {d c P : Addr} {oc kV dc pm ct yc : Value} {od an yd : Option Addr} {sl ys : Array (Option Value)} {ya : Array Value} {st : Stmt} (a : PySem.W.nsIn K mainGlobals x = some (some (.ref d)))
    (l : K.lookup d = some ⟨oc, od, .func (PySem.W.fnOf x x (defArgs st) (defBody st) (defScope st) .none kV dc pm an (.ref c) ct), sl⟩) (y : K.lookup c = some ⟨yc, yd, .fields ya, ys⟩) (v : ya[11]? = some (.ref P)) (n : K.lookup P = none)
    (tb : PySem.W.tabIn K x = some (c, P) → PySem.W.CodeHd h c P ∧ h.get? P = some (PySem.W.tabObj #[])) : TabAt K h (c, P) := by
  have e : PySem.W.tabIn K x = some (c, P) := by
    unfold PySem.W.tabIn
    rw [a]
    show (match K.lookup d with
      | some ⟨_, _, .func fd, _⟩ => (match fd.code with
        | .ref c => (match K.lookup c with
          | some ⟨_, _, .fields vs, _⟩ => (match (vs[11]? : Option Value) with
            | some (.ref P) => some (c, P)
            | _ => none)
          | _ => none)
        | _ => none)
      | _ => none) = _
    rw [l]
    show (match K.lookup c with
          | some ⟨_, _, .fields vs, _⟩ => (match (vs[11]? : Option Value) with
            | some (.ref P) => some (c, P)
            | _ => none)
          | _ => none) = _
    rw [y]
    show (match (ya[11]? : Option Value) with
            | some (.ref P) => some (c, P)
            | _ => none) = _
    rw [v]
  obtain ⟨h1, h2⟩ := tb e
  exact ⟨h2, n, h1⟩
/-- a table's name is one -/
theorem tab_one {T : List (Addr × Str)} (d : (T.map (·.1)).Nodup) : ∀ (P : Addr) (q : Str), (P, q) ∈ T → ∀ p ∈ T, p.1 = P → p.2 = q := by
  induction T with
  | nil => intro P q h; cases h
  | cons x T ih =>
    rw [List.map_cons, List.nodup_cons] at d
    intro P q h p hp e
    rcases List.mem_cons.mp h with h | h <;> rcases List.mem_cons.mp hp with hp | hp
    · rw [hp, ← h]
    · exact absurd (List.mem_map.mpr ⟨p, hp, by rw [e, ← h]⟩) d.1
    · exact absurd (List.mem_map.mpr ⟨(P, q), h, by rw [← e, hp]⟩) d.1
    · exact ih d.2 P q h p hp e
end EV
/-! EV.21: is True, is False; what is told; what is read. -/
namespace EV
open PySem (Str PyData)
section
variable {st : Sto} {Q : D → Prop} {i : Int} {l : List D} {b c : Bool} {s : Str}
@[simp] theorem vIsB_n : V1 (oIsB b st .non) Q ↔ Q (.bl false) := V1_some
@[simp] theorem vIsB_i : V1 (oIsB b st (.int i)) Q ↔ Q (.bl false) := V1_some
@[simp] theorem vIsB_t : V1 (oIsB b st (.tup l)) Q ↔ Q (.bl false) := V1_some
@[simp] theorem vIsB_l : V1 (oIsB b st (.lst l)) Q ↔ Q (.bl false) := V1_some
@[simp] theorem vIsB_s : V1 (oIsB b st (.str s)) Q ↔ Q (.bl false) := V1_some
@[simp] theorem vIsB_b : V1 (oIsB b st (.bl c)) Q ↔ Q (.bl (decide (c = b))) := V1_some
@[simp] theorem vIsN_b : V1 (oIsN st (.bl b)) Q ↔ Q (.bl false) := V1_some
@[simp] theorem vIsN_s : V1 (oIsN st (.str s)) Q ↔ Q (.bl false) := V1_some
@[simp] theorem vNotN_b : V1 (oNotN st (.bl b)) Q ↔ Q (.bl true) := V1_some
@[simp] theorem vNotN_s : V1 (oNotN st (.str s)) Q ↔ Q (.bl true) := V1_some
theorem vIsInt_d {d : D} (h : d.dat = true) : V1 (bIsInt st [d]) Q ↔ Q (.bl (d.ty == "int" || d.ty == "bool")) := by
  show V1 (if d.dat = true then some (.bl (d.ty == "int" || d.ty == "bool")) else none) Q ↔ _
  simp [h]
theorem vIs_d {d : D} {t : String} (h : d.dat = true) : V1 (bIs t st [d]) Q ↔ Q (.bl (d.ty == t)) := by
  show V1 (if d.dat = true then some (.bl (d.ty == t)) else none) Q ↔ _
  simp [h]
end
theorem wTold {f : F} {e : E} {r : Env} {st : Sto} {Q : D → Sto → Prop} : W (eTold f e r st) Q ↔ W (e r st) fun y st => W (f [y] st) fun z st => Q (.tup [.int 0, z]) st := by
  unfold eTold; rw [W_bind]; simp only [W_bind, W_some]
/-! ### what is read -/
mutual
/-- None, True, False, integers, tuples of such, of tuples .. -/
def D.plain : D → Bool
  | .non => true
  | .bl _ => true
  | .int _ => true
  | .tup l => plainAll l
  | _ => false
def plainAll : List D → Bool
  | [] => true
  | d :: r => d.plain && plainAll r
end
mutual
def D.dp : D → Nat
  | .tup l => 1 + dpAll l
  | _ => 1
def dpAll : List D → Nat
  | [] => 0
  | d :: r => max d.dp (dpAll r)
end
mutual
theorem plain_dat : ∀ d : D, d.plain = true → d.dat = true
  | .non, _ => by simp [D.dat]
  | .bl _, _ => by simp [D.dat]
  | .int _, _ => by simp [D.dat]
  | .tup l, h => by simp [D.dat]; exact plainAll_dat l (by simpa [D.plain] using h)
  | .str _, h => by simp [D.plain] at h
  | .lst _, h => by simp [D.plain] at h
  | .ref _, h => by simp [D.plain] at h
  | .scr _, h => by simp [D.plain] at h
theorem plainAll_dat : ∀ l : List D, plainAll l = true → datAll l = true
  | [], _ => by simp [datAll]
  | d :: l, h => by
    have h : (d.plain && plainAll l) = true := by simpa [plainAll] using h
    rw [Bool.and_eq_true] at h
    simp [datAll, plain_dat d h.1, plainAll_dat l h.2]
end
theorem plain_mem : ∀ {l : List D}, plainAll l = true → ∀ d ∈ l, d.plain = true
  | [], _, d, h => nomatch h
  | a :: l, h, d, hd => by
    have h : (a.plain && plainAll l) = true := by simpa [plainAll] using h
    rw [Bool.and_eq_true] at h
    rcases List.mem_cons.mp hd with rfl | hd
    · exact h.1
    · exact plain_mem h.2 d hd
theorem dp_mem : ∀ {l : List D} {m : Nat}, dpAll l ≤ m → ∀ d ∈ l, d.dp ≤ m
  | [], _, _, d, h => nomatch h
  | a :: l, m, h, d, hd => by
    have h : max a.dp (dpAll l) ≤ m := by simpa [dpAll] using h
    rcases List.mem_cons.mp hd with rfl | hd
    · omega
    · exact dp_mem (l := l) (by omega) d hd
theorem dp_pos (d : D) : 1 ≤ d.dp := by cases d <;> simp [D.dp]
/-- the def _law_read -/
noncomputable def readB (ff : F) : S := (sSeq (sIf (EV.tOr (tOf (eUn oIsN (eVar 0))) (EV.tOr (tOf (eUn (oIsB true) (eVar 0))) (tOf (eUn (oIsB false) (eVar 0))))) (sRet (eVar 0)) sNext)
  (sSeq (sIf (tOf (eBlt bIsInt (aCons (eVar 0) aNil))) (sRet (eBlt bInt (aCons (eVar 0) aNil))) sNext)
  (sSeq (sIf (tOf (eBlt (bIs "str") (aCons (eVar 0) aNil))) (sRet (eOp oAdd (eC (.str "")) (eVar 0))) sNext)
  (sSeq (sIf (tOf (eBlt (bIs "tuple") (aCons (eVar 0) aNil))) (sRet (eBlt bTuple (aCons (eLc (iSeq (eVar 0)) [1] (gNm 1) tYes (eCall ff (aCons (eVar 1) aNil))) aNil))) sNext)
  (sRet (eIf (tOf (eBlt (bIs "list") (aCons (eVar 0) aNil))) (eLc (iSeq (eVar 0)) [1] (gNm 1) tYes (eCall ff (aCons (eVar 1) aNil))) (eC (.str "something else"))))))))
noncomputable def readN : Nat → F
  | 0 => fNever
  | m + 1 => fDef 1 2 (readB (readN m))
theorem leave_s {d : D} {st : Sto} : leave st.length d st = (d, st) := leave_self
theorem fact {f : F} {ds : List D} {st : Sto} {d : D} {Q : D → Sto → Prop} (h : W (f ds st) (fun x s => x = d ∧ s = st)) : W (f ds st) Q ↔ Q d st := by
  obtain ⟨x, s, e, rfl, rfl⟩ := h
  rw [e, W_some]
mutual
def D.small : D → Bool
  | .tup l => decide (l.length ≤ LIM) && smallAll l
  | _ => true
def smallAll : List D → Bool
  | [] => true
  | d :: r => d.small && smallAll r
end
theorem small_mem : ∀ {l : List D}, smallAll l = true → ∀ d ∈ l, d.small = true
  | [], _, d, h => nomatch h
  | a :: l, h, d, hd => by
    have h : (a.small && smallAll l) = true := by simpa [smallAll] using h
    rw [Bool.and_eq_true] at h
    rcases List.mem_cons.mp hd with rfl | hd
    · exact h.1
    · exact small_mem h.2 d hd
theorem read_W : ∀ (m : Nat) {d : D} {st : Sto} {Q : D → Sto → Prop}, d.plain = true → d.dp ≤ m → d.small = true → (W (readN m [d] st) Q ↔ Q d st)
  | 0, d, _, _, _, h, _ => absurd h (by have := dp_pos d; omega)
  | m + 1, d, st, Q, hp, hd, hs => by
    refine fact (f := readN (m + 1)) (fDef_W rfl ?_)
    cases d with
    | non => simp [readB, begin_, leave_s]
    | bl b => cases b <;> simp [readB, begin_, leave_s]
    | int i => simp [readB, begin_, leave_s]
    | tup l =>
      have pl : plainAll l = true := by simpa [D.plain] using hp
      have dl : dpAll l ≤ m := by have : 1 + dpAll l ≤ m + 1 := by simpa [D.dp] using hd
                                  omega
      have sl : l.length ≤ LIM ∧ smallAll l = true := by simpa [D.small] using hs
      have dt : (D.tup l).dat = true := plain_dat _ hp
      simp [readB, begin_, vIsInt_d dt, vIs_d dt, D.ty, wLc, wipeE, lcGo]
      have e : l = l.map id := by simp
      rw [e]
      refine lc_pureA l id id (fun x hx => ?_) ?_
      · simp
        exact (read_W m (plain_mem pl x hx) (dp_mem dl x hx) (small_mem sl.2 x hx)).mpr ⟨rfl, rfl⟩
      · simp [sl.1, leave_s]
    | str _ => simp [D.plain] at hp
    | lst _ => simp [D.plain] at hp
    | ref _ => simp [D.plain] at hp
    | scr _ => simp [D.plain] at hp
end EV
/-! EV.22: == and != of what is alike. -/
namespace EV
open PySem (Str PyData)
mutual
/-- how deep, None and lists and tuples of such -/
def D.dq : D → Nat
  | .tup l => dqAll l + 1
  | .lst l => dqAll l + 1
  | _ => 0
def dqAll : List D → Nat
  | [] => 0
  | d :: r => max d.dq (dqAll r)
end
mutual
theorem py_depth : ∀ d : D, d.dat = true → d.py.depth = d.dq
  | .non, _ => by simp [D.py, PyData.depth, D.dq]
  | .bl _, _ => by simp [D.py, PyData.depth, D.dq]
  | .int _, _ => by simp [D.py, PyData.depth, D.dq]
  | .str _, _ => by simp [D.py, PyData.depth, D.dq]
  | .tup l, h => by simp [D.py, PyData.depth, D.dq, py_depthAll l (by simpa [D.dat] using h)]
  | .lst l, h => by simp [D.py, PyData.depth, D.dq, py_depthAll l (by simpa [D.dat] using h)]
  | .ref _, h => by simp [D.dat] at h
  | .scr _, h => by simp [D.dat] at h
theorem py_depthAll : ∀ l : List D, datAll l = true → PyData.depthAll (pyAll l) = dqAll l
  | [], _ => by simp [pyAll, PyData.depthAll, dqAll]
  | d :: l, h => by
    have h : (d.dat && datAll l) = true := by simpa [datAll] using h
    rw [Bool.and_eq_true] at h
    simp [pyAll, PyData.depthAll, dqAll, py_depth d h.1, py_depthAll l h.2]
end
mutual
/-- data of None, numbers, strings that can be, lists and tuples of such -/
def D.good : D → Bool
  | .tup l => goodAll l
  | .lst l => goodAll l
  | .str s => PyData.strOk s
  | .ref _ => false
  | .scr _ => false
  | _ => true
def goodAll : List D → Bool
  | [] => true
  | d :: r => d.good && goodAll r
end
mutual
theorem good_dat : ∀ d : D, d.good = true → d.dat = true
  | .non, _ => by simp [D.dat]
  | .bl _, _ => by simp [D.dat]
  | .int _, _ => by simp [D.dat]
  | .str _, _ => by simp [D.dat]
  | .tup l, h => by simp [D.dat]; exact goodAll_dat l (by simpa [D.good] using h)
  | .lst l, h => by simp [D.dat]; exact goodAll_dat l (by simpa [D.good] using h)
  | .ref _, h => by simp [D.good] at h
  | .scr _, h => by simp [D.good] at h
theorem goodAll_dat : ∀ l : List D, goodAll l = true → datAll l = true
  | [], _ => by simp [datAll]
  | d :: l, h => by
    have h : (d.good && goodAll l) = true := by simpa [goodAll] using h
    rw [Bool.and_eq_true] at h
    simp [datAll, good_dat d h.1, goodAll_dat l h.2]
end
mutual
theorem py_lay : ∀ d : D, d.good = true → d.py.canLay0 = true
  | .non, _ => by simp [D.py, PyData.canLay0]
  | .bl _, _ => by simp [D.py, PyData.canLay0]
  | .int _, _ => by simp [D.py, PyData.canLay0]
  | .str _, h => by simpa [D.py, PyData.canLay0, D.good] using h
  | .tup l, h => by simp [D.py, PyData.canLay0, py_layAll l (by simpa [D.good] using h)]
  | .lst l, h => by simp [D.py, PyData.canLay0, py_layAll l (by simpa [D.good] using h)]
  | .ref _, h => by simp [D.good] at h
  | .scr _, h => by simp [D.good] at h
theorem py_layAll : ∀ l : List D, goodAll l = true → PyData.canLayAll0 (pyAll l) = true
  | [], _ => by simp [pyAll, PyData.canLayAll0]
  | d :: l, h => by
    have h : (d.good && goodAll l) = true := by simpa [goodAll] using h
    rw [Bool.and_eq_true] at h
    simp [pyAll, PyData.canLayAll0, py_lay d h.1, py_layAll l h.2]
end
theorem shp_of {d : D} (h : d.good = true) (hq : d.dq ≤ 60) : d.shp = true := by
  unfold D.shp PySem.SeqAt.shaped
  rw [good_dat d h, py_lay d h, py_depth d (good_dat d h)]
  simp; omega
mutual
theorem eqv_self : ∀ d : D, d.dat = true → PyData.eqv d.py d.py = true
  | .non, _ => by simp [D.py, PyData.eqv]
  | .bl _, _ => by simp [D.py, PyData.eqv]
  | .int _, _ => by simp [D.py, PyData.eqv]
  | .str _, _ => by simp [D.py, PyData.eqv]
  | .tup l, h => by simp [D.py, PyData.eqv, eqv_selfAll l (by simpa [D.dat] using h)]
  | .lst l, h => by simp [D.py, PyData.eqv, eqv_selfAll l (by simpa [D.dat] using h)]
  | .ref _, h => by simp [D.dat] at h
  | .scr _, h => by simp [D.dat] at h
theorem eqv_selfAll : ∀ l : List D, datAll l = true → PyData.eqvAll (pyAll l) (pyAll l) = true
  | [], _ => by simp [pyAll, PyData.eqvAll]
  | d :: l, h => by
    have h : (d.dat && datAll l) = true := by simpa [datAll] using h
    rw [Bool.and_eq_true] at h
    simp [pyAll, PyData.eqvAll, eqv_self d h.1, eqv_selfAll l h.2]
end
theorem seen_dat {st : Sto} {d : D} (h : d.dat = true) : seen st d = d := by
  cases d <;> first | rfl | simp [D.dat] at h
section
variable {st : Sto} {Q : D → Prop} {a b : D}
/-- == of data -/
theorem vEq_d (ha : a.good = true) (hb : b.good = true) (qa : a.dq ≤ 60) (qb : b.dq ≤ 60) : V1 (oEq st a b) Q ↔ Q (.bl (PyData.eqv a.py b.py)) := by
  have g : (if (seen st a).shp = true ∧ (seen st b).shp = true then some (D.bl (PyData.eqv (seen st a).py (seen st b).py)) else none) = some (D.bl (PyData.eqv a.py b.py)) := by
    rw [seen_dat (good_dat _ ha), seen_dat (good_dat _ hb), if_pos ⟨shp_of ha qa, shp_of hb qb⟩]
  have e : oEq st a b = some (.bl (PyData.eqv a.py b.py)) := by
    unfold oEq
    split
    · rename_i x y
      by_cases q : x = y <;> simp [D.py, PyData.eqv, q]
    · rename_i x y
      by_cases q : x = y <;> simp [D.py, PyData.eqv, q]
    · exact g
  rw [e, V1_some]
theorem vNe_d (ha : a.good = true) (hb : b.good = true) (qa : a.dq ≤ 60) (qb : b.dq ≤ 60) : V1 (oNe st a b) Q ↔ Q (.bl (!PyData.eqv a.py b.py)) := by
  have g : (if (seen st a).shp = true ∧ (seen st b).shp = true then some (D.bl (!PyData.eqv (seen st a).py (seen st b).py)) else none) = some (D.bl (!PyData.eqv a.py b.py)) := by
    rw [seen_dat (good_dat _ ha), seen_dat (good_dat _ hb), if_pos ⟨shp_of ha qa, shp_of hb qb⟩]
  have e : oNe st a b = some (.bl (!PyData.eqv a.py b.py)) := by
    unfold oNe
    split
    · rename_i x y
      by_cases q : x = y <;> simp [D.py, PyData.eqv, q]
    · rename_i x y
      by_cases q : x = y <;> simp [D.py, PyData.eqv, q]
    · exact g
  rw [e, V1_some]
theorem vEq_self (ha : a.good = true) (qa : a.dq ≤ 60) : V1 (oEq st a a) Q ↔ Q (.bl true) := by
  rw [vEq_d ha ha qa qa, eqv_self a (good_dat _ ha)]
theorem vNe_self (ha : a.good = true) (qa : a.dq ≤ 60) : V1 (oNe st a a) Q ↔ Q (.bl false) := by
  rw [vNe_d ha ha qa qa, eqv_self a (good_dat _ ha)]; rfl
end
@[simp] theorem dq_ints (l : List Int) : dqAll (l.map D.int) = 0 := by
  induction l with
  | nil => simp [dqAll]
  | cons a l ih => simp [dqAll, D.dq, ih]
theorem dq_map {α : Type} {l : List α} {f : α → D} {n : Nat} (h : ∀ a ∈ l, (f a).dq ≤ n) : dqAll (l.map f) ≤ n := by
  induction l with
  | nil => simp [dqAll]
  | cons a l ih =>
    rw [List.map_cons, dqAll]
    exact Nat.max_le.mpr ⟨h a List.mem_cons_self, ih fun b hb => h b (List.mem_cons_of_mem _ hb)⟩
theorem plain_map {α : Type} {l : List α} {f : α → D} (h : ∀ a ∈ l, (f a).plain = true) : plainAll (l.map f) = true := by
  induction l with
  | nil => rfl
  | cons a l ih => rw [List.map_cons, plainAll, h a List.mem_cons_self, ih fun b hb => h b (List.mem_cons_of_mem _ hb)]; rfl
theorem dp_map {α : Type} {l : List α} {f : α → D} {n : Nat} (h : ∀ a ∈ l, (f a).dp ≤ n) : dpAll (l.map f) ≤ n := by
  induction l with
  | nil => simp [dpAll]
  | cons a l ih =>
    rw [List.map_cons, dpAll]
    exact Nat.max_le.mpr ⟨h a List.mem_cons_self, ih fun b hb => h b (List.mem_cons_of_mem _ hb)⟩
theorem small_map {α : Type} {l : List α} {f : α → D} (h : ∀ a ∈ l, (f a).small = true) : smallAll (l.map f) = true := by
  induction l with
  | nil => rfl
  | cons a l ih => rw [List.map_cons, smallAll, h a List.mem_cons_self, ih fun b hb => h b (List.mem_cons_of_mem _ hb)]; rfl
mutual
theorem plain_good : ∀ d : D, d.plain = true → d.good = true
  | .non, _ => by simp [D.good]
  | .bl _, _ => by simp [D.good]
  | .int _, _ => by simp [D.good]
  | .tup l, h => by simp [D.good]; exact plainAll_good l (by simpa [D.plain] using h)
  | .str _, h => by simp [D.plain] at h
  | .lst _, h => by simp [D.plain] at h
  | .ref _, h => by simp [D.plain] at h
  | .scr _, h => by simp [D.plain] at h
theorem plainAll_good : ∀ l : List D, plainAll l = true → goodAll l = true
  | [], _ => by simp [goodAll]
  | d :: l, h => by
    have h : (d.plain && plainAll l) = true := by simpa [plainAll] using h
    rw [Bool.and_eq_true] at h
    simp [goodAll, plain_good d h.1, plainAll_good l h.2]
end
theorem good_map {α : Type} {l : List α} {f : α → D} (h : ∀ a ∈ l, (f a).good = true) : goodAll (l.map f) = true := by
  induction l with
  | nil => rfl
  | cons a l ih => rw [List.map_cons, goodAll, h a List.mem_cons_self, ih fun b hb => h b (List.mem_cons_of_mem _ hb)]; rfl
end EV
/-! EV.23: tuple(range(..)), list(range(..)); a tuple times a number. -/
namespace EV
open PySem PySem.Spec PyProof.Rows L2
section
variable {X : Cx} {cl : Cl} {C : Cf} {e e2 : Expr} {ea eb : E} {i : I}
/-- what makes a range -/
def tRD (C : Cf) (a : I) : L2.St → Hp → (Int → Int → Hp → Prop) → Prop := fun σ H Q => ∃ Γ φ st r lo hi st', Sim C Γ H φ st ∧ EnvOk C Γ φ r σ ∧ (a r st = some (.vals (rng lo hi), st')) ∧ RngOk lo hi ∧
  ∀ Γ' H' φ', Ext Γ H φ Γ' H' φ' → Sim C Γ' H' φ' st' → ∀ lo' hi', rng lo' hi' = rng lo hi → RngOk lo' hi' → Q lo' hi' H'
theorem prg_imp {e : Expr} {t t' : L2.St → Hp → (Int → Int → Hp → Prop) → Prop} (h : PRg X e t) (q : ∀ σ H Q, t' σ H Q → t σ H Q) : PRg X e t' := fun pins s σ H Q I hw => h pins s σ H Q I (q σ H Q hw)
theorem srg_1 {p pos : Pos} (hg : Gl X "range") (hm : X.mg "range" = none) (ha : SE X cl e ea) (na : starEach [e] X.env = (false, eval e X.env) :: starEach [] X.env := by rfl) : PRg X (.Call (.Name "range" p) [e] [] pos) (tRD (cf X cl) (iRange1 ea)) := by
  refine prg_imp (prg_1 hg hm ha na) fun σ H Q h => ?_
  obtain ⟨Γ, φ, st, r, lo, hi, st', sm, en, h, ok, q⟩ := h
  unfold iRange1 at h
  obtain ⟨x, h1, h⟩ := Option.bind_eq_some_iff.mp h
  obtain ⟨d, st1⟩ := x
  cases d with
  | int j =>
    by_cases hr : RngOk 0 j
    · simp only [hr, if_true] at h
      injection h with h
      injection h with h2 h3
      injection h2 with h2
      subst h3
      refine ⟨Γ, φ, st, r, .int j, st1, sm, en, h1, fun Γ1 H1 φ1 v x1 s1 i1 => ?_⟩
      cases i1
      exact ⟨j, rfl, q _ _ _ x1 s1 0 j h2 hr⟩
    · simp only [hr, if_false] at h
      cases h
  | _ => exact nomatch h
theorem srg_2 {p pos : Pos} (hg : Gl X "range") (hm : X.mg "range" = none) (ha : SE X cl e ea) (hb : SE X cl e2 eb) (na : starEach [e, e2] X.env = (false, eval e X.env) :: starEach [e2] X.env := by rfl)
    (nb : starEach [e2] X.env = (false, eval e2 X.env) :: starEach [] X.env := by rfl) (hp : (backTo pos (starEach [e2] X.env)).any (·.1) = false := by rfl) : PRg X (.Call (.Name "range" p) [e, e2] [] pos) (tRD (cf X cl) (iRange2 ea eb)) := by
  refine prg_imp (prg_2 hg hm ha hb na nb hp) fun σ H Q h => ?_
  obtain ⟨Γ, φ, st, r, lo, hi, st', sm, en, h, ok, q⟩ := h
  unfold iRange2 at h
  obtain ⟨x, h1, h⟩ := Option.bind_eq_some_iff.mp h
  obtain ⟨y, h2, h⟩ := Option.bind_eq_some_iff.mp h
  obtain ⟨d, st1⟩ := x
  obtain ⟨d2, st2⟩ := y
  cases d with
  | int j =>
    cases d2 with
    | int k =>
      by_cases hr : RngOk j k
      · simp only [hr, if_true] at h
        injection h with h
        injection h with h3 h4
        injection h3 with h3
        subst h4
        refine ⟨Γ, φ, st, r, .int j, st1, sm, en, h1, fun Γ1 H1 φ1 v x1 s1 i1 => ?_⟩
        refine ⟨Γ1, φ1, st1, r, .int k, st2, s1, x1.env en, h2, fun Γ2 H2 φ2 v2 x2 s2 i2 => ?_⟩
        cases i1
        cases i2
        exact ⟨j, k, rfl, rfl, q _ _ _ (x1.trans x2) s2 j k h3 hr⟩
      · simp only [hr, if_false] at h
        cases h
    | _ => exact nomatch h
  | _ => exact nomatch h
theorem is_rg {Γ : Hp} {φ : List Addr} (lo hi : Int) : IsAll C Γ φ (rng lo hi) (rgV lo hi) := by
  unfold rng rgV
  induction List.range (hi - lo).toNat with
  | nil => exact .nil
  | cons a l ih => exact .cons (.int _) ih
theorem rg_ok {lo hi : Int} (h : RngOk lo hi) (hl : (rng lo hi).length ≤ LIM) : L2.RgOk lo hi := by
  obtain ⟨h1, h2, h3, h4⟩ := h
  have hl' : (hi - lo).toNat ≤ 16777216 := by simpa [rng] using hl
  exact ⟨h1, h2, h3, h4, by omega⟩
theorem se_tupRg {p pos : Pos} (hc : X.calm = true) (hg : Gl X "tuple") (hm : X.mg "tuple" = none) (he : PRg X e (tRD (cf X cl) i)) (isr : ∀ r st s st', i r st = some (s, st') → ∃ lo hi, s = .vals (rng lo hi) ∧ RngOk lo hi) (na : starEach [e] X.env = (false, eval e X.env) :: starEach [] X.env := by rfl) :
    SE X cl (.Call (.Name "tuple" p) [e] [] pos) (eTupRng i) := by
  refine PE.imp (pe_tupRg hc hg hm he na) fun σ H Q h => ?_
  obtain ⟨Γ, φ, st, r, d, st', sm, en, h, q⟩ := h
  unfold eTupRng at h
  obtain ⟨x, h1, h⟩ := Option.bind_eq_some_iff.mp h
  obtain ⟨s, st1⟩ := x
  obtain ⟨lo, hi, rfl, ok⟩ := isr _ _ _ _ h1
  by_cases hl : (rng lo hi).length ≤ LIM
  · simp only [hl, if_true] at h
    cases h
    refine ⟨Γ, φ, st, r, lo, hi, _, sm, en, h1, ok, fun Γ1 H1 φ1 x1 s1 lo' hi' e' ok' => ⟨rg_ok ok' (by rw [e']; exact hl), fun p hp => ?_⟩⟩
    obtain ⟨s2, x2⟩ := s1.frozen (o := .tup _) hp
    exact q _ _ _ _ (x1.trans x2) s2 (.tup upd_same (by rw [← e']; exact is_rg _ _))
  · simp only [hl, if_false] at h
    cases h
theorem sf_lstRg {p pos : Pos} (hc : X.calm = true) (hg : Gl X "list") (hm : X.mg "list" = none) (he : PRg X e (tRD (cf X cl) i)) (isr : ∀ r st s st', i r st = some (s, st') → ∃ lo hi, s = .vals (rng lo hi) ∧ RngOk lo hi) (na : starEach [e] X.env = (false, eval e X.env) :: starEach [] X.env := by rfl) :
    SF X cl (.Call (.Name "list" p) [e] [] pos) (eLstRng i) := by
  refine PE.imp (pe_listRg hc hg hm he na) fun σ H Q h => ?_
  obtain ⟨Γ, φ, st, r, ds, st', sm, en, h, q⟩ := h
  unfold eLstRng at h
  obtain ⟨x, h1, h⟩ := Option.bind_eq_some_iff.mp h
  obtain ⟨s, st1⟩ := x
  obtain ⟨lo, hi, rfl, ok⟩ := isr _ _ _ _ h1
  by_cases hl : (rng lo hi).length ≤ LIM
  · simp only [hl, if_true] at h
    cases h
    refine ⟨Γ, φ, st, r, lo, hi, _, sm, en, h1, ok, fun Γ1 H1 φ1 x1 s1 lo' hi' e' ok' => ⟨rg_ok ok' (by rw [e']; exact hl), fun p hp => ?_⟩⟩
    obtain ⟨s2, x2⟩ := s1.other (o := .lst (rgV lo' hi')) hp
    have x3 := x1.trans x2
    have h0 : H p = none := x1.new hp
    exact q _ _ _ _ _ x3 s2 h0 upd_same (s1.notIn hp) (s1.fresh hp) (by rw [← e']; exact is_rg _ _)
  · simp only [hl, if_false] at h
    cases h
theorem lst_eLstRng (r : Env) (st : Sto) (d : D) (st' : Sto) (h : eLstRng i r st = some (d, st')) : ∃ l, d = .lst l := by
  unfold eLstRng at h
  obtain ⟨x, h1, h⟩ := Option.bind_eq_some_iff.mp h
  obtain ⟨s, st1⟩ := x
  cases s with
  | vals l =>
    by_cases hl : l.length ≤ LIM
    · simp only [hl, if_true] at h
      cases h
      exact ⟨_, rfl⟩
    · simp only [hl, if_false] at h
      cases h
  | _ => exact nomatch h
theorem isr_1 (r : Env) (st : Sto) (s : Src) (st' : Sto) (h : iRange1 ea r st = some (s, st')) : ∃ lo hi, s = .vals (rng lo hi) ∧ RngOk lo hi := by
  unfold iRange1 at h
  obtain ⟨x, h1, h⟩ := Option.bind_eq_some_iff.mp h
  obtain ⟨d, st1⟩ := x
  cases d with
  | int j =>
    by_cases hr : RngOk 0 j
    · simp only [hr, if_true] at h
      cases h
      exact ⟨_, _, rfl, hr⟩
    · simp only [hr, if_false] at h
      cases h
  | _ => exact nomatch h
theorem isr_2 (r : Env) (st : Sto) (s : Src) (st' : Sto) (h : iRange2 ea eb r st = some (s, st')) : ∃ lo hi, s = .vals (rng lo hi) ∧ RngOk lo hi := by
  unfold iRange2 at h
  obtain ⟨x, h1, h⟩ := Option.bind_eq_some_iff.mp h
  obtain ⟨y, h2, h⟩ := Option.bind_eq_some_iff.mp h
  obtain ⟨d, st1⟩ := x
  obtain ⟨d2, st2⟩ := y
  cases d with
  | int j =>
    cases d2 with
    | int k =>
      by_cases hr : RngOk j k
      · simp only [hr, if_true] at h
        cases h
        exact ⟨_, _, rfl, hr⟩
      · simp only [hr, if_false] at h
        cases h
    | _ => exact nomatch h
  | _ => exact nomatch h
section
variable {r : Env} {st : Sto} {Q : D → Sto → Prop}
@[simp] theorem wTupRng : W (eTupRng i r st) Q ↔ W (i r st) fun s st => ∃ l, s = .vals l ∧ l.length ≤ LIM ∧ Q (.tup l) st := by
  unfold eTupRng; rw [W_bind]
  refine W_congr fun s st => ?_
  cases s with
  | vals l => by_cases h : l.length ≤ LIM <;> simp [h]
  | _ => simp
@[simp] theorem wLstRng : W (eLstRng i r st) Q ↔ W (i r st) fun s st => ∃ l, s = .vals l ∧ l.length ≤ LIM ∧ Q (.lst l) st := by
  unfold eLstRng; rw [W_bind]
  refine W_congr fun s st => ?_
  cases s with
  | vals l => by_cases h : l.length ≤ LIM <;> simp [h]
  | _ => simp
end
end
end EV
/-! EV.24: a tuple times a number. -/
namespace EV
open PySem PySem.Spec PyProof.Rows L2
theorem tup_mul_self (l : Addr) (its : Array Value) (n : Nat) (dd : Option Addr) (sl : Array (Option Value)) (x : Int) (u : Tok) (c0 : (decide (x < -(2 ^ 63)) || decide (x ≥ 2 ^ 63)) = false) (c1 : (its.isEmpty || x == 1) = true) :
    Meets (Builtin.«tuple.__mul__» ⟨[.ref l, .int x u], []⟩) (fun _ R s => s.heap.get? l = some { cls := .type "tuple", dict := dd, data := .seq its n, slots := sl } ∧ R (.ok (.ret (Value.ref l))) s) :=
  .of_wp fun prog w A R s h => by
    obtain ⟨hp, g, d, tk, os⟩ := s
    obtain ⟨hl, h⟩ := h
    have f1 := AutoSeq1.idx_int
    wp_walk using wpAny_loadPart' hl
    refine wpAny_ite_false (decide_eq_false (by rw [c0]; exact Bool.false_ne_true)) ?_
    wp_walk using wpAny_loadPart' hl
    exact ⟨_, rfl, h⟩
theorem tup_mul_none (l : Addr) (its : Array Value) (n : Nat) (dd : Option Addr) (sl : Array (Option Value)) (x : Int) (u : Tok) (c0 : (decide (x < -(2 ^ 63)) || decide (x ≥ 2 ^ 63)) = false) (c1 : (its.isEmpty || x == 1) = false) (c2 : (decide (x ≤ 0) || its.isEmpty) = true) :
    Meets (Builtin.«tuple.__mul__» ⟨[.ref l, .int x u], []⟩) (fun _ R s => s.heap.get? l = some { cls := .type "tuple", dict := dd, data := .seq its n, slots := sl } ∧
      R (.ok (.ret (Value.ref s.heap.objs.size))) { s with heap := s.heap.push { cls := Value.type "tuple", data := Data.seq #[] }, toks := s.toks }) :=
  .of_wp fun prog w A R s h => by
    obtain ⟨hp, g, d, tk, os⟩ := s
    obtain ⟨hl, h⟩ := h
    have f1 := AutoSeq1.idx_int
    wp_walk using wpAny_loadPart' hl
    refine wpAny_ite_false (decide_eq_false (by rw [c0]; exact Bool.false_ne_true)) ?_
    wp_walk using wpAny_loadPart' hl
    exact ⟨_, rfl, h⟩
def oMulT (_ : Sto) (a b : D) : Option D := match a, b with
  | .tup l, .int k => if l.length ≤ 1000 ∧ k ≤ 1000 ∧ -1000 ≤ k then some (.tup (List.replicate k.toNat l).flatten) else none
  | _, _ => none
theorem rep_nil {α : Type} (k : Nat) : (List.replicate k ([] : List α)).flatten = [] := by
  induction k with
  | zero => rfl
  | succ k ih => rw [List.replicate_succ, List.flatten_cons, ih]; rfl
section
variable {X : Cx} {cl : Cl}
/-- the same tuple -/
theorem op_rep1 : OpR X (binaryOp .Mult) (fun x y H Q => ∃ l k xs, x = .ref l ∧ y = .int k ∧ SqT X.K H l xs ∧ (xs = [] ∨ k = 1) ∧ -1000 ≤ k ∧ k ≤ 1000 ∧ Q (.ref l) H) := by
  intro pins s σ H x y v u Q I rx ry h
  obtain ⟨l, k, xs, rfl, rfl, hT, h1, h2, h3, q⟩ := h
  cases rx
  obtain ⟨t, rfl⟩ := ry
  obtain ⟨its, r, ⟨⟨cls, dd, data, sl⟩, ho, hc, n, hd⟩, hs⟩ := I.tuple hT
  simp only at hc hd
  subst hc hd
  have hle : its.length = xs.length := r.length.symm
  have hz : (its.toArray.isEmpty || k == 1) = true := by
    rcases h1 with h1 | h1
    · subst h1
      have : its = [] := List.eq_nil_of_length_eq_zero hle
      subst this; rfl
    · subst h1; simp
  have hk : (decide (k < -(2 ^ 63)) || decide (k ≥ 2 ^ 63)) = false := by
    rw [decide_eq_false (by omega), decide_eq_false (by omega)] <;> rfl
  refine wpAny_binaryOp_repeat_ref (T := "tuple") (U := "int") (by decide) ⟨_, ho, rfl⟩ (fun s' => typeIs_int s' k t) noFill_tuple_mul F.fills_int_mul F.slot_int_rmul repeat_tuple F.slot_int_index.lookup
    (call_meets F.slot_int_rmul (typeIs_int s k t) F.entry_int_rmul (F.args_int_rmul_2 _ _) (int_rmul_tuple k t l its.toArray n dd sl)
      ⟨ho, rfl, ⟨_, ho, rfl⟩, call_meets F.slot_tuple_mul ⟨_, ho, rfl⟩ F.entry_tuple_mul (F.args_tuple_mul_2 _ _) (tup_mul_self l its.toArray n dd sl k t hk hz) ⟨ho, ?_⟩⟩)
  exact ⟨.ref l, H, I, rfl, q⟩
/-- an empty one -/
theorem op_rep0 : OpR X (binaryOp .Mult) (fun x y H Q => ∃ l k xs, x = .ref l ∧ y = .int k ∧ SqT X.K H l xs ∧ xs ≠ [] ∧ -1000 ≤ k ∧ k ≤ 0 ∧ ∀ p, H p = none → Q (.ref p) (upd H p (.tup []))) := by
  intro pins s σ H x y v u Q I rx ry h
  obtain ⟨l, k, xs, rfl, rfl, hT, h1, h2, h3, q⟩ := h
  cases rx
  obtain ⟨t, rfl⟩ := ry
  obtain ⟨its, r, ⟨⟨cls, dd, data, sl⟩, ho, hc, n, hd⟩, hs⟩ := I.tuple hT
  simp only at hc hd
  subst hc hd
  have hle : its.length = xs.length := r.length.symm
  have hne : its.toArray.isEmpty = false := by
    cases its with
    | nil => exact absurd (List.eq_nil_of_length_eq_zero hle.symm) h1
    | cons a b => rfl
  have hz : (its.toArray.isEmpty || k == 1) = false := by
    rw [hne, Bool.false_or]
    exact beq_eq_false_iff_ne.mpr (by omega)
  have hz2 : (decide (k ≤ 0) || its.toArray.isEmpty) = true := by
    rw [decide_eq_true h3]; rfl
  have hk : (decide (k < -(2 ^ 63)) || decide (k ≥ 2 ^ 63)) = false := by
    rw [decide_eq_false (by omega), decide_eq_false (by omega)] <;> rfl
  refine wpAny_binaryOp_repeat_ref (T := "tuple") (U := "int") (by decide) ⟨_, ho, rfl⟩ (fun s' => typeIs_int s' k t) noFill_tuple_mul F.fills_int_mul F.slot_int_rmul repeat_tuple F.slot_int_index.lookup
    (call_meets F.slot_int_rmul (typeIs_int s k t) F.entry_int_rmul (F.args_int_rmul_2 _ _) (int_rmul_tuple k t l its.toArray n dd sl)
      ⟨ho, rfl, ⟨_, ho, rfl⟩, call_meets F.slot_tuple_mul ⟨_, ho, rfl⟩ F.entry_tuple_mul (F.args_tuple_mul_2 _ _) (tup_mul_none l its.toArray n dd sl k t hk hz hz2) ⟨ho, ?_⟩⟩)
  refine ⟨.ref s.heap.objs.size, _, I.laid (t' := s.toks) (o := .tup []) (fun b ob q => Heap.get?_push_of_some _ q) (Nat.le_refl _) ?_, rfl, q _ (I.hok.fresh (Nat.le_refl _))⟩
  exact ⟨by simp, [], .nil, IsTup.new _ _⟩
theorem op_mulT : OpR X (binaryOp .Mult) (rD (cf X cl) oMulT) := by
  intro pins s σ H x y v u Q I rx ry h
  obtain ⟨Γ, φ, st, dx, dy, d, sm, i1, i2, h, q⟩ := h
  unfold oMulT at h
  split at h
  · rename_i l k
    split at h
    · rename_i hc
      obtain ⟨c1, c2, c3⟩ := hc
      cases h
      cases i2
      have i1' := i1
      cases i1 with
      | tup e1 q1 =>
        rename_i a vs
        have hl := q1.length
        have nilv : l = [] ↔ vs = [] := by
          rw [← List.length_eq_zero_iff, ← List.length_eq_zero_iff]; omega
        by_cases z : l = [] ∨ k = 1
        · have e : (List.replicate k.toNat l).flatten = l := by
            rcases z with z | z
            · subst z; exact rep_nil _
            · subst z; simp
          rw [e] at q
          exact op_rep1 pins s σ H _ _ v u Q I rx ry ⟨_, _, _, rfl, rfl, SqT.of (sm.sub _ _ e1), by rcases z with z | z; exact .inl (nilv.mp z); exact .inr z, c3, c2, q _ _ _ _ (.refl sm) sm i1'⟩
        · have z1 : l ≠ [] := fun e => z (.inl e)
          have z2 : k ≠ 1 := fun e => z (.inr e)
          by_cases z3 : k ≤ 0
          · have e : (List.replicate k.toNat l).flatten = [] := by
              have : k.toNat = 0 := by omega
              rw [this]; rfl
            rw [e] at q
            refine op_rep0 pins s σ H _ _ v u Q I rx ry ⟨_, _, _, rfl, rfl, SqT.of (sm.sub _ _ e1), fun e => z1 (nilv.mpr e), c3, z3, fun p hp => ?_⟩
            obtain ⟨s2, x2⟩ := sm.frozen (o := .tup []) hp
            exact q _ _ _ _ x2 s2 (.tup upd_same .nil)
          · refine op_repT pins s σ H _ _ v u Q I rx ry ⟨_, _, _, rfl, rfl, SqT.of (sm.sub _ _ e1), fun e => z1 (nilv.mpr e), by omega, c2, by rw [← hl]; exact c1, fun p hp => ?_⟩
            obtain ⟨s2, x2⟩ := sm.frozen (o := .tup _) hp
            exact q _ _ _ _ x2 s2 (.tup upd_same (x2.all (q1.rep _)))
    · cases h
  · cases h
end
section
variable {st : Sto} {Q : D → Prop} {l : List D} {k : Int}
@[simp] theorem vMulT : V1 (oMulT st (.tup l) (.int k)) Q ↔ (l.length ≤ 1000 ∧ k ≤ 1000 ∧ -1000 ≤ k) ∧ Q (.tup (List.replicate k.toNat l).flatten) := by
  show V1 (if l.length ≤ 1000 ∧ k ≤ 1000 ∧ -1000 ≤ k then some (D.tup (List.replicate k.toNat l).flatten) else none) Q ↔ _
  by_cases h : l.length ≤ 1000 ∧ k ≤ 1000 ∧ -1000 ≤ k <;> simp [h]
end
end EV
/-! EV.25: a, b = a list. -/
namespace EV
open PySem PySem.Spec PyProof.Rows L2
section
variable {X : Cx} {cl : Cl}
theorem sg_lst {es : List Expr} {k n : Nat} {pos : Pos} {gs : List Nat} {g : Gs} (hc : X.calm = true) (h : SGs X cl es gs g) (hn : (assignEach es X.env).length = n := by rfl) (hst : (assignEach es X.env).findIdx? (·.1) = none := by rfl) :
    SG X cl (.Tuple es k pos) gs (gLs n g) := PG.imp (pg_lst hc h hn hst) fun v σ H Q ⟨Γ, φ, st, r, d, r', s, en, is, hh, q⟩ => by
  unfold gLs at hh
  split at hh
  · rename_i l
    split at hh
    · rename_i hl
      cases is with
      | lst e q1 => exact ⟨_, _, rfl, .inl (.inl (s.sub _ _ e)), by rw [← q1.length]; exact hl, Γ, φ, st, r, l, r', s, en, q1, hh, q⟩
    · cases hh
  · cases hh
end
@[simp] theorem vLs {n : Nat} {g : Gs} {l : List D} {st : Sto} {r : Env} {Q1 : Env → Prop} : V1 (gLs n g (.lst l) st r) Q1 ↔ l.length = n ∧ V1 (g l st r) Q1 := by
  unfold gLs
  by_cases h : l.length = n <;> simp [h]
end EV
/-! EV.26: dicts: how one stands in the heap. -/
namespace EV
open PySem PySem.Spec PyProof.Rows L2
/-! ### in plain Lean -/
def D.isI : D → Bool
  | .int _ => true
  | _ => false
def D.isK : D → Bool
  | .tup l => match (D.tup l).key with
    | some k => decide (k.depth ≤ 8)
    | none => false
  | _ => false
/-- numbers, or tuples, all of them -/
def keyOk (kvs : List (D × D)) (k : D) : Bool := (k.isI && kvs.all fun p => p.1.isI) || (k.isK && kvs.all fun p => p.1.isK)
def dGet (kvs : List (D × D)) (k : D) : Option D := (kvs.find? fun p => decide (p.1.key = k.key)).map (·.2)
def dPut (kvs : List (D × D)) (k v : D) : List (D × D) := if (kvs.any fun p => decide (p.1.key = k.key)) = true then kvs.map fun p => if p.1.key = k.key then (p.1, v) else p else kvs ++ [(k, v)]
def asD (st : Sto) : D → Option (List (D × D))
  | .ref n => match st[n]? with
    | some (.dct l) => some l
    | _ => none
  | _ => none

theorem isI_eq {d : D} (h : d.isI = true) : ∃ i, d = .int i := by
  cases d <;> first | exact ⟨_, rfl⟩ | cases h
theorem isK_eq {d : D} (h : d.isK = true) : ∃ l k, d = .tup l ∧ (D.tup l).key = some k ∧ k.depth ≤ 8 := by
  cases d with
  | tup l =>
    unfold D.isK at h
    simp only at h
    split at h
    · rename_i k e
      exact ⟨l, k, rfl, e, by simpa using h⟩
    · cases h
  | _ => cases h
theorem key_int (i : Int) : (D.int i).key = some (.num i) := by rw [D.key]
section
variable {C : Cf} {Γ H : Hp} {φ : List Addr} {st : Sto}
/-! ### a tuple as a key -/
mutual
theorem nested_of {X : Cx} {pins : List (Addr × Obj)} {σ : L2.St} {s : Shared} (I : Inv X pins σ H s) (sub : ∀ a o, Γ a = some o → H a = some o) : ∀ {d : D} {v : V} {u : Value} {k : NestedKey}, Is C Γ φ d v → RelV v u → d.key = some k → NestedIs s.heap k u
  | .non, _, _, _, i, r, h => by cases i; rw [D.key] at h; cases h; cases r; exact .none
  | .int j, _, _, _, i, r, h => by
    cases i
    rw [D.key] at h; cases h
    obtain ⟨t, rfl⟩ := r
    exact .int _ _
  | .str x, _, _, _, i, r, h => by
    cases i
    rw [D.key] at h; cases h
    obtain ⟨t, rfl⟩ := r
    exact .text _ _
  | .tup l, _, _, _, i, r, h => by
    rw [D.key] at h
    obtain ⟨ks, h1, h2⟩ := Option.bind_eq_some_iff.mp h
    cases h2
    cases i with
    | tup e q =>
      cases r
      obtain ⟨its, rv, ⟨o, ho, hc, n, hd⟩, hz⟩ := I.tuple (SqT.of (sub _ _ e))
      exact .tup ho hc hd (nested_all I sub q rv h1)
  | .bl _, _, _, _, i, r, h => by rw [D.key] at h <;> first | cases h | (intros; contradiction)
  | .lst _, _, _, _, i, r, h => by rw [D.key] at h <;> first | cases h | (intros; contradiction)
  | .ref _, _, _, _, i, r, h => by rw [D.key] at h <;> first | cases h | (intros; contradiction)
  | .scr _, _, _, _, i, r, h => by rw [D.key] at h <;> first | cases h | (intros; contradiction)
theorem nested_all {X : Cx} {pins : List (Addr × Obj)} {σ : L2.St} {s : Shared} (I : Inv X pins σ H s) (sub : ∀ a o, Γ a = some o → H a = some o) : ∀ {l : List D} {vs : List V} {us : List Value} {ks : List NestedKey}, IsAll C Γ φ l vs → Vals vs us → keyAll l = some ks → NestedAll s.heap ks us
  | [], _, _, _, i, r, h => by
    cases i
    cases r
    rw [keyAll] at h; cases h
    exact .nil
  | d :: l, _, _, _, i, r, h => by
    rw [keyAll] at h
    obtain ⟨k, h1, h⟩ := Option.bind_eq_some_iff.mp h
    obtain ⟨ks, h2, h⟩ := Option.bind_eq_some_iff.mp h
    cases h
    cases i with
    | cons i1 i2 =>
      cases r with
      | cons r1 r2 => exact .cons (nested_of I sub i1 r1 h1) (nested_all I sub i2 r2 h2)
end
/-! ### the two kinds -/
abbrev KvT (C : Cf) (Γ : Hp) (φ : List Addr) : D × D → NestedKey × Addr × Value → Prop := fun p x => p.1.key = some x.1 ∧ x.1.depth ≤ 8 ∧ (∃ ds, p.1 = .tup ds) ∧ Is C Γ φ p.1 (.ref x.2.1) ∧ ∃ v, Is C Γ φ p.2 v ∧ RelV v x.2.2
abbrev KvI (C : Cf) (Γ : Hp) (φ : List Addr) : D × D → Int × Value → Prop := fun p x => p.1 = .int x.1 ∧ ∃ v, Is C Γ φ p.2 v ∧ RelV v x.2
theorem ents_T {prog : Program} : ∀ {kvs : List (D × D)} {es : List DictEntry}, EntsIs C Γ φ kvs es → (kvs.all fun p => p.1.isK) = true → ∃ xs, es = xs.map (entryOfKey (nestedKind prog C.w)) ∧ Paired (KvT C Γ φ) kvs xs
  | _, _, .nil, _ => ⟨[], rfl, .nil⟩
  | _, _, .cons (a := p) (b := en) h hr, ha => by
    rw [List.all_cons, Bool.and_eq_true] at ha
    obtain ⟨xs, e1, e2⟩ := ents_T (prog := prog) hr ha.2
    obtain ⟨⟨v, i1, r1⟩, hk⟩ := h
    obtain ⟨l, k, ep, ek, hd⟩ := isK_eq ha.1
    rcases hk with ⟨i, t, z, _⟩ | ⟨ds, k', b, z1, z2, z3, z4, z5, z6⟩
    · rw [ep] at z; cases z
    · refine ⟨(k', b, en.val) :: xs, ?_, .cons ⟨by rw [z1]; exact z2, z3, ⟨_, z1⟩, by rw [z1]; exact z5, v, i1, r1⟩ e2⟩
      rw [List.map_cons, ← e1]
      congr 1
      obtain ⟨eh, ek, ev⟩ := en
      simp only at z4 z6 ⊢
      rw [z4, z6]; rfl
theorem ents_I {prog : Program} : ∀ {kvs : List (D × D)} {es : List DictEntry}, EntsIs C Γ φ kvs es → (kvs.all fun p => p.1.isI) = true → ∃ xs, Pairs (intKind prog C.w) es xs ∧ (∀ e ∈ es, ∃ k, (intKind prog C.w).is k e.key = true ∧ e.hash = (intKind prog C.w).hash k) ∧ Paired (KvI C Γ φ) kvs xs
  | _, _, .nil, _ => ⟨[], .nil, (fun _ h => nomatch h), .nil⟩
  | _, _, .cons (a := p) (b := en) h hr, ha => by
    rw [List.all_cons, Bool.and_eq_true] at ha
    obtain ⟨xs, e1, e2, e3⟩ := ents_I (prog := prog) hr ha.2
    obtain ⟨⟨v, i1, r1⟩, hk⟩ := h
    obtain ⟨j, ep⟩ := isI_eq ha.1
    rcases hk with ⟨i, t, z1, z2, z3⟩ | ⟨ds, k', b, z1, _⟩
    · have hi : (intKind prog C.w).is i en.key = true := by rw [z2]; show Value.isInt i (.int i t) = true; simp [Value.isInt]
      refine ⟨(i, en.val) :: xs, .cons hi rfl e1, fun e he => ?_, .cons ⟨z1, v, i1, r1⟩ e3⟩
      rcases List.mem_cons.mp he with rfl | he
      · exact ⟨i, hi, z3⟩
      · exact e2 e he
    · rw [ep] at z1; cases z1
theorem back_T {prog : Program} : ∀ {kvs : List (D × D)} {xs : List (NestedKey × Addr × Value)}, Paired (KvT C Γ φ) kvs xs → EntsIs C Γ φ kvs (xs.map (entryOfKey (nestedKind prog C.w)))
  | _, _, .nil => .nil
  | _, _, .cons h hr => by
    obtain ⟨h1, h2, ⟨ds, h3⟩, h4, v, h5, h6⟩ := h
    rw [h3] at h1 h4
    exact .cons ⟨⟨v, h5, h6⟩, .inr ⟨ds, _, _, h3, h1, h2, rfl, h4, rfl⟩⟩ (back_T hr)
theorem back_I {prog : Program} : ∀ {kvs : List (D × D)} {es : List DictEntry} {xs : List (Int × Value)}, Pairs (intKind prog C.w) es xs → (∀ e ∈ es, ∃ k, (intKind prog C.w).is k e.key = true ∧ e.hash = (intKind prog C.w).hash k) → Paired (KvI C Γ φ) kvs xs → EntsIs C Γ φ kvs es
  | _, _, _, .nil, _, .nil => .nil
  | _, _, _, .cons p1 p2 p3, h, .cons q1 q2 => by
    obtain ⟨e1, v, e2, e3⟩ := q1
    obtain ⟨k, k1, k2⟩ := h _ List.mem_cons_self
    have hk := (intKind prog C.w).inj _ _ _ p1 k1
    subst hk
    obtain ⟨t, et⟩ := Value.isInt_shape (show Value.isInt _ _ = true from p1)
    exact .cons ⟨⟨v, e2, by rw [p2]; exact e3⟩, .inl ⟨_, t, e1, et, k2⟩⟩ (back_I p3 (fun e he => h e (List.mem_cons_of_mem _ he)) q2)
end
end EV
/-! EV.27: dicts: what is looked up, what is put. -/
namespace EV
open PySem PySem.Spec PyProof.Rows L2
section
variable {C : Cf} {Γ H : Hp} {φ : List Addr} {st : Sto}
def Got (C : Cf) (Γ : Hp) (φ : List Addr) (o : Option D) (u : Option Value) : Prop := (o = none ∧ u = none) ∨ ∃ d w v, o = some d ∧ u = some w ∧ Is C Γ φ d v ∧ RelV v w
theorem dGet_nil {k : D} : dGet [] k = none := rfl
theorem dGet_cons {p : D × D} {kvs : List (D × D)} {k : D} : dGet (p :: kvs) k = if p.1.key = k.key then some p.2 else dGet kvs k := by
  unfold dGet
  rw [List.find?_cons]
  by_cases h : p.1.key = k.key <;> simp [h]
theorem got_T {k : D} {nk : NestedKey} (hk : k.key = some nk) : ∀ {kvs : List (D × D)} {xs : List (NestedKey × Addr × Value)}, Paired (KvT C Γ φ) kvs xs → Got C Γ φ (dGet kvs k) ((atKey xs nk).map (·.2))
  | _, _, .nil => .inl ⟨rfl, rfl⟩
  | _, _, .cons (a := p) (b := x) h hr => by
    obtain ⟨h1, h2, h3, h4, v, h5, h6⟩ := h
    have ih := got_T hk hr
    rw [dGet_cons, h1, hk]
    unfold atKey at ih ⊢
    rw [List.find?_cons]
    by_cases e : x.1 = nk
    · rw [if_pos (by rw [e]), decide_eq_true e]
      exact .inr ⟨_, _, v, rfl, rfl, h5, h6⟩
    · rw [if_neg (fun z => e (Option.some.inj z)), decide_eq_false e]
      exact ih
theorem got_I {i : Int} : ∀ {kvs : List (D × D)} {xs : List (Int × Value)}, Paired (KvI C Γ φ) kvs xs → Got C Γ φ (dGet kvs (.int i)) (valueAt xs i)
  | _, _, .nil => .inl ⟨rfl, rfl⟩
  | _, _, .cons (a := p) (b := x) h hr => by
    obtain ⟨h1, v, h5, h6⟩ := h
    have ih := got_I (i := i) hr
    rw [dGet_cons, h1, key_int, key_int]
    unfold valueAt at ih ⊢
    rw [List.find?_cons]
    by_cases e : x.1 = i
    · rw [if_pos (by rw [e]), decide_eq_true e]
      exact .inr ⟨_, _, v, rfl, rfl, h5, h6⟩
    · rw [if_neg (fun z => e (by cases z; rfl)), decide_eq_false e]
      exact ih
theorem any_T {k : D} {nk : NestedKey} (hk : k.key = some nk) : ∀ {kvs : List (D × D)} {xs : List (NestedKey × Addr × Value)}, Paired (KvT C Γ φ) kvs xs → (kvs.any fun p => decide (p.1.key = k.key)) = (atKey xs nk).isSome
  | _, _, .nil => rfl
  | _, _, .cons (a := p) (b := x) h hr => by
    have ih := any_T hk hr
    unfold atKey at ih ⊢
    rw [List.any_cons, List.find?_cons, h.1, hk]
    by_cases e : x.1 = nk
    · simp [e]
    · rw [decide_eq_false e, decide_eq_false (fun z => e (Option.some.inj z)), Bool.false_or]
      rw [hk] at ih
      exact ih
theorem put_T {k v : D} {nk : NestedKey} {b : Addr} {vv : V} {u : Value} (hk : k.key = some nk) (hd : nk.depth ≤ 8) (ht : ∃ ds, k = .tup ds) (ik : Is C Γ φ k (.ref b)) (iv : Is C Γ φ v vv) (rv : RelV vv u) {kvs : List (D × D)} {xs : List (NestedKey × Addr × Value)} (P : Paired (KvT C Γ φ) kvs xs) :
    Paired (KvT C Γ φ) (dPut kvs k v) (storedH xs nk b u) := by
  unfold dPut
  rw [any_T hk P]
  cases e : atKey xs nk with
  | none =>
    rw [storedH_new e]
    simp only [Option.isSome_none, Bool.false_eq_true, if_false]
    exact P.snoc ⟨hk, hd, ht, ik, vv, iv, rv⟩
  | some q =>
    rw [storedH_old e]
    simp only [Option.isSome_some, if_true]
    clear e
    induction P with
    | nil => exact .nil
    | @cons p x _ _ h _ ih =>
      refine .cons ?_ ih
      obtain ⟨h1, h2, h3, h4, w, h5, h6⟩ := h
      show KvT C Γ φ (if p.1.key = k.key then (p.1, v) else p) (if x.1 = nk then (x.1, x.2.1, u) else x)
      by_cases e : x.1 = nk
      · rw [if_pos (by rw [h1, hk, e]), if_pos e]
        exact ⟨h1, h2, h3, h4, vv, iv, rv⟩
      · rw [if_neg (by rw [h1, hk]; exact fun z => e (Option.some.inj z)), if_neg e]
        exact ⟨h1, h2, h3, h4, w, h5, h6⟩
theorem any_I {i : Int} : ∀ {kvs : List (D × D)} {xs : List (Int × Value)}, Paired (KvI C Γ φ) kvs xs → (kvs.any fun p => decide (p.1.key = (D.int i).key)) = xs.any fun kv => decide (kv.1 = i)
  | _, _, .nil => rfl
  | _, _, .cons (a := p) (b := x) h hr => by
    have ih := any_I (i := i) hr
    rw [List.any_cons, List.any_cons, ih, h.1, key_int, key_int]
    congr 1
    exact decide_eq_decide.mpr ⟨fun z => by cases z; rfl, fun z => by rw [z]⟩
theorem put_I {v : D} {i : Int} {vv : V} {u : Value} (iv : Is C Γ φ v vv) (rv : RelV vv u) {kvs : List (D × D)} {xs : List (Int × Value)} (P : Paired (KvI C Γ φ) kvs xs) :
    Paired (KvI C Γ φ) (dPut kvs (.int i) v) (stored xs i u) := by
  unfold dPut stored
  rw [any_I P]
  cases e : xs.any fun kv => decide (kv.1 = i) with
  | false =>
    simp only [Bool.false_eq_true, if_false]
    exact P.snoc ⟨rfl, vv, iv, rv⟩
  | true =>
    simp only [if_true]
    clear e
    induction P with
    | nil => exact .nil
    | @cons p x _ _ h _ ih =>
      refine .cons ?_ ih
      obtain ⟨h1, w, h5, h6⟩ := h
      show KvI C Γ φ (if p.1.key = (D.int i).key then (p.1, v) else p) (if x.1 = i then (x.1, u) else x)
      by_cases e : x.1 = i
      · rw [if_pos (by rw [h1, e]), if_pos e]
        exact ⟨h1, vv, iv, rv⟩
      · rw [if_neg (by rw [h1, key_int, key_int]; exact fun z => e (by cases z; rfl)), if_neg e]
        exact ⟨h1, w, h5, h6⟩
theorem dPut_len {kvs : List (D × D)} {k v : D} : (dPut kvs k v).length ≤ kvs.length + 1 := by
  unfold dPut; split <;> simp
theorem keys_map {kvs : List (D × D)} {k v : D} : (kvs.map fun p => if p.1.key = k.key then (p.1, v) else p).map (fun p => p.1.key) = kvs.map fun p => p.1.key := by
  rw [List.map_map]
  refine List.map_congr_left fun p _ => ?_
  simp only [Function.comp]
  split <;> rfl
theorem dPut_nodup {kvs : List (D × D)} {k v : D} (h : (kvs.map fun p => p.1.key).Nodup) : ((dPut kvs k v).map fun p => p.1.key).Nodup := by
  unfold dPut
  split
  · rw [keys_map]; exact h
  · rename_i e
    rw [List.map_append, List.nodup_append]
    refine ⟨h, by simp, fun a ha b hb => ?_⟩
    simp only [List.map_cons, List.map_nil, List.mem_singleton] at hb
    obtain ⟨p, hp, rfl⟩ := List.mem_map.mp ha
    subst hb
    intro z
    exact e (List.any_eq_true.mpr ⟨p, hp, decide_eq_true z⟩)
theorem nodup_un {α β : Type} (f : α → β) {l : List α} (h : (l.map f).Nodup) : l.Nodup := List.nodup_iff_pairwise_ne.mpr ((List.pairwise_map.mp (List.nodup_iff_pairwise_ne.mp h)).imp fun hne e => hne (by rw [e]))
theorem nodup_T {kvs : List (D × D)} {xs : List (NestedKey × Addr × Value)} (P : Paired (KvT C Γ φ) kvs xs) (h : (kvs.map fun p => p.1.key).Nodup) : (xs.map (·.1)).Nodup := by
  have e : (kvs.map fun p => p.1.key) = (xs.map (·.1)).map some := by
    clear h
    induction P with
    | nil => rfl
    | cons h _ ih => rw [List.map_cons, List.map_cons, List.map_cons, ih, h.1]
  rw [e] at h
  exact nodup_un _ h
theorem nodup_I {kvs : List (D × D)} {xs : List (Int × Value)} (P : Paired (KvI C Γ φ) kvs xs) (h : (kvs.map fun p => p.1.key).Nodup) : (xs.map (·.1)).Nodup := by
  have e : (kvs.map fun p => p.1.key) = (xs.map (·.1)).map fun i => some (NestedKey.num i) := by
    clear h
    induction P with
    | nil => rfl
    | cons h _ ih => rw [List.map_cons, List.map_cons, List.map_cons, ih, h.1, key_int]
  rw [e] at h
  exact nodup_un _ h
end
end EV
/-! EV.28: dicts: looked up, asked, written, by the library's rules. -/
namespace EV
open PySem PySem.Spec PyProof.Rows L2
section
variable {X : Cx} {cl : Cl} {pins : List (Addr × Obj)} {σ : L2.St} {s : Shared} {Γ H : Hp} {φ : List Addr} {st : Sto} {A : Around} {E : Value → Shared → Prop} {kvs : List (D × D)} {n : Nat} {a : Addr} {k : D} {y : V} {u : Value}
theorem room_n (hu : A.units + 50 < cLine) : (nestedKind X.prog X.w).room A.in1 := by
  show A.units + 1 + 8 < cLine
  omega
structure AtD (X : Cx) (cl : Cl) (s : Shared) (Γ H : Hp) (φ : List Addr) (kvs : List (D × D)) (a : Addr) (es : List DictEntry) : Prop where
  hp : H a = some (.ext (DAt a es))
  en : EntsIs (cf X cl) Γ φ kvs es
  nd : (kvs.map fun p => p.1.key).Nodup
  ln : kvs.length ≤ sizeLine
  ns : (a == sysModules) = false
  ob : ∃ o ep, s.heap.get? a = some o ∧ o.ExactDict ∧ o.data = .dict es.toArray ep
theorem at_dct (I : Inv X pins σ H s) (sm : Sim (cf X cl) Γ H φ st) (hn : st[n]? = some (.dct kvs)) (ha : φ[n]? = some a) : ∃ es, AtD X cl s Γ H φ kvs a es := by
  obtain ⟨es, h1, h2, h3, h4⟩ := sm.cell _ _ _ hn ha
  obtain ⟨⟨d1, d2⟩, _, _⟩ := I.hok a _ h1
  exact ⟨es, h1, h2, h3, h4, d1, d2⟩
theorem AtD.typeIs {es : List DictEntry} (h : AtD X cl s Γ H φ kvs a es) : s.TypeIs (.ref a) "dict" := let ⟨o, _, h1, h2, _⟩ := h.ob; ⟨o, h1, h2.1⟩
theorem AtD.noDict {es : List DictEntry} (h : AtD X cl s Γ H φ kvs a es) : ∀ b, Value.ref a = .ref b → ∃ ob, s.heap.get? b = some ob ∧ ob.dict = none := fun b q => by
  cases q
  obtain ⟨o, _, h1, h2, _⟩ := h.ob
  exact ⟨o, h1, h2.2.1⟩
theorem AtD.raw {es : List DictEntry} (h : AtD X cl s Γ H φ kvs a es) : ∃ ep, s.heap.DictRaw a es.toArray ep := let ⟨o, ep, h1, h2, h3⟩ := h.ob; ⟨ep, o, h1, h2, h3⟩
theorem asT (I : Inv X pins σ H s) (sm : Sim (cf X cl) Γ H φ st) {es : List DictEntry} (h : AtD X cl s Γ H φ kvs a es) (hk : (kvs.all fun p => p.1.isK) = true) : ∃ xs, s.heap.DictOfH (nestedKind X.prog X.w) a xs ∧ Paired (KvT (cf X cl) Γ φ) kvs xs ∧ es = xs.map (entryOfKey (nestedKind X.prog X.w)) := by
  obtain ⟨xs, e1, e2⟩ := ents_T (prog := X.prog) h.en hk
  obtain ⟨o, ep, h1, h2, h3⟩ := h.ob
  refine ⟨xs, ⟨o, es.toArray, ep, h1, h2, h3, by rw [e1], fun x hx => ?_, nodup_T e2 h.nd⟩, e2, e1⟩
  clear e1 hk
  have key : ∀ (kvs : List (D × D)) (xs : List (NestedKey × Addr × Value)), Paired (KvT (cf X cl) Γ φ) kvs xs → x ∈ xs → (nestedKind X.prog X.w).is s.heap x.1 x.2.1 := by
    intro kvs xs P
    induction P with
    | nil => intro h; cases h
    | cons h _ ih =>
      intro hx
      rcases List.mem_cons.mp hx with rfl | hx
      · exact ⟨nested_of I sm.sub h.2.2.2.1 rfl h.1, h.2.1⟩
      · exact ih hx
  exact key kvs xs e2 hx
theorem asI {es : List DictEntry} (h : AtD X cl s Γ H φ kvs a es) (hk : (kvs.all fun p => p.1.isI) = true) : ∃ xs, s.heap.DictOf (intKind X.prog X.w) a xs ∧ Paired (KvI (cf X cl) Γ φ) kvs xs := by
  obtain ⟨xs, e1, e2, e3⟩ := ents_I (prog := X.prog) h.en hk
  obtain ⟨o, ep, h1, h2, h3⟩ := h.ob
  exact ⟨xs, ⟨o, es.toArray, ep, h1, h2, h3, fun e he => e2 e (by simpa using he), by simpa using e1, nodup_I e3 h.nd⟩, e3⟩
/-- a key's two kinds -/
theorem key_cases (h : keyOk kvs k = true) : (∃ i, k = .int i ∧ (kvs.all fun p => p.1.isI) = true) ∨ (∃ l nk, k = .tup l ∧ (D.tup l).key = some nk ∧ nk.depth ≤ 8 ∧ (kvs.all fun p => p.1.isK) = true) := by
  unfold keyOk at h
  rw [Bool.or_eq_true, Bool.and_eq_true, Bool.and_eq_true] at h
  rcases h with ⟨h1, h2⟩ | ⟨h1, h2⟩
  · obtain ⟨i, e⟩ := isI_eq h1
    exact .inl ⟨i, e, h2⟩
  · obtain ⟨l, nk, e1, e2, e3⟩ := isK_eq h1
    exact .inr ⟨l, nk, e1, e2, e3, h2⟩
theorem key_is (I : Inv X pins σ H s) (sm : Sim (cf X cl) Γ H φ st) {l : List D} {nk : NestedKey} {b : Addr} (e : (D.tup l).key = some nk) (hd : nk.depth ≤ 8) (ik : Is (cf X cl) Γ φ (.tup l) (.ref b)) : (nestedKind X.prog X.w).is s.heap nk b := ⟨nested_of I sm.sub ik rfl e, hd⟩
theorem int_is {i : Int} {t : Tok} : (intKind X.prog X.w).is i (.int i t) = true := by show Value.isInt i (.int i t) = true; simp [Value.isInt]
/-- d[k] -/
theorem dd_get {Q : Value → Shared → Prop} {d : D} {es : List DictEntry} (hu : A.units + 50 < cLine) (I : Inv X pins σ H s) (sm : Sim (cf X cl) Γ H φ st) (hd : AtD X cl s Γ H φ kvs a es) (hk : keyOk kvs k = true) (ik : Is (cf X cl) Γ φ k y) (ry : RelV y u) (e : dGet kvs k = some d)
    (h : ∀ v w s', Inv X pins σ H s' → Is (cf X cl) Γ φ d v → RelV v w → Q w s') : wpAny (model X.prog X.w) A (getItem (.ref a) u) Q E s := by
  rcases key_cases hk with ⟨i, rfl, ha⟩ | ⟨l, nk, rfl, ek, hdp, ha⟩
  · obtain ⟨xs, x1, x2⟩ := asI hd ha
    cases ik
    obtain ⟨t, rfl⟩ := ry
    rcases got_I (i := i) x2 with ⟨g1, _⟩ | ⟨d', w, v, g1, g2, g3, g4⟩
    · rw [g1] at e; cases e
    · rw [g1] at e; cases e
      exact wpAny_getItem_of int_is x1.mapOf g2 (h v w _ (I.tok _) g3 g4)
  · obtain ⟨xs, x1, x2, _⟩ := asT I sm hd ha
    have ik' := ik
    cases ik with
    | tup _ _ =>
      cases ry
      rcases got_T ek x2 with ⟨g1, _⟩ | ⟨d', w, v, g1, g2, g3, g4⟩
      · rw [g1] at e; cases e
      · rw [g1] at e; cases e
        obtain ⟨p, hp, hp2⟩ := Option.map_eq_some_iff.mp g2
        refine wpAny_getItem_heap (room_n hu) (key_is I sm ek hdp ik') x1 hp ?_
        rw [hp2]
        exact h v w _ (I.tok _) g3 g4
theorem got_isSome {o : Option D} {w : Option Value} (h : Got (cf X cl) Γ φ o w) : w.isSome = o.isSome := by
  rcases h with ⟨rfl, rfl⟩ | ⟨_, _, _, rfl, rfl, _⟩ <;> rfl
/-- k in d -/
theorem dd_in {Q : Value → Shared → Prop} {es : List DictEntry} (hu : A.units + 50 < cLine) (I : Inv X pins σ H s) (sm : Sim (cf X cl) Γ H φ st) (hd : AtD X cl s Γ H φ kvs a es) (hk : keyOk kvs k = true) (ik : Is (cf X cl) Γ φ k y) (ry : RelV y u)
    (h : ∀ s', Inv X pins σ H s' → Q (.bool (dGet kvs k).isSome) s') : wpAny (model X.prog X.w) A (compareOp .In u (.ref a)) Q E s := by
  rcases key_cases hk with ⟨i, rfl, ha⟩ | ⟨l, nk, rfl, ek, hdp, ha⟩
  · obtain ⟨xs, x1, x2⟩ := asI hd ha
    cases ik
    obtain ⟨t, rfl⟩ := ry
    refine wpAny_in_of int_is hd.ns x1.mapOf ?_
    rw [got_isSome (got_I (i := i) x2)]
    exact h _ (I.tok _)
  · obtain ⟨xs, x1, x2, _⟩ := asT I sm hd ha
    have ik' := ik
    cases ik with
    | tup _ _ =>
      cases ry
      refine wpAny_in_heap (room_n hu) (key_is I sm ek hdp ik') hd.ns x1 ?_
      have g := got_isSome (got_T ek x2)
      rw [Option.isSome_map] at g
      rw [g]
      exact h _ (I.tok _)
theorem dd_notIn {Q : Value → Shared → Prop} {es : List DictEntry} (hu : A.units + 50 < cLine) (I : Inv X pins σ H s) (sm : Sim (cf X cl) Γ H φ st) (hd : AtD X cl s Γ H φ kvs a es) (hk : keyOk kvs k = true) (ik : Is (cf X cl) Γ φ k y) (ry : RelV y u)
    (h : ∀ s', Inv X pins σ H s' → Q (.bool (!(dGet kvs k).isSome)) s') : wpAny (model X.prog X.w) A (compareOp .NotIn u (.ref a)) Q E s := by
  rcases key_cases hk with ⟨i, rfl, ha⟩ | ⟨l, nk, rfl, ek, hdp, ha⟩
  · obtain ⟨xs, x1, x2⟩ := asI hd ha
    cases ik
    obtain ⟨t, rfl⟩ := ry
    refine wpAny_notIn_of int_is hd.ns x1.mapOf ?_
    rw [got_isSome (got_I (i := i) x2)]
    exact h _ (I.tok _)
  · obtain ⟨xs, x1, x2, _⟩ := asT I sm hd ha
    have ik' := ik
    cases ik with
    | tup _ _ =>
      cases ry
      refine wpAny_notIn_heap (room_n hu) (key_is I sm ek hdp ik') hd.ns x1 ?_
      have g := got_isSome (got_T ek x2)
      rw [Option.isSome_map] at g
      rw [g]
      exact h _ (I.tok _)
/-- d.get(k, x) -/
theorem dd_get2 {Q : Value → Shared → Prop} {es : List DictEntry} {x : D} {xv : V} {xu : Value} (hu : A.units + 50 < cLine) (I : Inv X pins σ H s) (sm : Sim (cf X cl) Γ H φ st) (hd : AtD X cl s Γ H φ kvs a es) (hk : keyOk kvs k = true) (ik : Is (cf X cl) Γ φ k y) (ry : RelV y u) (ix : Is (cf X cl) Γ φ x xv) (rx : RelV xv xu)
    (h : ∀ v w s', Inv X pins σ H s' → Is (cf X cl) Γ φ ((dGet kvs k).getD x) v → RelV v w → Q w s') : wpAny (model X.prog X.w) A (call (.builtin "dict.get") [.ref a, u, xu]) Q E s := by
  have fin : ∀ w : Option Value, Got (cf X cl) Γ φ (dGet kvs k) w → ∀ s', Inv X pins σ H s' → Q (w.getD xu) s' := fun w g s' I' => by
    rcases g with ⟨e1, rfl⟩ | ⟨d, w', v, e1, rfl, g3, g4⟩
    · exact h xv xu s' I' (by rw [e1]; exact ix) rx
    · exact h v w' s' I' (by rw [e1]; exact g3) g4
  rcases key_cases hk with ⟨i, rfl, ha⟩ | ⟨l, nk, rfl, ek, hdp, ha⟩
  · obtain ⟨xs, x1, x2⟩ := asI hd ha
    cases ik
    obtain ⟨t, rfl⟩ := ry
    exact call_meetsIn PySem.F.slot_dict_get hd.typeIs PySem.F.entry_dict_get (PySem.F.args_dict_get_3 _ _ _) (meets_dict_get_default (intKind X.prog X.w) a int_is hd.ns xu) ⟨_, x1.mapOf, fin _ (got_I (i := i) x2) _ (I.tok _)⟩
  · obtain ⟨xs, x1, x2, _⟩ := asT I sm hd ha
    have ik' := ik
    cases ik with
    | @tup b _ _ _ _ =>
      cases ry
      exact call_meetsIn PySem.F.slot_dict_get hd.typeIs PySem.F.entry_dict_get (PySem.F.args_dict_get_3 _ _ _) (meetsH_dict_get_default (nestedKind X.prog X.w) a b hd.ns xu) ⟨room_n hu, nk, xs, key_is I sm ek hdp ik', x1, fin _ (got_T ek x2) _ (I.tok _)⟩
/-- d[k] = v -/
theorem dd_set {Q : Unit → Shared → Prop} {es : List DictEntry} {x : D} {xv : V} {xu : Value} (hu : A.units + 50 < cLine) (I : Inv X pins σ H s) (sm : Sim (cf X cl) Γ H φ st) (hd : AtD X cl s Γ H φ kvs a es) (hk : keyOk kvs k = true) (hl : kvs.length < LIM) (ik : Is (cf X cl) Γ φ k y) (ry : RelV y u) (ix : Is (cf X cl) Γ φ x xv) (rx : RelV xv xu)
    (h : ∀ es' s', EntsIs (cf X cl) Γ φ (dPut kvs k x) es' → Inv X pins σ (upd H a (.ext (DAt a es'))) s' → Q () s') : wpAny (model X.prog X.w) A (setItem (.ref a) u xu) Q E s := by
  have mu : Mut (H a) := by rw [hd.hp]; exact True.intro
  have fin : ∀ es' h' t', EntsIs (cf X cl) Γ φ (dPut kvs k x) es' → Heap.SameBut a s.heap h' → (∃ o ep, h'.get? a = some o ∧ o.ExactDict ∧ o.data = .dict es'.toArray ep) → Q () { s with heap := h', toks := t' } := fun es' h' t' en sb ob => by
    obtain ⟨o, ep, o1, o2, o3⟩ := ob
    refine h es' _ en (d_write I mu sb ⟨o, o1⟩ ⟨⟨hd.ns, o, ep, o1, o2, o3⟩, ⟨o, o1⟩, fun h1 h2 p q => ?_⟩)
    obtain ⟨p1, o, ep, p2, p3⟩ := p
    exact ⟨p1, o, ep, q o p2, p3⟩
  rcases key_cases hk with ⟨i, rfl, ha⟩ | ⟨l, nk, rfl, ek, hdp, ha⟩
  · obtain ⟨xs, x1, x2⟩ := asI hd ha
    have hz : xs.length ≤ sizeLine := by rw [← Paired.length x2]; exact hd.ln
    cases ik
    obtain ⟨t, rfl⟩ := ry
    refine wpAny_setItem_pairs (hsz := hz) int_is x1 fun h' dd hs => ?_
    obtain ⟨o, es', ep, o1, o2, o3, o4, o5, o6⟩ := dd
    refine fin es'.toList h' _ (back_I (by simpa using o5) (fun e he => o4 e (by simpa using he)) (put_I ix rx x2)) hs ⟨o, ep, o1, o2, by simpa using o3⟩
  · obtain ⟨xs, x1, x2, _⟩ := asT I sm hd ha
    have hz : xs.length ≤ sizeLine := by rw [← Paired.length x2]; exact hd.ln
    have ik' := ik
    cases ik with
    | @tup b _ _ _ _ =>
      cases ry
      refine wpAny_setItem_heap (hsz := hz) (room_n hu) (key_is I sm ek hdp ik') x1 fun h' dd hs => ?_
      obtain ⟨o, es', ep, o1, o2, o3, o4, _, o6⟩ := dd
      refine fin es'.toList h' _ ?_ hs ⟨o, ep, o1, o2, by simpa using o3⟩
      rw [o4]
      exact back_T (put_T ek hdp ⟨_, rfl⟩ ik' ix rx x2)
end
end EV
/-! EV.29: dicts: the rules. -/
namespace EV
open PySem PySem.Spec PyProof.Rows L2
/-! ### meanings: a dict's, or else a list's or tuple's -/
def oIdxA (st : Sto) (x i : D) : Option D := match asD st x with
  | some kvs => if keyOk kvs i = true then dGet kvs i else none
  | none => oIdx st x i
def oInA (st : Sto) (x y : D) : Option D := match asD st y with
  | some kvs => if keyOk kvs x = true then some (.bl (dGet kvs x).isSome) else none
  | none => oIn st x y
def oNotInA (st : Sto) (x y : D) : Option D := match asD st y with
  | some kvs => if keyOk kvs x = true then some (.bl (!(dGet kvs x).isSome)) else none
  | none => oNotIn st x y
def setIdxA (st : Sto) (o i v : D) : Option Sto := match o with
  | .ref n => match st[n]? with
    | some (.dct kvs) => if keyOk kvs i = true ∧ kvs.length < LIM then some (st.set n (.dct (dPut kvs i v))) else none
    | _ => setIdx st o i v
  | _ => setIdx st o i v
def sSetIxA (o i e : E) : S := fun r st => (e r st).bind fun v => (o r v.2).bind fun x => (i r x.2).bind fun y => (setIdxA y.2 x.1 y.1 v.1).bind fun st1 => some (.next r, st1)
def sAugIxA (o i : E) (f : Sto → D → D → Option D) (e : E) : S := fun r st => (o r st).bind fun x => (i r x.2).bind fun y => (oIdxA y.2 x.1 y.1).bind fun old => (e r y.2).bind fun v => (f v.2 old v.1).bind fun z => (setIdxA v.2 x.1 y.1 z).bind fun st1 => some (.next r, st1)
/-- d.get(k, x) -/
def eGet2 (o k x : E) : E := fun r st => (o r st).bind fun a => (k r a.2).bind fun b => (x r b.2).bind fun c => (asD c.2 a.1).bind fun kvs => (asD a.2 a.1).bind fun _ => if keyOk kvs b.1 = true then some ((dGet kvs b.1).getD c.1, c.2) else none
/-- {} -/
def eNewD : E := fun _ st => some (.ref st.length, st ++ [.dct []])
theorem asD_eq {st : Sto} {d : D} {kvs : List (D × D)} (h : asD st d = some kvs) : ∃ n, d = .ref n ∧ st[n]? = some (.dct kvs) := by
  cases d with
  | ref n =>
    unfold asD at h
    simp only at h
    split at h
    · rename_i l e
      cases h
      exact ⟨n, rfl, e⟩
    · cases h
  | _ => cases h
section
variable {X : Cx} {cl : Cl} {a b c e e2 e3 o i : Expr} {ea eb ec eo ei : E} {pos : Pos} {k : Nat}
theorem RG.fifty (hr : RG k X.A) : X.A.units + 50 < cLine := by have := hr.rm.un; omega
theorem ix_A (hr : RG k X.A) : IxR X (rD (cf X cl) oIdxA) := by
  intro value slice pins s σ H x y v u Q I rx ry h0 hs
  obtain ⟨Γ, φ, st, dx, dy, d, sm, i1, i2, h, q⟩ := id h0
  cases ed : asD st dx with
  | none =>
    have e : oIdxA st dx dy = oIdx st dx dy := by unfold oIdxA; rw [ed]
    rw [e] at h
    exact ix_D value slice pins s σ H x y v u Q I rx ry ⟨Γ, φ, st, dx, dy, d, sm, i1, i2, h, q⟩ hs
  | some kvs =>
    have e : oIdxA st dx dy = if keyOk kvs dy = true then dGet kvs dy else none := by unfold oIdxA; rw [ed]
    rw [e] at h
    split at h
    · rename_i hk
      obtain ⟨n, rfl, hn⟩ := asD_eq ed
      cases i1 with
      | @ref _ p hp =>
        cases rx
        obtain ⟨es, at1⟩ := at_dct I sm hn hp
        have hT := at1.typeIs
        unfold subscriptTail
        refine wpAny_bind ?_
        rw [getitemInPython_of_ne hT.not_modules]
        refine wpAny_bind (wpAny_specialOf hT PySem.F.slot_dict_getitem.lookup ?_)
        have fin : wpAny (model X.prog X.w) X.A (subscripted slice false (Value.ref p) u) (fun r s₃ => wpAny (model X.prog X.w) X.A (letTemporaryGo value (Value.ref p) r >>= fun _ => pure r) (EP X pins σ Q) X.xe s₃) X.xe s := by
          rw [hs]
          refine wpAny_operating (dd_get hr.fifty I sm at1 hk i2 ry h fun vv w s' I' iv rv => ?_)
          exact wpAny_bind (wpAny_letTemporaryGo (wpAny_pure ⟨vv, H, I', rv, q _ _ _ _ (.refl sm) sm iv⟩))
        first
          | exact wpAny_pure (wpAny_bind fin)
          | exact wpAny_bind (wpAny_pure (wpAny_bind fin))
          | exact wpAny_bind fin
    · cases h
theorem get_A (hr : RG k X.A) : PGet X (rD (cf X cl) oIdxA) := by
  intro pins s σ H x y v u Q I rx ry h0
  obtain ⟨Γ, φ, st, dx, dy, d, sm, i1, i2, h, q⟩ := id h0
  cases ed : asD st dx with
  | none =>
    have e : oIdxA st dx dy = oIdx st dx dy := by unfold oIdxA; rw [ed]
    rw [e] at h
    exact get_D pins s σ H x y v u Q I rx ry ⟨Γ, φ, st, dx, dy, d, sm, i1, i2, h, q⟩
  | some kvs =>
    have e : oIdxA st dx dy = if keyOk kvs dy = true then dGet kvs dy else none := by unfold oIdxA; rw [ed]
    rw [e] at h
    split at h
    · rename_i hk
      obtain ⟨n, rfl, hn⟩ := asD_eq ed
      cases i1 with
      | @ref _ p hp =>
        cases rx
        obtain ⟨es, at1⟩ := at_dct I sm hn hp
        exact dd_get hr.fifty I sm at1 hk i2 ry h fun vv w s' I' iv rv => ⟨vv, H, I', rv, q _ _ _ _ (.refl sm) sm iv⟩
    · cases h
theorem op_inA (hr : RG k X.A) : OpR X (compareOp .In) (rD (cf X cl) oInA) := by
  intro pins s σ H x y v u Q I rx ry h0
  obtain ⟨Γ, φ, st, dx, dy, d, sm, i1, i2, h, q⟩ := id h0
  cases ed : asD st dy with
  | none =>
    have e : oInA st dx dy = oIn st dx dy := by unfold oInA; rw [ed]
    rw [e] at h
    exact op_inD' pins s σ H x y v u Q I rx ry ⟨Γ, φ, st, dx, dy, d, sm, i1, i2, h, q⟩
  | some kvs =>
    have e : oInA st dx dy = if keyOk kvs dx = true then some (.bl (dGet kvs dx).isSome) else none := by unfold oInA; rw [ed]
    rw [e] at h
    split at h
    · rename_i hk
      cases h
      obtain ⟨n, rfl, hn⟩ := asD_eq ed
      cases i2 with
      | @ref _ p hp =>
        cases ry
        obtain ⟨es, at1⟩ := at_dct I sm hn hp
        exact dd_in hr.fifty I sm at1 hk i1 rx fun s' I' => ⟨.bl _, H, I', rfl, q _ _ _ _ (.refl sm) sm (.bl _)⟩
    · cases h
theorem op_notInA (hr : RG k X.A) : OpR X (compareOp .NotIn) (rD (cf X cl) oNotInA) := by
  intro pins s σ H x y v u Q I rx ry h0
  obtain ⟨Γ, φ, st, dx, dy, d, sm, i1, i2, h, q⟩ := id h0
  cases ed : asD st dy with
  | none =>
    have e : oNotInA st dx dy = oNotIn st dx dy := by unfold oNotInA; rw [ed]
    rw [e] at h
    exact op_notInD' pins s σ H x y v u Q I rx ry ⟨Γ, φ, st, dx, dy, d, sm, i1, i2, h, q⟩
  | some kvs =>
    have e : oNotInA st dx dy = if keyOk kvs dx = true then some (.bl (!(dGet kvs dx).isSome)) else none := by unfold oNotInA; rw [ed]
    rw [e] at h
    split at h
    · rename_i hk
      cases h
      obtain ⟨n, rfl, hn⟩ := asD_eq ed
      cases i2 with
      | @ref _ p hp =>
        cases ry
        obtain ⟨es, at1⟩ := at_dct I sm hn hp
        exact dd_notIn hr.fifty I sm at1 hk i1 rx fun s' I' => ⟨.bl _, H, I', rfl, q _ _ _ _ (.refl sm) sm (.bl _)⟩
    · cases h
theorem se_ixA (hr : RG k X.A) (ha : SE X cl a ea) (hb : SE X cl b eb) (hs : PlainIx b := by exact fun _ _ => rfl) : SE X cl (.Subscript a b pos) (eOp oIdxA ea eb) := PE.imp (pe_ix (ix_A hr) ha hb hs) fun _ _ _ h => top_of h
def tSetA (C : Cf) : TSet := fun o i v H Q => ∃ Γ φ st dx dy dz st', Sim C Γ H φ st ∧ Is C Γ φ dx o ∧ Is C Γ φ dy i ∧ Is C Γ φ dz v ∧ setIdxA st dx dy dz = some st' ∧ ∀ H', Ext Γ H φ Γ H' φ → Sim C Γ H' φ st' → Q H'
theorem not_ownD {H : Hp} {p : Addr} {g : Heap → Prop} (h : H p = some (.ext g)) : ∀ u, H p = some u → ∀ a, u ≠ .own a := fun u e a z => by rw [h] at e; cases e; cases z
theorem set_A (hr : RG k X.A) : PSet X (tSetA (cf X cl)) := by
  intro pins s σ H o i v ov iv u Q I ro ri rv h
  obtain ⟨Γ, φ, st, dx, dy, dz, st', sm, i1, i2, i3, h, q⟩ := h
  cases ed : asD st dx with
  | none =>
    have e : setIdxA st dx dy dz = setIdx st dx dy dz := by
      unfold setIdxA
      cases dx with
      | ref n =>
        unfold asD at ed
        simp only at ed ⊢
        split
        · rename_i l e; rw [e] at ed; cases ed
        · rfl
      | _ => rfl
    rw [e] at h
    exact set_D pins s σ H o i v ov iv u Q I ro ri rv ⟨Γ, φ, st, dx, dy, dz, st', sm, i1, i2, i3, h, q⟩
  | some kvs =>
    obtain ⟨n, rfl, hn⟩ := asD_eq ed
    have e : setIdxA st (.ref n) dy dz = if keyOk kvs dy = true ∧ kvs.length < LIM then some (st.set n (.dct (dPut kvs dy dz))) else none := by
      unfold setIdxA
      simp only [hn]
    rw [e] at h
    split at h
    · rename_i hk
      cases h
      cases i1 with
      | @ref _ p hp =>
        cases ro
        obtain ⟨es, at1⟩ := at_dct I sm hn hp
        refine dd_set hr.fifty I sm at1 hk.1 hk.2 i2 ri i3 rv fun es' s' en I' => ⟨_, I', ?_⟩
        have hl : (dPut kvs dy dz).length ≤ sizeLine := by
          have h1 := dPut_len (kvs := kvs) (k := dy) (v := dz)
          have h2 := hk.2
          rw [sizeLine_eq]
          simp only [LIM] at h2
          omega
        obtain ⟨s2, x2⟩ := sm.write (o := .ext (DAt p es')) (c := .dct (dPut kvs dy dz)) hp (not_ownD at1.hp) ⟨es', upd_same, en, dPut_nodup at1.nd, hl⟩
        exact q _ x2 s2
    · cases h
theorem ss_setixA (hr : RG k X.A) (ho : SE X cl e ea) (hi : SE X cl e2 eb) (he : SE X cl e3 ec) {p2 : Pos}
    (ha : ∀ v, assign (.Subscript e e2 p2) X.env v = (do
      let ov ← holding [v] (eval e X.env)
      let iv ← holding [v, ov] (eval e2 X.env)
      standAt p2
      holding [v, ov, iv] (setItem ov iv v)
      release [v, ov, iv] []) := by intro _; rfl)
    (hs : swapsWithSole [.Subscript e e2 p2] e3 pos.line X.env = pure false := by rfl) (hw : swappedStores [.Subscript e e2 p2] e3 X.env = pure none := by rfl)
    (h1 : (assignEach [.Subscript e e2 p2] X.env).map (·.2) = [assign (.Subscript e e2 p2) X.env] := by rfl) : SS X cl (.Assign [.Subscript e e2 p2] e3 pos) (sSetIxA ea eb ec) :=
  PS.imp (ps_asg he (pg_sub ho hi (set_A (cl := cl) hr) ha) hs hw h1) fun Dn σ H h => by
    obtain ⟨Γ, φ, st, r, o, st', s, en, h, q⟩ := h
    unfold sSetIxA at h
    obtain ⟨v, g1, h⟩ := Option.bind_eq_some_iff.mp h
    obtain ⟨x, g2, h⟩ := Option.bind_eq_some_iff.mp h
    obtain ⟨y, g3, h⟩ := Option.bind_eq_some_iff.mp h
    obtain ⟨z, g4, h⟩ := Option.bind_eq_some_iff.mp h
    cases h
    exact ⟨Γ, φ, st, r, v.1, v.2, s, en, g1, fun Γ1 H1 φ1 v1 x1 s1 i1 => ⟨Γ1, φ1, v.2, r, x.1, x.2, s1, x1.env en, g2, fun Γ2 H2 φ2 v2 x2 s2 i2 => ⟨Γ2, φ2, x.2, r, y.1, y.2, s2, x2.env (x1.env en), g3, fun Γ3 H3 φ3 v3 x3 s3 i3 =>
      ⟨Γ3, φ3, y.2, x.1, y.1, v.1, _, s3, x3.is i2, i3, x3.is (x2.is i1), g4, fun H4 x4 s4 => q _ _ _ (((x1.trans x2).trans x3).trans x4) s4 σ (x4.env (x3.env (x2.env (x1.env en)))) rfl⟩⟩⟩⟩
theorem ss_augixA {op : Operator} {p2 : Pos} {f : Sto → D → D → Option D} (hr : RG k X.A) (ho : SE X cl e ea) (hi : SE X cl e2 eb) (hp : PIp X op (rD (cf X cl) f)) (he : SE X cl e3 ec)
    (ha : ∀ ov iv new, augStore e2 ov iv new = (do holding [new, ov, iv] (setItem ov iv new); release [new, ov, iv] []; pure .next) := by intros; rfl) : SS X cl (.AugAssign (.Subscript e e2 p2) op e3 pos) (sAugIxA ea eb f ec) :=
  PS.imp (ps_augS ho hi (get_A (cl := cl) hr) he hp (set_A (cl := cl) hr) ha) fun Dn σ H h => by
    obtain ⟨Γ, φ, st, r, o, st', s, en, h, q⟩ := h
    unfold sAugIxA at h
    obtain ⟨x, g1, h⟩ := Option.bind_eq_some_iff.mp h
    obtain ⟨y, g2, h⟩ := Option.bind_eq_some_iff.mp h
    obtain ⟨old, g3, h⟩ := Option.bind_eq_some_iff.mp h
    obtain ⟨v, g4, h⟩ := Option.bind_eq_some_iff.mp h
    obtain ⟨z, g5, h⟩ := Option.bind_eq_some_iff.mp h
    obtain ⟨t, g6, h⟩ := Option.bind_eq_some_iff.mp h
    cases h
    exact ⟨Γ, φ, st, r, x.1, x.2, s, en, g1, fun Γ1 H1 φ1 v1 x1 s1 i1 => ⟨Γ1, φ1, x.2, r, y.1, y.2, s1, x1.env en, g2, fun Γ2 H2 φ2 v2 x2 s2 i2 => ⟨Γ2, φ2, y.2, x.1, y.1, old, s2, x2.is i1, i2, g3, fun Γ3 H3 φ3 v3 x3 s3 i3 =>
      ⟨Γ3, φ3, y.2, r, v.1, v.2, s3, x3.env (x2.env (x1.env en)), g4, fun Γ4 H4 φ4 v4 x4 s4 i4 => ⟨Γ4, φ4, v.2, old, v.1, z, s4, x4.is i3, i4, g5, fun Γ5 H5 φ5 v5 x5 s5 i5 =>
        ⟨Γ5, φ5, v.2, x.1, y.1, z, _, s5, x5.is (x4.is (x3.is (x2.is i1))), x5.is (x4.is (x3.is i2)), i5, g6, fun H6 x6 s6 => q _ _ _ (((((x1.trans x2).trans x3).trans x4).trans x5).trans x6) s6 σ (x6.env (x5.env (x4.env (x3.env (x2.env (x1.env en)))))) rfl⟩⟩⟩⟩⟩⟩
/-- d.get(k, x) -/
theorem se_get2 {apos cpos : Pos} (hr : RG k X.A) (ho : SE X cl o eo) (he : SE X cl e ea) (hf : SE X cl e2 eb) (m : M2 X o "get" apos e e2 cpos := by exact ⟨rfl, rfl, rfl, rfl⟩) : SE X cl (.Call (.Attribute o "get" apos) [e, e2] [] cpos) (eGet2 eo ea eb) := by
  refine ⟨fun pins s σ H Q I h => ?_⟩
  obtain ⟨Γ, φ, st, r, d, st', sm, en, h, q⟩ := h
  unfold eGet2 at h
  obtain ⟨x, g1, h⟩ := Option.bind_eq_some_iff.mp h
  obtain ⟨y, g2, h⟩ := Option.bind_eq_some_iff.mp h
  obtain ⟨z, g3, h⟩ := Option.bind_eq_some_iff.mp h
  obtain ⟨kvs, g4, h⟩ := Option.bind_eq_some_iff.mp h
  obtain ⟨kv0, g5, h⟩ := Option.bind_eq_some_iff.mp h
  split at h
  · rename_i hk
    cases h
    obtain ⟨n, en1, hn⟩ := asD_eq g4
    obtain ⟨n', en2, hn0⟩ := asD_eq g5
    have e0 : n' = n := by rw [en1] at en2; cases en2; rfl
    subst e0
    refine wpAny_Call_method m.base m.few m.line PySem.F.plainAttrs_dict PySem.F.slot_dict_get PySem.F.type_dict_get (thn (ho.run pins s σ H (fun v1 H1 => ∃ Γ1 φ1, Ext Γ H φ Γ1 H1 φ1 ∧ Sim (cf X cl) Γ1 H1 φ1 x.2 ∧ Is (cf X cl) Γ1 φ1 x.1 v1) I ⟨Γ, φ, st, r, x.1, x.2, sm, en, g1, fun Γ1 H1 φ1 v1 x1 s1 i1 => ⟨Γ1, φ1, x1, s1, i1⟩⟩) fun u s1 ⟨xv, H1, I1, rx, Γ1, φ1, x1, sm1, i1⟩ => ?_)
    rw [en1] at i1
    cases i1 with
    | @ref _ p hp =>
      obtain rfl : u = Value.ref p := rx
      obtain ⟨es, at1⟩ := at_dct I1 sm1 hn0 hp
      refine ⟨at1.typeIs, at1.noDict, ?_⟩
      rw [m.trees]
      refine Calls.callWith_builtin rfl (Calls.evalArgs_plain (Calls.spliced_cons (thn (he.run pins s1 σ H1 (fun v2 H2 => ∃ Γ2 φ2, Ext Γ1 H1 φ1 Γ2 H2 φ2 ∧ Sim (cf X cl) Γ2 H2 φ2 y.2 ∧ Is (cf X cl) Γ2 φ2 y.1 v2) I1 ⟨Γ1, φ1, x.2, r, y.1, y.2, sm1, x1.env en, g2, fun Γ2 H2 φ2 v2 x2 s2 i2 => ⟨Γ2, φ2, x2, s2, i2⟩⟩) fun w2 s2 ⟨yv, H2, I2, ry, Γ2, φ2, x2, sm2, i2⟩ =>
        Calls.spliced_cons (thn (hf.run pins s2 σ H2 (fun v3 H3 => ∃ Γ3 φ3, Ext Γ2 H2 φ2 Γ3 H3 φ3 ∧ Sim (cf X cl) Γ3 H3 φ3 z.2 ∧ Is (cf X cl) Γ3 φ3 z.1 v3) I2 ⟨Γ2, φ2, y.2, r, z.1, z.2, sm2, x2.env (x1.env en), g3, fun Γ3 H3 φ3 v3 x3 s3 i3 => ⟨Γ3, φ3, x3, s3, i3⟩⟩) fun w3 s3 ⟨zv, H3, I3, rz, Γ3, φ3, x3, sm3, i3⟩ => Calls.spliced_nil ?_))))
      have hp3 : φ3[n']? = some p := pre_get x3.ps (pre_get x2.ps hp)
      obtain ⟨es3, at3⟩ := at_dct I3 sm3 hn hp3
      exact dd_get2 hr.fifty I3 sm3 at3 hk (x3.is i2) ry i3 rz fun v w s' I' iv rv => ⟨v, H3, I', rv, q _ _ _ _ ((x1.trans x2).trans x3) sm3 iv⟩
  · cases h
theorem se_dnew : SE X cl (.Dict [] [] pos) eNewD := ⟨fun pins s σ H Q I h => by
  obtain ⟨Γ, φ, st, r, d, st', sm, en, h, q⟩ := h
  cases h
  refine wpAny_Dict_empty ?_
  have hp : H s.heap.objs.size = none := I.hok.fresh (Nat.le_refl _)
  have hns : (s.heap.objs.size == sysModules) = false := beq_eq_false_iff_ne.mpr (Ne.symm (Nat.ne_of_lt I.big))
  have hob : (s.heap.push { cls := .type "dict", data := .dict #[] }).get? s.heap.objs.size = some { cls := .type "dict", data := .dict #[] } := Heap.get?_push_size _ rfl
  have I2 := I.laid (a := s.heap.objs.size) (o := .ext (DAt s.heap.objs.size [])) (t' := s.toks) (h' := s.heap.push { cls := .type "dict", data := .dict #[] }) (fun _ _ q => Heap.get?_push_of_some _ q) (Nat.le_refl _) ⟨⟨hns, _, 0, hob, ⟨rfl, rfl, rfl⟩, rfl⟩, ⟨_, hob⟩, fun h1 h2 p q => by
    obtain ⟨p1, o, ep, p2, p3⟩ := p
    exact ⟨p1, o, ep, q o p2, p3⟩⟩
  obtain ⟨s2, x2⟩ := sm.other (o := .ext (DAt s.heap.objs.size [])) hp
  obtain ⟨x3, s3⟩ := box_ext (c := .dct []) x2 s2 hp upd_same (sm.notIn hp) (sm.fresh hp) (fun b z => nomatch z) ⟨[], upd_same, .nil, List.nodup_nil, Nat.zero_le _⟩
  refine ⟨.ref s.heap.objs.size, _, I2, rfl, q _ _ _ _ x3 s3 (.ref ?_)⟩
  rw [List.getElem?_append_right (by rw [sm.len]; exact Nat.le_refl _), sm.len]
  simp⟩
end
end EV
/-! EV.30: {k: v}. -/
namespace EV
open PySem PySem.Spec PyProof.Rows L2
section
variable {C : Cf} {Γ H : Hp} {φ : List Addr} {st : Sto} {p : Addr}
theorem Sim.mutateD {es es' : List DictEntry} (s : Sim C Γ H φ st) (h : H p = some (.ext (DAt p es))) (hn : p ∉ φ) (hg : Γ p = none) : Sim C Γ (upd H p (.ext (DAt p es'))) φ st := by
  refine ⟨fun a u e => ?_, s.off, s.nd, s.len, fun n c a h1 h2 => ?_, fun x hx => ?_, ta_new s.ta (fun _ z => nomatch z), s.tg⟩
  · have hne : a ≠ p := fun q => by rw [q, hg] at e; cases e
    rw [upd_ne hne]; exact s.sub a u e
  · have hne : a ≠ p := fun q => hn (by rw [← q]; exact List.mem_of_getElem? h2)
    refine (s.cell n c a h1 h2).keep (fun _ _ e => e) List.prefix_rfl (fun u e => by rw [upd_ne hne]; exact e) fun dx e1 e2 e3 => ⟨?_, e3, e2⟩
    rw [upd_ne (fun q : dx = p => by rw [q, h] at e1; cases e1)]; exact e1
  · obtain ⟨ps, e1, e2, e3⟩ := s.tb x hx
    refine ⟨ps, by rw [upd_ne (fun q : x.1 = p => by rw [q, h] at e1; cases e1)]; exact e1, e2, fun pos cv hcv => ?_⟩
    obtain ⟨c', e4, e5⟩ := e3 pos cv hcv
    exact ⟨c', e4, by rw [upd_ne (fun q : c' = p => by rw [q, h] at e5; exact dat_ne (Option.some.inj e5))]; exact e5⟩
end
/-- {k: v} -/
def eDisp1 (k v : E) : E := fun r st => (k r st).bind fun a => (v r a.2).bind fun b => if keyOk [] a.1 = true then some (.ref b.2.length, b.2 ++ [.dct [(a.1, b.1)]]) else none
theorem disp_len {k v : Expr} {env : PySem.Env} {pos : Pos} : pairTrees [some k] [v] env pos = [(eval k env, do let x ← eval v env; standAt pos; pure x)] := rfl
section
variable {X : Cx} {cl : Cl} {k v : Expr} {ek ev : E} {pos : Pos} {n : Nat}
theorem new_d (I : Inv X pins σ H s) : Inv X pins σ (upd H s.heap.objs.size (.ext (DAt s.heap.objs.size []))) { s with heap := s.heap.push { cls := .type "dict", data := .dict #[] } } := by
  have hns : (s.heap.objs.size == sysModules) = false := beq_eq_false_iff_ne.mpr (Ne.symm (Nat.ne_of_lt I.big))
  have hob : (s.heap.push { cls := .type "dict", data := .dict #[] }).get? s.heap.objs.size = some { cls := .type "dict", data := .dict #[] } := Heap.get?_push_size _ rfl
  exact I.laid (a := s.heap.objs.size) (o := .ext (DAt s.heap.objs.size [])) (t' := s.toks) (h' := s.heap.push { cls := .type "dict", data := .dict #[] }) (fun _ _ q => Heap.get?_push_of_some _ q) (Nat.le_refl _) ⟨⟨hns, _, 0, hob, ⟨rfl, rfl, rfl⟩, rfl⟩, ⟨_, hob⟩, fun h1 h2 p q => by
    obtain ⟨p1, o, ep, p2, p3⟩ := p
    exact ⟨p1, o, ep, q o p2, p3⟩⟩
theorem write_d {a : Addr} {es' : List DictEntry} {h' : Heap} {t' : Nat} {f : Heap → Prop} (I : Inv X pins σ H s) (hH : H a = some (.ext f)) (ns : (a == sysModules) = false) (sb : Heap.SameBut a s.heap h') (ob : ∃ o ep, h'.get? a = some o ∧ o.ExactDict ∧ o.data = .dict es'.toArray ep) :
    Inv X pins σ (upd H a (.ext (DAt a es'))) { s with heap := h', toks := t' } := by
  obtain ⟨o, ep, o1, o2, o3⟩ := ob
  refine d_write I (by rw [hH]; exact True.intro) sb ⟨o, o1⟩ ⟨⟨ns, o, ep, o1, o2, o3⟩, ⟨o, o1⟩, fun h1 h2 p q => ?_⟩
  obtain ⟨p1, o, ep, p2, p3⟩ := p
  exact ⟨p1, o, ep, q o p2, p3⟩
theorem se_disp1 (hr : RG n X.A) (hk : SE X cl k ek) (hv : SE X cl v ev) : SE X cl (.Dict [some k] [v] pos) (eDisp1 ek ev) := by
  refine ⟨fun pins s σ H Q I h => ?_⟩
  obtain ⟨Γ, φ, st, r, d, st', sm, en, h, q⟩ := h
  unfold eDisp1 at h
  obtain ⟨x, g1, h⟩ := Option.bind_eq_some_iff.mp h
  obtain ⟨y, g2, h⟩ := Option.bind_eq_some_iff.mp h
  split at h
  · rename_i hkk
    cases h
    have hp : H s.heap.objs.size = none := I.hok.fresh (Nat.le_refl _)
    have hns : (s.heap.objs.size == sysModules) = false := beq_eq_false_iff_ne.mpr (Ne.symm (Nat.ne_of_lt I.big))
    have I1 := new_d I
    obtain ⟨sm1, x1⟩ := sm.other (o := .ext (DAt s.heap.objs.size [])) hp
    generalize hpp : s.heap.objs.size = p at *
    have hpn : p ∉ φ := sm.notIn hp
    have hpg : Γ p = none := sm.fresh hp
    -- the pair
    have P := pps_cons (pos := pos) hk hv (pps_nil (X := X) (pos := pos))
    have run := P.run pins _ σ _ (fun ps H2 => ∃ Γ2 φ2 kv vv, ps = [(kv, vv)] ∧ Ext Γ (upd H p (.ext (DAt p []))) φ Γ2 H2 φ2 ∧ Sim (cf X cl) Γ2 H2 φ2 y.2 ∧ Is (cf X cl) Γ2 φ2 x.1 kv ∧ Is (cf X cl) Γ2 φ2 y.1 vv) I1
      ⟨Γ, φ, st, r, x.1, x.2, sm1, x1.env en, g1, fun Γ1 H1 φ1 v1 y1 s1 i1 => ⟨Γ1, φ1, x.2, r, y.1, y.2, s1, y1.env (x1.env en), g2, fun Γ2 H2 φ2 v2 y2 s2 i2 => ⟨Γ2, φ2, v1, v2, rfl, y1.trans y2, s2, y2.is i1, i2⟩⟩⟩
    have fin : ∀ (s2 : Shared) (Γ2 : Hp) (φ2 : List Addr) (H2 : Hp) (es' : List DictEntry) (h' : Heap) (t' : Nat), Inv X pins σ H2 s2 → Ext Γ (upd H p (.ext (DAt p []))) φ Γ2 H2 φ2 → Sim (cf X cl) Γ2 H2 φ2 y.2 → EntsIs (cf X cl) Γ2 φ2 [(x.1, y.1)] es' → Heap.SameBut p s2.heap h' → (∃ o ep, h'.get? p = some o ∧ o.ExactDict ∧ o.data = .dict es'.toArray ep) →
        EP X pins σ Q (.ref p) { s2 with heap := h', toks := t' } := by
      intro s2 Γ2 φ2 H2 es' h' t' I2 x2 sm2 en2 sb ob
      obtain ⟨a1, a2, a3⟩ := x2.apart (o := .ext (DAt p [])) upd_same hpn hpg
      have I3 := write_d (t' := t') I2 a1 hns sb ob
      have sm3 := sm2.mutateD (es' := es') a1 a2 a3
      have x3 : Ext Γ H φ Γ2 (upd H2 p (.ext (DAt p es'))) φ2 := (x1.trans x2).mutate hp a2
      obtain ⟨x4, s4⟩ := box_ext (c := .dct [(x.1, y.1)]) x3 sm3 hp upd_same a2 a3 (fun b z => nomatch z) ⟨es', upd_same, en2.mono (fun _ _ e => e) (List.prefix_append _ _), by simp, by rw [sizeLine_eq]; simp⟩
      refine ⟨.ref p, _, I3, rfl, q _ _ _ _ x4 s4 (.ref ?_)⟩
      rw [List.getElem?_append_right (by rw [sm3.len]; exact Nat.le_refl _), sm3.len]
      simp
    have hshape := zip_pairTrees [some k] [v] X.env pos rfl rfl
    rcases key_cases hkk with ⟨i, ei, _⟩ | ⟨l, nk, et, ek, hdp, _⟩
    · refine wpAny_Dict_walk (knd := intKind X.prog X.w) rfl rfl (by simp) (by simp) ?_
      rw [hpp]
      refine thn run fun vs s2 ⟨ps, H2, I2, rel, Γ2, φ2, kv, vv, e1, x2, sm2, i1, i2⟩ => ?_
      subst e1
      cases rel with
      | @cons _ q2 _ _ r1 r2 =>
        cases r2
        obtain ⟨ku, vu⟩ := q2
        rw [ei] at i1
        cases i1
        obtain ⟨t, et⟩ : ∃ t, ku = Value.int i t := r1.1
        obtain ⟨a1, a2, a3⟩ := x2.apart (o := .ext (DAt p [])) upd_same hpn hpg
        obtain ⟨⟨_, o, ep, o1, o2, o3⟩, _, _⟩ := I2.hok p _ a1
        subst et
        refine ⟨[(i, vu)], ⟨int_is, rfl, trivial⟩, ⟨o, #[], ep, o1, o2, o3, fun e he => by simp at he, .nil, List.nodup_nil⟩, fun h' dd hs => ?_⟩
        obtain ⟨o', es', ep', p1, p2, p3, p4, p5, p6⟩ := dd
        have em : merged [] [(i, vu)] = [(i, vu)] := rfl
        rw [em] at p5
        refine fin s2 Γ2 φ2 H2 es'.toList h' _ I2 x2 sm2 ?_ hs ⟨o', ep', p1, p2, by simpa using p3⟩
        rw [ei]
        exact back_I (by simpa using p5) (fun e he => p4 e (by simpa using he)) (.cons ⟨rfl, vv, i2, r1.2⟩ .nil)
    · rw [arm_eval_Dict, hshape, dictDisplay_pairs _ (by rw [disp_len]; simp) (by rw [disp_len]; simp)]
      refine wpAny_bind (wpAny_standAt (wpAny_bind (wpAny_subDictH (knd := nestedKind X.prog X.w) (Q := fun d s' => wpAny (model X.prog X.w) X.A (pure (Value.ref d)) (EP X pins σ Q) X.xe s') (by show X.A.units + 8 < cLine; have := hr.fifty; omega) (by rw [disp_len]; simp) ?_)))
      rw [hpp]
      refine thn run fun vs s2 ⟨ps, H2, I2, rel, Γ2, φ2, kv, vv, e1, x2, sm2, i1, i2⟩ => ?_
      subst e1
      cases rel with
      | @cons _ q2 _ _ r1 r2 =>
        cases r2
        obtain ⟨ku, vu⟩ := q2
        rw [et] at i1
        have i1' := i1
        cases i1 with
        | @tup b _ _ _ _ =>
          obtain ⟨r1, r3⟩ := r1
          have r1 : ku = Value.ref b := r1
          subst r1
          obtain ⟨a1, a2, a3⟩ := x2.apart (o := .ext (DAt p [])) upd_same hpn hpg
          obtain ⟨⟨_, o, ep, o1, o2, o3⟩, _, _⟩ := I2.hok p _ a1
          refine ⟨[(nk, b, vu)], ⟨rfl, rfl, key_is I2 sm2 ek hdp i1', trivial⟩, ⟨o, #[], ep, o1, o2, o3, rfl, fun e he => by simp at he, List.nodup_nil⟩, fun h' tk dd hs => wpAny_pure ?_⟩
          obtain ⟨o', es', ep', p1, p2, p3, p4, p5, p6⟩ := dd
          refine fin s2 Γ2 φ2 H2 es'.toList h' _ I2 x2 sm2 ?_ hs ⟨o', ep', p1, p2, by simpa using p3⟩
          rw [p4, et]
          exact back_T (.cons ⟨ek, hdp, ⟨_, rfl⟩, i1', vv, i2, r3⟩ .nil)
  · cases h
end
end EV
/-! EV.31: sorted(..) of a tuple. -/
namespace EV
open PySem PySem.W PySem.Calls PySem.Spec PyProof.Rows L2
section
variable {prog : Program} {w : World} {A : Around} {E : Value → Shared → Prop} {s : Shared} {β : Type} {vs : List Value} {bs : List β} {enc : β → PyData} {R : Value → β → Prop} {x : Value}
/-- how a thing's items are collected -/
def Collects (prog : Program) (w : World) (A : Around) (E : Value → Shared → Prop) (s : Shared) (x : Value) (vs : List Value) : Prop :=
  ∀ Q : List Value → Shared → Prop, (∀ h' tk, (∀ b o, s.heap.get? b = some o → h'.get? b = some o) → Q vs { s with heap := h', toks := tk }) → wpAny (model prog w) A (collect x) Q E s
theorem sorted_any {x : Value} {Q : Value → Shared → Prop} (hc : ∀ E', Collects prog w A.in1 E' s x vs) (e : EachIs R vs bs) (er : EachIs (fun v b => ∃ as, Reads s.heap v (enc b) as) vs bs) (hal : AllAlike (bs.map enc)) (hk : Sortable (bs.map enc)) (hL : bs.length ≤ sizeLine)
    (hu : ∀ b, b ∈ bs → A.units + 2 + (enc b).depth < cLine) (h : ∀ (h1 h' : Heap) tk out c, (∀ b o, s.heap.get? b = some o → h1.get? b = some o) → (∀ b o, h1.get? b = some o → h'.get? b = some o) → h'.get? h1.objs.size = some (seqObj "list" (List.toArray out) c) → out.length = bs.length → EachIs R out (bs.mergeSort (dataLe false enc)) → Q (.ref h1.objs.size) { s with heap := h', toks := tk }) :
    wpAny (model prog w) A (call (.builtin "sorted") [x]) Q E s := by
  have hL2 : vs.length ≤ sizeLine := by rw [e.length]; exact hL
  refine call_function_entry_kw kind_sorted plain_sorted entry_sorted (args_sorted1 _) ?_
  unfold Builtin.«sorted»
  refine wpAny_bind (m := checkCount "sorted" 1 1 _) (wpAny_pure ?_)
  refine wpAny_bind (hc _ _ fun h1 tk1 k1 => ?_)
  refine wpAny_bind (PySem.wpAny_newList ?_ hL2)
  have ho : (h1.push { cls := .type "list", data := .seq vs.toArray }).get? h1.objs.size = some (seqObj "list" vs.toArray 0) := Heap.get?_push_size _ rfl
  have k2 : ∀ b o, s.heap.get? b = some o → (h1.push { cls := .type "list", data := .seq vs.toArray }).get? b = some o := fun b o q => Heap.get?_push_of_some _ (k1 b o q)
  have k3 : ∀ b o, h1.get? b = some o → (h1.push { cls := .type "list", data := .seq vs.toArray }).get? b = some o := fun b o q => Heap.get?_push_of_some _ q
  have ne : ∀ b o, s.heap.get? b = some o → b ≠ h1.objs.size := fun b o q => Nat.ne_of_lt (Heap.lt_size (k1 b o q))
  generalize hh2 : h1.push { cls := .type "list", data := .seq vs.toArray } = h2 at *
  have er' : EachIs (fun v b => ∃ as, Reads (sortingHeap h2 h1.objs.size vs) v (enc b) as) vs bs := er.mono fun _ _ ⟨as, r⟩ => ⟨as, PyProof.Rows.Reads.keeps (fun b o q => sortingHeap_old (ne b o q) (k2 b o q)) r⟩
  have S := SortsAt.data (prog := prog) (w := w) (A := A.in1.in1) (s := { s with heap := sortingHeap h2 h1.objs.size vs, toks := tk1 }) (each_map (R := fun v d => ∃ as, Reads (sortingHeap h2 h1.objs.size vs) v d as) enc er') hal hk (bound_map hu)
  refine wpAny_bind (wpAny_holding (wpAny_call_entry_kw slot_list_sort ⟨_, ho, rfl⟩ entry_list_sort ?_ (args_list_sort _)))
  refine wpAny_mono (list_sort_vals (s := { s with heap := h2, toks := tk1 }) ho S hL2 (P := fun f s' => f = .done (.ret .none) ∧ s' = { s with heap := sortedHeap h2 h1.objs.size vs (sortVals (dataKind (sortingHeap h2 h1.objs.size vs) (bs.map enc)) false vs vs).toArray, toks := tk1 }) ⟨rfl, rfl⟩) (fun f s' hf => ?_) fun _ _ e => e
  obtain ⟨rfl, rfl⟩ := hf
  have E2 := sortVals_data (R := R) false e er' hal
  have lE : (sortVals (dataKind (sortingHeap h2 h1.objs.size vs) (bs.map enc)) false vs vs).length = bs.length := by rw [sortVals_length false rfl]; exact e.length
  generalize sortVals (dataKind (sortingHeap h2 h1.objs.size vs) (bs.map enc)) false vs vs = out at *
  obtain ⟨c, hc2⟩ := PyProof.Rows.sortedHeap_at (vs := vs) (out := out.toArray) ho
  exact ⟨_, rfl, wpAny_pure ⟨_, rfl, h h1 _ tk1 out c k1 (fun b o q => (PyProof.Rows.sortedHeap_old (Nat.ne_of_lt (Heap.lt_size q)) (Heap.lt_size (k3 b o q))).trans (k3 b o q)) hc2 lE E2⟩⟩
theorem collects_tup {a : Addr} {its : List Value} (h : IsTup s.heap a its.toArray) (hz : its.length ≤ sizeLine) : Collects prog w A E s (.ref a) its := by
  intro Q hQ
  obtain ⟨o, ho, hc, n, hd⟩ := h
  refine wpAny_collect_seq (T := "tuple") (items := its.toArray) a (.inr rfl) ho hc hd (fun h' k => ?_) (by simpa using hz)
  simpa using hQ h' s.toks k
end
/-- sorted of a list, a tuple -/
def bSortedA (st : Sto) (vs : List D) : Option D := match vs with
  | [.tup l] => if Alk l ∧ (l.all tupled = true ∨ l.all untupled = true) ∧ l.length ≤ LIM then some (.lst (l.mergeSort dLe)) else none
  | vs => bSorted st vs
section
variable {X : Cx} {cl : Cl}
theorem f_sortedA {k : Nat} (hr : RG k X.A) : CallR X (.builtin "sorted") (rCF (cf X cl) bSortedA) := by
  intro pins s σ H xs us Q I r h0
  obtain ⟨Γ, φ, st, ds, d, sm, i1, h, q⟩ := id h0
  unfold bSortedA at h
  split at h
  · rename_i l
    split at h
    · rename_i hc
      cases h
      obtain ⟨ha, hs, hl⟩ := hc
      obtain ⟨v, rfl, i⟩ := one_all i1
      obtain ⟨u, rfl, ru⟩ := vals1 r
      cases i with
      | @tup a vs _ e q1 =>
        cases ru
        obtain ⟨its, rv, p, hz⟩ := I.tuple (SqT.of (sm.sub _ _ e))
        have hzz : its.length ≤ sizeLine := by rw [← rv.length]; exact hz
        have dp : DpAll X.K H vs (pyAll l) := all_dp (C := cf X cl) sm.sub q1 ha.dat
        obtain ⟨as, ra⟩ := Dp.readsAll I _ _ _ dp rv
        refine sorted_any (enc := D.py) (fun E' => collects_tup p hzz) (each_mk q1 rv) (each_reads ra) ha.srt (can_sort ha hs) (by rw [sizeLine_eq]; simp only [LIM] at hl; exact hl) (fun b hb => ?_) fun h1 h' tk out c k1 k2 hg hlen ho => ?_
        · have := hr.rm.un
          have z := (ha.at hb).1
          unfold D.shp at z
          rw [Bool.and_eq_true] at z
          have := SeqAt.depth_of_shaped z.2
          omega
        · obtain ⟨ws, r2, i2⟩ := each_back ho
          have I1 : Inv X pins σ H { s with heap := h1 } := I.kept (t' := s.toks) k1
          have hf : H h1.objs.size = none := I1.hok.fresh (Nat.le_refl _)
          have wl : ws.length ≤ sizeLine := by rw [r2.length, hlen, sizeLine_eq]; simp only [LIM] at hl; exact hl
          obtain ⟨s2, x2⟩ := sm.other (o := .lst ws) hf
          refine ⟨.ref _, upd H h1.objs.size (.lst ws), I1.laid (t' := tk) k2 (Nat.le_refl _) ⟨wl, out, c, r2, ?_⟩, rfl, q _ _ _ _ _ x2 s2 hf upd_same (sm.notIn hf) (sm.fresh hf) i2⟩
          simpa using hg
    · cases h
  · exact f_sorted hr pins s σ H xs us Q I r ⟨Γ, φ, st, ds, d, sm, i1, h, q⟩
theorem lst_bSortedA {aa : A} : ∀ r st d st', eBlt bSortedA aa r st = some (d, st') → ∃ l, d = .lst l := fun r st d st' h => by
  obtain ⟨x, h1, h2⟩ := Option.bind_eq_some_iff.mp (show ((aa r st).bind fun x => (bSortedA x.2 x.1).bind fun d => some (d, x.2)) = some (d, st') from h)
  obtain ⟨z, h3, h4⟩ := Option.bind_eq_some_iff.mp h2
  cases h4
  unfold bSortedA at h3
  split at h3
  · split at h3
    · cases h3; exact ⟨_, rfl⟩
    · cases h3
  · refine lst_bSorted (aa := fun _ _ => some (x.1, x.2)) r x.2 d x.2 ?_
    show (some (x.1, x.2)).bind _ = _
    simp [h3]
theorem bl_sortedA {e : Expr} {es : List Expr} {aa : A} {p pos : Pos} {k : Nat} (hr : RG k X.A) (hm : X.mg "sorted" = none) (ha : SA X cl (e :: es) aa) (hg : Gl X "sorted" := by rfl) (he : starEach (e :: es) X.env = (false, eval e X.env) :: starEach es X.env := by rfl)
    (hpl : (backTo pos (starEach es X.env)).any (·.1) = false := by rfl) : SF X cl (.Call (.Name "sorted" p) (e :: es) [] pos) (eBlt bSortedA aa) := sf_bltF (f_sortedA hr) hg hm (by decide +kernel) ha (he := he) (hpl := hpl)
end
section
variable {st : Sto} {Q : D → Prop} {l : List D}
@[simp] theorem vSortedA_l : V1 (bSortedA st [.lst l]) Q ↔ V1 (bSorted st [.lst l]) Q := Iff.rfl
theorem vSortedA_t : V1 (bSortedA st [.tup l]) Q ↔ V1 (bSorted st [.lst l]) Q := Iff.rfl
end
end EV
/-! EV.32: dicts by what their keys and values stand for. -/
namespace EV
open PySem (Str PyData NestedKey)
structure KeyE (κ : Type) where
  e : κ → D
  inj : ∀ a b, (e a).key = (e b).key → a = b
  kind : (∀ a, (e a).isK = true) ∨ (∀ a, (e a).isI = true)
section
variable {κ ν : Type} [DecidableEq κ] (K : KeyE κ) (ev : ν → D)
def encD (m : List (κ × ν)) : List (D × D) := m.map fun p => (K.e p.1, ev p.2)
def look (m : List (κ × ν)) (k : κ) : Option ν := (m.find? fun p => decide (p.1 = k)).map (·.2)
def put (m : List (κ × ν)) (k : κ) (v : ν) : List (κ × ν) := if (m.any fun p => decide (p.1 = k)) = true then m.map fun p => if p.1 = k then (p.1, v) else p else m ++ [(k, v)]
theorem key_iff (a b : κ) : (K.e a).key = (K.e b).key ↔ a = b := ⟨K.inj a b, fun h => by rw [h]⟩
@[simp] theorem encD_len (m : List (κ × ν)) : (encD K ev m).length = m.length := by simp [encD]
theorem keyOk_enc (m : List (κ × ν)) (k : κ) : keyOk (encD K ev m) (K.e k) = true := by
  unfold keyOk encD
  rcases K.kind with h | h
  · rw [h k]; simp [h]
  · rw [h k]; simp [h]
theorem dGet_enc (m : List (κ × ν)) (k : κ) : dGet (encD K ev m) (K.e k) = (look m k).map ev := by
  unfold dGet encD look
  induction m with
  | nil => rfl
  | cons p m ih =>
    rw [List.map_cons, List.find?_cons, List.find?_cons]
    by_cases h : p.1 = k
    · simp [h]
    · have : ¬ (K.e p.1).key = (K.e k).key := fun z => h (K.inj _ _ z)
      simp only [this, h, decide_false]
      exact ih
theorem dPut_enc (m : List (κ × ν)) (k : κ) (v : ν) : dPut (encD K ev m) (K.e k) (ev v) = encD K ev (put m k v) := by
  have e1 : ((encD K ev m).any fun p => decide (p.1.key = (K.e k).key)) = m.any fun p => decide (p.1 = k) := by
    unfold encD
    rw [List.any_map]
    congr 1
    funext p
    exact decide_eq_decide.mpr (key_iff K _ _)
  unfold dPut put
  rw [e1]
  split
  · unfold encD
    rw [List.map_map, List.map_map]
    refine List.map_congr_left fun p _ => ?_
    simp only [Function.comp, key_iff K]
    split <;> rfl
  · simp [encD]
theorem look_nil {k : κ} : look ([] : List (κ × ν)) k = none := rfl
theorem look_cons {p : κ × ν} {m : List (κ × ν)} {k : κ} : look (p :: m) k = if p.1 = k then some p.2 else look m k := by
  unfold look
  rw [List.find?_cons]
  by_cases h : p.1 = k <;> simp [h]
theorem look_mapput {m : List (κ × ν)} {k j : κ} {v : ν} : look (m.map fun p => if p.1 = k then (p.1, v) else p) j = if j = k ∧ (m.any fun p => decide (p.1 = k)) = true then some v else look m j := by
  induction m with
  | nil => simp [look]
  | cons p m ih =>
    rw [List.map_cons, look_cons, look_cons, ih, List.any_cons]
    by_cases h : p.1 = k
    · by_cases h2 : j = k
      · subst h2; simp [h]
      · have : ¬ k = j := fun z => h2 z.symm
        simp [h, h2, this]
    · have hd : decide (p.1 = k) = false := decide_eq_false h
      rw [hd, Bool.false_or, if_neg h]
      by_cases h2 : p.1 = j
      · have : ¬ j = k := fun z => h (h2.trans z)
        simp [h2, this]
      · simp [h2]
theorem look_append {m : List (κ × ν)} {k j : κ} {v : ν} (h : (m.any fun p => decide (p.1 = k)) = false) : look (m ++ [(k, v)]) j = if j = k then some v else look m j := by
  induction m with
  | nil =>
    rw [List.nil_append, look_cons, look_nil]
    by_cases h2 : j = k
    · simp [h2]
    · have : ¬ k = j := fun z => h2 z.symm
      simp [h2, this]
  | cons p m ih =>
    rw [List.any_cons, Bool.or_eq_false_iff] at h
    have hp : ¬ p.1 = k := by simpa using h.1
    rw [List.cons_append, look_cons, look_cons, ih h.2]
    by_cases h2 : j = k
    · subst h2; simp [hp]
    · simp [h2]
theorem look_put {m : List (κ × ν)} {k j : κ} {v : ν} : look (put m k v) j = if j = k then some v else look m j := by
  unfold put
  split
  · rename_i h
    rw [look_mapput]
    simp [h]
  · rename_i h
    exact look_append (Bool.eq_false_iff.mpr h)
theorem put_len {m : List (κ × ν)} {k : κ} {v : ν} : (put m k v).length ≤ m.length + 1 := by
  unfold put; split <;> simp
/-- a dict's cell -/
abbrev cD (m : List (κ × ν)) : Cell := .dct (encD K ev m)
variable {st : Sto} {n : Nat} {m : List (κ × ν)} {Q : D → Prop} {QS : Sto → Prop} {k : κ} {v : ν}
variable {K ev}
theorem asD_at (h : st[n]? = some (cD K ev m)) : asD st (.ref n) = some (encD K ev m) := by
  unfold asD
  simp only [h]
theorem vIdxA (h : st[n]? = some (cD K ev m)) : V1 (oIdxA st (.ref n) (K.e k)) Q ↔ V1 (look m k) fun v => Q (ev v) := by
  unfold oIdxA
  rw [asD_at h]
  simp only [keyOk_enc, if_true, dGet_enc]
  cases look m k <;> simp
theorem vInA (h : st[n]? = some (cD K ev m)) : V1 (oInA st (K.e k) (.ref n)) Q ↔ Q (.bl (look m k).isSome) := by
  unfold oInA
  rw [asD_at h]
  simp only [keyOk_enc, if_true, dGet_enc, V1_some]
  cases look m k <;> simp
theorem vNotInA (h : st[n]? = some (cD K ev m)) : V1 (oNotInA st (K.e k) (.ref n)) Q ↔ Q (.bl (!(look m k).isSome)) := by
  unfold oNotInA
  rw [asD_at h]
  simp only [keyOk_enc, if_true, dGet_enc, V1_some]
  cases look m k <;> simp
theorem vSetA (h : st[n]? = some (cD K ev m)) : V1 (setIdxA st (.ref n) (K.e k) (ev v)) QS ↔ m.length < LIM ∧ QS (st.set n (cD K ev (put m k v))) := by
  unfold setIdxA
  simp only [h, keyOk_enc, dPut_enc, encD_len]
  by_cases hl : m.length < LIM <;> simp [hl]
end
section
variable {r : Env} {st : Sto} {Q : D → Sto → Prop} {QS : Out → Sto → Prop} {a b c : E} {f : Sto → D → D → Option D}
@[simp] theorem wsSetIxA : W (sSetIxA a b c r st) QS ↔ W (c r st) fun v st => W (a r st) fun x st => W (b r st) fun y st => V1 (setIdxA st x y v) fun st => QS (.next r) st := by
  unfold sSetIxA; rw [W_bind]; simp only [W_bind, V_bindD, V_bindB, V_bindS, V_bindR, V_bindL, W_some]
@[simp] theorem wsAugIxA : W (sAugIxA a b f c r st) QS ↔ W (a r st) fun x st => W (b r st) fun y st => V1 (oIdxA st x y) fun old => W (c r st) fun v st => V1 (f st old v) fun z => V1 (setIdxA st x y z) fun st => QS (.next r) st := by
  unfold sAugIxA; rw [W_bind]; simp only [W_bind, V_bindD, V_bindB, V_bindS, V_bindR, V_bindL, W_some]
@[simp] theorem wNewD : W (eNewD r st) Q ↔ Q (.ref st.length) (st ++ [.dct []]) := W_some
@[simp] theorem wDisp1 : W (eDisp1 a b r st) Q ↔ W (a r st) fun x st => W (b r st) fun y st => keyOk [] x = true ∧ Q (.ref st.length) (st ++ [.dct [(x, y)]]) := by
  unfold eDisp1; rw [W_bind]; simp only [W_bind]
  refine W_congr fun x st => ?_
  refine W_congr fun y st => ?_
  by_cases h : keyOk [] x = true <;> simp [h]
theorem wGet2 : W (eGet2 a b c r st) Q ↔ W (a r st) fun x st0 => W (b r st0) fun y st => W (c r st) fun z st => ∃ kvs kv0, asD st x = some kvs ∧ asD st0 x = some kv0 ∧ keyOk kvs y = true ∧ Q ((dGet kvs y).getD z) st := by
  unfold eGet2; rw [W_bind]; simp only [W_bind]
  refine W_congr fun x st0 => ?_
  refine W_congr fun y st => ?_
  refine W_congr fun z st => ?_
  cases h1 : asD st x with
  | none => simp
  | some kvs =>
    cases h2 : asD st0 x with
    | none => simp
    | some kv0 => by_cases h : keyOk kvs y = true <;> simp [h]
end
/-- pairs of numbers as keys -/
def kII : KeyE (Nat × Nat) where
  e := fun p => .tup [.int p.1, .int p.2]
  inj := fun a b h => by
    simp [D.key, keyAll] at h
    exact Prod.ext (by omega) (by omega)
  kind := .inl fun a => by simp [D.isK, D.key, keyAll, NestedKey.depth, NestedKey.depthAll]
end EV
/-! EV.33: sets as numbers. -/
namespace EV
open PySem (Str PyData)
theorem bitOr_nat (a b : Nat) : PySem.Builtin.bitOr (a : Int) (b : Int) = ((a ||| b : Nat) : Int) := by
  have hn : ∀ x : Int, PySem.Builtin.bitNot x = -x - 1 := fun x => rfl
  have h1 : ∀ x : Nat, decide (0 ≤ PySem.Builtin.bitNot (x : Int)) = false := fun x => by rw [hn]; exact decide_eq_false (by omega)
  have h2 : ∀ x : Nat, (PySem.Builtin.bitNot (PySem.Builtin.bitNot (x : Int))).toNat = x := fun x => by rw [hn, hn]; omega
  unfold PySem.Builtin.bitOr PySem.Builtin.bitAnd
  rw [h1, h1]
  simp only
  rw [h2, h2, hn, hn]
  omega
section
variable {st : Sto} {Q : D → Prop} {a b : Nat}
theorem vShr_n : V1 (oShr st (.int (a : Int)) (.int (b : Int))) Q ↔ Q (.int ((a >>> b : Nat) : Int)) := by
  have e : oShr st (.int (a : Int)) (.int (b : Int)) = some (.int ((a >>> b : Nat) : Int)) := by
    show (if (0 : Int) ≤ b then some (D.int ((a : Int) / 2 ^ ((b : Int)).toNat)) else none) = _
    rw [if_pos (by omega), Int.toNat_natCast, Nat.shiftRight_eq_div_pow]
    congr 2
  rw [e, V1_some]
theorem vShl_n : V1 (oShl st (.int 1) (.int (b : Int))) Q ↔ b ≤ 1000000 ∧ Q (.int ((1 <<< b : Nat) : Int)) := by
  have e : oShl st (.int 1) (.int (b : Int)) = if b ≤ 1000000 then some (.int ((1 <<< b : Nat) : Int)) else none := by
    show (if PowOk 1 (b : Int) then some (D.int (1 * 2 ^ ((b : Int)).toNat)) else none) = _
    by_cases h : b ≤ 1000000
    · rw [if_pos h, if_pos ⟨by omega, by omega, by decide⟩, Int.toNat_natCast, Nat.shiftLeft_eq]
      congr 2
    · rw [if_neg h, if_neg]
      rintro ⟨_, h2, _⟩
      omega
  rw [e]
  by_cases h : b ≤ 1000000 <;> simp [h]
theorem vAnd1_n : V1 (oAnd st (.int (a : Int)) (.int 1)) Q ↔ Q (.int ((a % 2 : Nat) : Int)) := by
  have e : oAnd st (.int (a : Int)) (.int 1) = some (.int ((a % 2 : Nat) : Int)) := by
    show some (D.int (PySem.Builtin.bitAnd (a : Int) 1)) = _
    rw [PyProof.Rows.bitAnd_m1, Int.natCast_emod]; rfl
  rw [e, V1_some]
theorem vOr_n : V1 (oOr st (.int (a : Int)) (.int (b : Int))) Q ↔ Q (.int ((a ||| b : Nat) : Int)) := by
  have e : oOr st (.int (a : Int)) (.int (b : Int)) = some (.int ((a ||| b : Nat) : Int)) := by
    show some (D.int (PySem.Builtin.bitOr (a : Int) (b : Int))) = _
    rw [bitOr_nat]
  rw [e, V1_some]
end
theorem bit_at (m j : Nat) : (m >>> j) % 2 = if m.testBit j then 1 else 0 := by
  rw [Nat.testBit_eq_decide_div_mod_eq, Nat.shiftRight_eq_div_pow]
  by_cases h : m / 2 ^ j % 2 = 1
  · simp [h]
  · simp [h]; omega
/-- a row's members, as a number -/
def maskOf : List Nat → Nat
  | [] => 0
  | i :: r => maskOf r ||| (1 <<< i)
theorem bit_one (i k : Nat) : (1 <<< i).testBit k = decide (k = i) := by
  rw [Nat.one_shiftLeft, Nat.testBit_two_pow]
  exact decide_eq_decide.mpr ⟨fun h => h.symm, fun h => h.symm⟩
theorem bit_mask : ∀ (r : List Nat) (k : Nat), (maskOf r).testBit k = decide (k ∈ r)
  | [], k => by simp [maskOf]
  | i :: r, k => by
    rw [maskOf, Nat.testBit_or, bit_mask r k, bit_one, ← Bool.decide_or]
    exact decide_eq_decide.mpr (by rw [List.mem_cons]; exact Or.comm)
theorem mask_eq {m : Nat} {r : List Nat} (h : ∀ k, m.testBit k = decide (k ∈ r)) : m = maskOf r := Nat.eq_of_testBit_eq fun k => by rw [h, bit_mask]
theorem mask_snoc (r : List Nat) (i : Nat) : maskOf (r ++ [i]) = maskOf r ||| (1 <<< i) := by
  symm
  refine mask_eq fun k => ?_
  rw [Nat.testBit_or, bit_mask, bit_one, ← Bool.decide_or]
  exact decide_eq_decide.mpr (by simp)
theorem mask_lt {r : List Nat} {i : Nat} (h : i ∉ r) : maskOf r < maskOf (r ++ [i]) := by
  have h1 : maskOf r ≤ maskOf (r ++ [i]) := by rw [mask_snoc]; exact Nat.left_le_or
  refine Nat.lt_of_le_of_ne h1 fun e => ?_
  have h2 := bit_mask (r ++ [i]) i
  rw [← e, bit_mask] at h2
  simp [h] at h2
theorem mask_bound {r : List Nat} {n : Nat} (h : ∀ i ∈ r, i < n) : maskOf r < 2 ^ n := by
  induction r with
  | nil => exact Nat.two_pow_pos n
  | cons i r ih =>
    rw [maskOf]
    refine Nat.or_lt_two_pow (ih fun k hk => h k (List.mem_cons_of_mem _ hk)) ?_
    rw [Nat.one_shiftLeft]
    exact Nat.pow_lt_pow_right (by omega) (h i List.mem_cons_self)
theorem mask_full {r : List Nat} {n : Nat} (h : ∀ i ∈ r, i < n) (hm : maskOf r = 2 ^ n - 1) : ∀ k, k < n → k ∈ r := by
  intro k hk
  have := bit_mask r k
  rw [hm, Nat.testBit_two_pow_sub_one] at this
  simpa [hk] using this
theorem full_mask {r : List Nat} {n : Nat} (h : ∀ i ∈ r, i < n) (ha : ∀ k, k < n → k ∈ r) : maskOf r = 2 ^ n - 1 := by
  symm
  refine mask_eq fun k => ?_
  rw [Nat.testBit_two_pow_sub_one]
  exact decide_eq_decide.mpr ⟨ha k, h k⟩
end EV
namespace K06
open PySem PySem.Spec PyProof.Rows L2 EV
/-- the text -/
abbrev topS (i : Nat) : Stmt := PySem.Challenge.pw_everysky_k06_orders_by_sets.main.body.getD i (.Pass ⟨0, 0, 0, 0⟩)
structure Mo (mg : Str → Option Value) : Prop where
  z_abs : mg "abs" = none
  z_all : mg "all" = none
  z_bool : mg "bool" = none
  z_enumerate : mg "enumerate" = none
  z_int : mg "int" = none
  z_isinstance : mg "isinstance" = none
  z_len : mg "len" = none
  z_list : mg "list" = none
  z_max : mg "max" = none
  z_min : mg "min" = none
  z_range : mg "range" = none
  z_sorted : mg "sorted" = none
  z_str : mg "str" = none
  z_tuple : mg "tuple" = none
  g_MOST_LOOKS : ∃ t, mg "MOST_LOOKS" = some (.int 7 t)
  g_MOST_NUMBER : ∃ t, mg "MOST_NUMBER" = some (.int 10000 t)
  g_MOST_STEPS : ∃ t, mg "MOST_STEPS" = some (.int 1000 t)
section
variable {P : Program} {w : World} {K : PySem.W.Frag} {mg : Str → Option Value} {base : Heap} {cl : Cl}
theorem c__law_told : FnScope ["call", "e"] ["call"] (defScope (topS 28)) := ⟨rfl, rfl, rfl, by decide +kernel, rfl, by decide +kernel, by decide +kernel⟩
theorem c__law_read : FnScope ["told", "part"] ["told"] (defScope (topS 27)) := ⟨rfl, rfl, rfl, by decide +kernel, rfl, by decide +kernel, by decide +kernel⟩
noncomputable def b__law_read (ff : F) : S := (sSeq (sIf (EV.tOr (tOf (eUn oIsN (eVar 0))) (EV.tOr (tOf (eUn (oIsB true) (eVar 0))) (tOf (eUn (oIsB false) (eVar 0))))) (sRet (eVar 0)) sNext)
  (sSeq (sIf (tOf (eBlt bIsInt (aCons (eVar 0) aNil))) (sRet (eBlt bInt (aCons (eVar 0) aNil))) sNext)
  (sSeq (sIf (tOf (eBlt (bIs "str") (aCons (eVar 0) aNil))) (sRet (eOp oAdd (eC (.str "")) (eVar 0))) sNext)
  (sSeq (sIf (tOf (eBlt (bIs "tuple") (aCons (eVar 0) aNil))) (sRet (eBlt bTuple (aCons (eLc (iSeq (eVar 0)) [1] (gNm 1) tYes (eCall ff (aCons (eVar 1) aNil))) aNil))) sNext)
  (sRet (eIf (tOf (eBlt (bIs "list") (aCons (eVar 0) aNil))) (eLc (iSeq (eVar 0)) [1] (gNm 1) tYes (eCall ff (aCons (eVar 1) aNil))) (eC (.str "something else"))))))))
noncomputable def s__law_read : Nat → F
  | 0 => fNever
  | m + 1 => fDef 1 2 (b__law_read (s__law_read m))
theorem o__law_read (E : Mo mg) (D : DefAt K mg "_law_read" (topS 27) ["told"])  : ∀ m : Nat, FunOk P w K mg base cl (0 + m) 1 "_law_read" (s__law_read m)
  | 0 => fun_never D rfl
  | m + 1 =>
    have h_self := o__law_read E D  m
    have sc := c__law_read
    fun_ok D sc rfl fun f cdv A outer s H E0 hr => ((sss_cons (ss_if (st_w (sw_or (st_isN (vr 0)) (sw_or (st_isB (vr 0)) (sw_or1 (st_isB (vr 0)))))) (sss_one (ss_ret (vr 0))) sss_nil)
    (sss_cons (ss_if (st_val (is_int E.z_isinstance E.z_int (vr 0))) (sss_one (ss_ret (bl_int E.z_int (sa_cons (vr 0) sa_nil)))) sss_nil)
    (sss_cons (ss_if (st_val (is_str E.z_isinstance E.z_str (vr 0))) (sss_one (ss_ret (se_bin op_addD se_str (vr 0)))) sss_nil)
    (sss_cons (ss_if (st_val (is_tuple E.z_isinstance E.z_tuple (vr 0))) (sss_one (ss_ret (bl_tuple E.z_tuple (sa_cons (se_of_f (sf_lc rfl sc.nd (si_seq (vr 0)) (blkOk_by (own := [("part", 1)]) (by rfl)) (fun _ _ _ _ _ => (nm 1 sc.nd)) (fun _ _ _ _ _ => sts_nil) (fun _ _ _ _ _ => (se_call h_self hr (by rfl) (sa_cons (vr 1) sa_nil) (hlen := (len_cons len_nil))))) lst_eLc) sa_nil)))) sss_nil)
    (sss_one (ss_ret (se_if (st_val (is_list E.z_isinstance E.z_list (vr 0))) (se_of_f (sf_lc rfl sc.nd (si_seq (vr 0)) (blkOk_by (own := [("part", 1)]) (by rfl)) (fun _ _ _ _ _ => (nm 1 sc.nd)) (fun _ _ _ _ _ => sts_nil) (fun _ _ _ _ _ => (se_call h_self hr (by rfl) (sa_cons (vr 1) sa_nil) (hlen := (len_cons len_nil))))) lst_eLc) se_str))))))) : SSs _ cl (defBody (topS 27)) (b__law_read (s__law_read m)))
theorem c__law_draw : FnScope ["box", "high", "cell"] ["box", "high"] (defScope (topS 26)) := ⟨rfl, rfl, rfl, by decide +kernel, rfl, by decide +kernel, by decide +kernel⟩
noncomputable def b__law_draw : S := (sSeq (sIf (tOf (eOp oGt (eOp oIdx (eVar 0) (eC (.int 0))) (eC (.int 0)))) (sSeq (sAsg (eOp oIdx (eVar 0) (eC (.int 0))) (gNm 2))
  (sSeq (sSetIx (eVar 0) (eC (.int 0)) (eBlt bInt (aCons (eOp oDiv (eVar 2) (eVar 1)) aNil)))
  (sRet (eBlt bInt (aCons (eOp oMod (eVar 2) (eVar 1)) aNil))))) sNext)
  (sSeq (sSetIx (eVar 0) (eC (.int 1)) (eOp oMod (eOp oMul (eC (.int 69621)) (eOp oIdx (eVar 0) (eC (.int 1)))) (eC (.int 2147483647))))
  (sRet (eBlt bInt (aCons (eOp oMod (eOp oDiv (eOp oIdx (eVar 0) (eC (.int 1))) (eC (.int 7))) (eVar 1)) aNil)))))
noncomputable def s__law_draw : F := fDef 2 3 b__law_draw
theorem o__law_draw (E : Mo mg) (D : DefAt K mg "_law_draw" (topS 26) ["box", "high"])  : FunOk P w K mg base cl 1 2 "_law_draw" s__law_draw :=
  have sc := c__law_draw
  fun_ok D sc rfl fun f cdv A outer s H E0 hr => ((sss_cons (ss_if (st_cmp op_gtD (se_ix (vr 0) se_int) se_int (nomark _)) (sss_cons (st_set 2 sc.nd (se_ix (vr 0) se_int))
    (sss_cons (ss_setix (vr 0) se_int (bl_int E.z_int (sa_cons (se_bin op_divD (vr 2) (vr 1)) sa_nil)))
    (sss_one (ss_ret (bl_int E.z_int (sa_cons (se_bin op_modD (vr 2) (vr 1)) sa_nil)))))) sss_nil)
    (sss_cons (ss_setix (vr 0) se_int (se_bin op_modD (se_bin op_mulD se_int (se_ix (vr 0) se_int)) se_int))
    (sss_one (ss_ret (bl_int E.z_int (sa_cons (se_bin op_modD (se_bin op_divD (se_ix (vr 0) se_int) se_int) (vr 1)) sa_nil)))))) : SSs _ cl (defBody (topS 26)) b__law_draw)
theorem c__law_turn : FnScope ["one", "other", "dome", "far", "near", "whole", "p", "speed", "f"] ["one", "other", "dome"] (defScope (topS 29)) := ⟨rfl, rfl, rfl, by decide +kernel, rfl, by decide +kernel, by decide +kernel⟩
noncomputable def b__law_turn : S := (sSeq (sAsg (eVar 2) (gTp 3 (gsCons (gNm 6) (gsCons (gNm 7) (gsCons (gNm 8) gsNil)))))
  (sSeq (sAsg (eOp oMod (eOp oSub (eOp oIdx (eVar 1) (eC (.int 0))) (eOp oIdx (eVar 0) (eC (.int 0)))) (eVar 6)) (gNm 3))
  (sSeq (sAsg (eIf (tOf (eOp oLe (eOp oMul (eC (.int 2)) (eVar 3)) (eVar 6))) (eVar 3) (eOp oSub (eVar 6) (eVar 3))) (gNm 4))
  (sSeq (sAsg (eOp oAdd (eOp oDiv (eVar 4) (eVar 7)) (eBlt bInt (aCons (eOp oGt (eOp oMod (eVar 4) (eVar 7)) (eC (.int 0))) aNil))) (gNm 5))
  (sRet (eIf (EV.tOr (tOf (eOp oEq (eOp oIdx (eVar 0) (eC (.int 1))) (eOp oIdx (eVar 1) (eC (.int 1))))) (tOf (eOp oGt (eVar 5) (eVar 8)))) (eVar 5) (eVar 8)))))))
noncomputable def s__law_turn : F := fDef 3 9 b__law_turn
theorem o__law_turn (E : Mo mg) (D : DefAt K mg "_law_turn" (topS 29) ["one", "other", "dome"])  : FunOk P w K mg base cl 1 3 "_law_turn" s__law_turn :=
  have sc := c__law_turn
  fun_ok D sc rfl fun f cdv A outer s H E0 hr => ((sss_cons (ss_asg (vr 2) (sg_tup rfl (sgs_cons (nm 6 sc.nd) (sgs_cons (nm 7 sc.nd) (sgs_cons (nm 8 sc.nd) sgs_nil)))))
    (sss_cons (st_set 3 sc.nd (se_bin op_modD (se_bin op_subD (se_ix (vr 1) se_int) (se_ix (vr 0) se_int)) (vr 6)))
    (sss_cons (st_set 4 sc.nd (se_if (st_cmp op_leD (se_bin op_mulD se_int (vr 3)) (vr 6) (nomark _)) (vr 3) (se_bin op_subD (vr 6) (vr 3))))
    (sss_cons (st_set 5 sc.nd (se_bin op_addD (se_bin op_divD (vr 4) (vr 7)) (bl_int E.z_int (sa_cons (se_cmp op_gtD (se_bin op_modD (vr 4) (vr 7)) se_int (nomark _)) sa_nil))))
    (sss_one (ss_ret (se_if (st_w (sw_or (st_cmp (op_eqDD hr.rm) (se_ix (vr 0) se_int) (se_ix (vr 1) se_int) (nomark _)) (sw_or1 (st_cmp op_gtD (vr 5) (vr 8) (nomark _))))) (vr 5) (vr 8)))))))) : SSs _ cl (defBody (topS 29)) b__law_turn)
theorem c__law_end : FnScope ["placed", "windows", "order", "dome", "now", "k", "i"] ["placed", "windows", "order", "dome"] (defScope (topS 31)) := ⟨rfl, rfl, rfl, by decide +kernel, rfl, by decide +kernel, by decide +kernel⟩
noncomputable def b__law_end : S := (sSeq (sAsg (eC (.int 0)) (gNm 4))
  (sSeq (sFor (iRange1 (eBlt bLen (aCons (eVar 2) aNil))) (gNm 5) (sSeq (sAsg (eOp oIdx (eVar 2) (eVar 5)) (gNm 6))
  (sSeq (sAsg (eBlt bMax (aCons (eOp oIdx (eOp oIdx (eVar 1) (eVar 6)) (eC (.int 0))) (aCons (eOp oAdd (eVar 4) (eIf (tOf (eOp oGt (eVar 5) (eC (.int 0)))) (eCall s__law_turn (aCons (eOp oIdx (eVar 0) (eOp oIdx (eVar 2) (eOp oSub (eVar 5) (eC (.int 1))))) (aCons (eOp oIdx (eVar 0) (eVar 6)) (aCons (eVar 3) aNil)))) (eC (.int 0)))) aNil))) (gNm 4))
  (sSeq (sIf (tOf (eOp oGt (eVar 4) (eOp oIdx (eOp oIdx (eVar 1) (eVar 6)) (eC (.int 1))))) (sRet (eC .non)) sNext)
  (sAsg (eOp oAdd (eVar 4) (eOp oIdx (eOp oIdx (eVar 0) (eVar 6)) (eC (.int 2)))) (gNm 4))))))
  (sRet (eVar 4))))
noncomputable def s__law_end : F := fDef 4 7 b__law_end
theorem o__law_end (E : Mo mg) (D : DefAt K mg "_law_end" (topS 31) ["placed", "windows", "order", "dome"]) (h__law_turn : FunOk P w K mg base cl 1 3 "_law_turn" s__law_turn) : FunOk P w K mg base cl 2 4 "_law_end" s__law_end :=
  have sc := c__law_end
  fun_ok D sc rfl fun f cdv A outer s H E0 hr => ((sss_cons (st_set 4 sc.nd se_int)
    (sss_cons (ss_for PassesOwn.never rfl (si_range1 (by rfl) E.z_range (bl_len E.z_len (sa_cons (vr 2) sa_nil))) (nm 5 sc.nd) (sss_cons (st_set 6 sc.nd (se_ix (vr 2) (vr 5)))
    (sss_cons (st_set 4 sc.nd (bl_max rfl hr E.z_max (sa_cons (se_ix (se_ix (vr 1) (vr 6)) se_int) (sa_cons (se_bin op_addD (vr 4) (se_if (st_cmp op_gtD (vr 5) se_int (nomark _)) (se_call (h__law_turn.mono (by decide)) hr (by rfl) (sa_cons (se_ix (vr 0) (se_ix (vr 2) (se_bin op_subD (vr 5) se_int))) (sa_cons (se_ix (vr 0) (vr 6)) (sa_cons (vr 3) sa_nil))) (hlen := (len_cons (len_cons (len_cons len_nil))))) se_int)) sa_nil))))
    (sss_cons (ss_if (st_cmp op_gtD (vr 4) (se_ix (se_ix (vr 1) (vr 6)) se_int) (nomark _)) (sss_one (ss_ret se_non)) sss_nil)
    (sss_one (st_set 4 sc.nd (se_bin op_addD (vr 4) (se_ix (se_ix (vr 0) (vr 6)) se_int))))))))
    (sss_one (ss_ret (vr 4))))) : SSs _ cl (defBody (topS 31)) b__law_end)
theorem c__law_ends : FnScope ["placed", "windows", "dome", "i", "mask", "n", "best", "j", "begin", "key"] ["placed", "windows", "dome"] (defScope (topS 30)) := ⟨rfl, rfl, rfl, by decide +kernel, rfl, by decide +kernel, by decide +kernel⟩
noncomputable def b__law_ends : S := (sSeq (sAsg (eTup (aCons (eBlt bLen (aCons (eVar 0) aNil)) (aCons eNewD aNil))) (gTp 2 (gsCons (gNm 5) (gsCons (gNm 6) gsNil))))
  (sSeq (sFor (iRange1 (eVar 5)) (gNm 3) (sIf (tOf (eOp oLe (eOp oIdx (eOp oIdx (eVar 1) (eVar 3)) (eC (.int 0))) (eOp oIdx (eOp oIdx (eVar 1) (eVar 3)) (eC (.int 1))))) (sSetIxA (eVar 6) (eTup (aCons (eOp oShl (eC (.int 1)) (eVar 3)) (aCons (eVar 3) aNil))) (eOp oAdd (eOp oIdx (eOp oIdx (eVar 1) (eVar 3)) (eC (.int 0))) (eOp oIdx (eOp oIdx (eVar 0) (eVar 3)) (eC (.int 2))))) sNext))
  (sSeq (sFor (iRange2 (eC (.int 1)) (eOp oShl (eC (.int 1)) (eVar 5))) (gNm 4) (sFor (iRange1 (eVar 5)) (gNm 3) (sIf (tOf (eOp oInA (eTup (aCons (eVar 4) (aCons (eVar 3) aNil))) (eVar 6))) (sFor (iRange1 (eVar 5)) (gNm 7) (sIf (tOf (eOp oEq (eOp oAnd (eOp oShr (eVar 4) (eVar 7)) (eC (.int 1))) (eC (.int 0)))) (sSeq (sAsg (eBlt bMax (aCons (eOp oIdx (eOp oIdx (eVar 1) (eVar 7)) (eC (.int 0))) (aCons (eOp oAdd (eOp oIdxA (eVar 6) (eTup (aCons (eVar 4) (aCons (eVar 3) aNil)))) (eCall s__law_turn (aCons (eOp oIdx (eVar 0) (eVar 3)) (aCons (eOp oIdx (eVar 0) (eVar 7)) (aCons (eVar 2) aNil))))) aNil))) (gNm 8))
  (sIf (tOf (eOp oLe (eVar 8) (eOp oIdx (eOp oIdx (eVar 1) (eVar 7)) (eC (.int 1))))) (sSeq (sAsg (eTup (aCons (eOp oOr (eVar 4) (eOp oShl (eC (.int 1)) (eVar 7))) (aCons (eVar 7) aNil))) (gNm 9))
  (sSetIxA (eVar 6) (eVar 9) (eBlt bMin (aCons (eGet2 (eVar 6) (eVar 9) (eOp oAdd (eVar 8) (eOp oIdx (eOp oIdx (eVar 0) (eVar 7)) (eC (.int 2))))) (aCons (eOp oAdd (eVar 8) (eOp oIdx (eOp oIdx (eVar 0) (eVar 7)) (eC (.int 2)))) aNil))))) sNext)) sNext)) sNext)))
  (sRet (eVar 6)))))
noncomputable def s__law_ends : F := fDef 3 10 b__law_ends
theorem o__law_ends (E : Mo mg) (D : DefAt K mg "_law_ends" (topS 30) ["placed", "windows", "dome"]) (h__law_turn : FunOk P w K mg base cl 1 3 "_law_turn" s__law_turn) : FunOk P w K mg base cl 2 3 "_law_ends" s__law_ends :=
  have sc := c__law_ends
  fun_ok D sc rfl fun f cdv A outer s H E0 hr => ((sss_cons (ss_par rfl sc.nd rfl rfl (by decide) rfl rfl (bl_len E.z_len (sa_cons (vr 0) sa_nil)) se_dnew (by rfl))
    (sss_cons (ss_for PassesOwn.never rfl (si_range1 (by rfl) E.z_range (vr 5)) (nm 3 sc.nd) (sss_one (ss_if (st_cmp op_leD (se_ix (se_ix (vr 1) (vr 3)) se_int) (se_ix (se_ix (vr 1) (vr 3)) se_int) (nomark _)) (sss_one (ss_setixA hr (vr 6) (se_tup (sa_cons (se_bin op_shlD se_int (vr 3)) (sa_cons (vr 3) sa_nil))) (se_bin op_addD (se_ix (se_ix (vr 1) (vr 3)) se_int) (se_ix (se_ix (vr 0) (vr 3)) se_int)))) sss_nil)))
    (sss_cons (ss_for PassesOwn.never rfl (si_range2 (by rfl) E.z_range se_int (se_bin op_shlD se_int (vr 5))) (nm 4 sc.nd) (sss_one (ss_for PassesOwn.never rfl (si_range1 (by rfl) E.z_range (vr 5)) (nm 3 sc.nd) (sss_one (ss_if (st_cmp (op_inA hr) (se_tup (sa_cons (vr 4) (sa_cons (vr 3) sa_nil))) (vr 6) (by with_unfolding_all rfl)) (sss_one (ss_for PassesOwn.never rfl (si_range1 (by rfl) E.z_range (vr 5)) (nm 7 sc.nd) (sss_one (ss_if (st_cmp (op_eqDD hr.rm) (se_bin op_andD (se_bin op_shrD (vr 4) (vr 7)) se_int) se_int (nomark _)) (sss_cons (st_set 8 sc.nd (bl_max rfl hr E.z_max (sa_cons (se_ix (se_ix (vr 1) (vr 7)) se_int) (sa_cons (se_bin op_addD (se_ixA hr (vr 6) (se_tup (sa_cons (vr 4) (sa_cons (vr 3) sa_nil)))) (se_call (h__law_turn.mono (by decide)) hr (by rfl) (sa_cons (se_ix (vr 0) (vr 3)) (sa_cons (se_ix (vr 0) (vr 7)) (sa_cons (vr 2) sa_nil))) (hlen := (len_cons (len_cons (len_cons len_nil)))))) sa_nil))))
    (sss_one (ss_if (st_cmp op_leD (vr 8) (se_ix (se_ix (vr 1) (vr 7)) se_int) (nomark _)) (sss_cons (st_set 9 sc.nd (se_tup (sa_cons (se_bin op_orD (vr 4) (se_bin op_shlD se_int (vr 7))) (sa_cons (vr 7) sa_nil))))
    (sss_one (ss_setixA hr (vr 6) (vr 9) (bl_min rfl hr E.z_min (sa_cons (se_get2 hr (vr 6) (vr 9) (se_bin op_addD (vr 8) (se_ix (se_ix (vr 0) (vr 7)) se_int))) (sa_cons (se_bin op_addD (vr 8) (se_ix (se_ix (vr 0) (vr 7)) se_int)) sa_nil)))))) sss_nil))) sss_nil)))) sss_nil)))))
    (sss_one (ss_ret (vr 6)))))) : SSs _ cl (defBody (topS 30)) b__law_ends)
theorem c__law_rest : FnScope ["placed", "order", "dome", "left", "best", "mask", "full", "i", "k", "more", "key"] ["placed", "order", "dome"] (defScope (topS 33)) := ⟨rfl, rfl, rfl, by decide +kernel, rfl, by decide +kernel, by decide +kernel⟩
noncomputable def b__law_rest : S := (sSeq (sAsg (eLc (iRange1 (eBlt bLen (aCons (eVar 0) aNil))) [7] (gNm 7) (tOf (eOp oNotIn (eVar 7) (eVar 1))) (eVar 7)) (gNm 3))
  (sSeq (sAsg (eDisp1 (eTup (aCons (eC (.int 0)) (aCons (eOp oIdx (eVar 1) (eUn oNeg (eC (.int 1)))) aNil))) (eC (.int 0))) (gNm 4))
  (sSeq (sFor (iRange1 (eOp oShl (eC (.int 1)) (eBlt bLen (aCons (eVar 3) aNil)))) (gNm 5) (sFor (iSeq (eOp oAdd (eLst (aCons (eOp oIdx (eVar 1) (eUn oNeg (eC (.int 1)))) aNil)) (eVar 3))) (gNm 7) (sIf (tOf (eOp oInA (eTup (aCons (eVar 5) (aCons (eVar 7) aNil))) (eVar 4))) (sFor (iRange1 (eBlt bLen (aCons (eVar 3) aNil))) (gNm 8) (sIf (tOf (eOp oEq (eOp oAnd (eOp oShr (eVar 5) (eVar 8)) (eC (.int 1))) (eC (.int 0)))) (sSeq (sAsg (eOp oAdd (eOp oAdd (eOp oIdxA (eVar 4) (eTup (aCons (eVar 5) (aCons (eVar 7) aNil)))) (eCall s__law_turn (aCons (eOp oIdx (eVar 0) (eVar 7)) (aCons (eOp oIdx (eVar 0) (eOp oIdx (eVar 3) (eVar 8))) (aCons (eVar 2) aNil))))) (eOp oIdx (eOp oIdx (eVar 0) (eOp oIdx (eVar 3) (eVar 8))) (eC (.int 2)))) (gNm 9))
  (sSeq (sAsg (eTup (aCons (eOp oOr (eVar 5) (eOp oShl (eC (.int 1)) (eVar 8))) (aCons (eOp oIdx (eVar 3) (eVar 8)) aNil))) (gNm 10))
  (sSetIxA (eVar 4) (eVar 10) (eBlt bMin (aCons (eGet2 (eVar 4) (eVar 10) (eVar 9)) (aCons (eVar 9) aNil)))))) sNext)) sNext)))
  (sSeq (sAsg (eOp oSub (eOp oShl (eC (.int 1)) (eBlt bLen (aCons (eVar 3) aNil))) (eC (.int 1))) (gNm 6))
  (sRet (eBlt bMin (aCons (eLc (iSeq (eOp oAdd (eLst (aCons (eOp oIdx (eVar 1) (eUn oNeg (eC (.int 1)))) aNil)) (eVar 3))) [7] (gNm 7) (tOf (eOp oInA (eTup (aCons (eVar 6) (aCons (eVar 7) aNil))) (eVar 4))) (eOp oIdxA (eVar 4) (eTup (aCons (eVar 6) (aCons (eVar 7) aNil))))) aNil)))))))
noncomputable def s__law_rest : F := fDef 3 11 b__law_rest
theorem o__law_rest (E : Mo mg) (D : DefAt K mg "_law_rest" (topS 33) ["placed", "order", "dome"]) (h__law_turn : FunOk P w K mg base cl 1 3 "_law_turn" s__law_turn) : FunOk P w K mg base cl 2 3 "_law_rest" s__law_rest :=
  have sc := c__law_rest
  fun_ok D sc rfl fun f cdv A outer s H E0 hr => ((sss_cons (ss_setlc rfl sc.nd rfl rfl (si_range1 (by rfl) E.z_range (bl_len E.z_len (sa_cons (vr 0) sa_nil))) (blkOk_by (own := [("i", 7)]) (by rfl)) (fun _ _ _ _ _ => (nm 7 sc.nd)) (fun _ _ _ _ _ => (sts_one (st_cmp op_notInD' (vr 7) (vr 1) (by with_unfolding_all rfl)))) (fun _ _ _ _ _ => (vr 7)))
    (sss_cons (st_set 4 sc.nd (se_disp1 hr (se_tup (sa_cons se_int (sa_cons (se_ix (vr 1) (se_neg se_int)) sa_nil))) se_int))
    (sss_cons (ss_for PassesOwn.never rfl (si_range1 (by rfl) E.z_range (se_bin op_shlD se_int (bl_len E.z_len (sa_cons (vr 3) sa_nil)))) (nm 5 sc.nd) (sss_one (ss_for PassesOwn.never rfl (si_seq (se_bin op_addD (se_of_f (sf_lst (sa_cons (se_ix (vr 1) (se_neg se_int)) sa_nil)) lst_eLst) (vr 3))) (nm 7 sc.nd) (sss_one (ss_if (st_cmp (op_inA hr) (se_tup (sa_cons (vr 5) (sa_cons (vr 7) sa_nil))) (vr 4) (by with_unfolding_all rfl)) (sss_one (ss_for PassesOwn.never rfl (si_range1 (by rfl) E.z_range (bl_len E.z_len (sa_cons (vr 3) sa_nil))) (nm 8 sc.nd) (sss_one (ss_if (st_cmp (op_eqDD hr.rm) (se_bin op_andD (se_bin op_shrD (vr 5) (vr 8)) se_int) se_int (nomark _)) (sss_cons (st_set 9 sc.nd (se_bin op_addD (se_bin op_addD (se_ixA hr (vr 4) (se_tup (sa_cons (vr 5) (sa_cons (vr 7) sa_nil)))) (se_call (h__law_turn.mono (by decide)) hr (by rfl) (sa_cons (se_ix (vr 0) (vr 7)) (sa_cons (se_ix (vr 0) (se_ix (vr 3) (vr 8))) (sa_cons (vr 2) sa_nil))) (hlen := (len_cons (len_cons (len_cons len_nil)))))) (se_ix (se_ix (vr 0) (se_ix (vr 3) (vr 8))) se_int)))
    (sss_cons (st_set 10 sc.nd (se_tup (sa_cons (se_bin op_orD (vr 5) (se_bin op_shlD se_int (vr 8))) (sa_cons (se_ix (vr 3) (vr 8)) sa_nil))))
    (sss_one (ss_setixA hr (vr 4) (vr 10) (bl_min rfl hr E.z_min (sa_cons (se_get2 hr (vr 4) (vr 10) (vr 9)) (sa_cons (vr 9) sa_nil))))))) sss_nil)))) sss_nil)))))
    (sss_cons (st_set 6 sc.nd (se_bin op_subD (se_bin op_shlD se_int (bl_len E.z_len (sa_cons (vr 3) sa_nil))) se_int))
    (sss_one (ss_ret (bl_min rfl hr E.z_min (sa_cons (se_of_f (sf_lc rfl sc.nd (si_seq (se_bin op_addD (se_of_f (sf_lst (sa_cons (se_ix (vr 1) (se_neg se_int)) sa_nil)) lst_eLst) (vr 3))) (blkOk_by (own := [("i", 7)]) (by rfl)) (fun _ _ _ _ _ => (nm 7 sc.nd)) (fun _ _ _ _ _ => (sts_one (st_cmp (op_inA hr) (se_tup (sa_cons (vr 6) (sa_cons (vr 7) sa_nil))) (vr 4) (by with_unfolding_all rfl)))) (fun _ _ _ _ _ => (se_ixA hr (vr 4) (se_tup (sa_cons (vr 6) (sa_cons (vr 7) sa_nil)))))) lst_eLc) sa_nil)))))))) : SSs _ cl (defBody (topS 33)) b__law_rest)
theorem c__law_least : FnScope ["placed", "dome", "best", "full", "due", "n", "wide", "order", "now", "i", "more"] ["placed", "dome"] (defScope (topS 32)) := ⟨rfl, rfl, rfl, by decide +kernel, rfl, by decide +kernel, by decide +kernel⟩
noncomputable def b__law_least : S := (sSeq (sAsg (eTup (aCons (eBlt bLen (aCons (eVar 0) aNil)) (aCons (eOp oMulT (eTup (aCons (eTup (aCons (eC (.int 0)) (aCons (eC (.int 10000000)) aNil))) aNil)) (eBlt bLen (aCons (eVar 0) aNil))) aNil))) (gTp 2 (gsCons (gNm 5) (gsCons (gNm 6) gsNil))))
  (sSeq (sAsg (eCall s__law_ends (aCons (eVar 0) (aCons (eVar 6) (aCons (eVar 1) aNil)))) (gNm 2))
  (sSeq (sAsg (eOp oSub (eOp oShl (eC (.int 1)) (eVar 5)) (eC (.int 1))) (gNm 3))
  (sSeq (sAsg (eBlt bMin (aCons (eLc (iRange1 (eVar 5)) [9] (gNm 9) tYes (eOp oIdxA (eVar 2) (eTup (aCons (eVar 3) (aCons (eVar 9) aNil))))) aNil)) (gNm 4))
  (sSeq (sAsg (eTup (aCons (eTup aNil) (aCons (eC (.int 0)) aNil))) (gTp 2 (gsCons (gNm 7) (gsCons (gNm 8) gsNil))))
  (sSeq (sWhile (tOf (eOp oLt (eBlt bLen (aCons (eVar 7) aNil)) (eVar 5))) (sSeq (sFor (iRange1 (eVar 5)) (gNm 9) (sIf (tOf (eOp oNotIn (eVar 9) (eVar 7))) (sSeq (sAsg (eOp oAdd (eVar 7) (eTup (aCons (eVar 9) aNil))) (gNm 10))
  (sIf (tOf (eOp oEq (eOp oAdd (eCall s__law_end (aCons (eVar 0) (aCons (eVar 6) (aCons (eVar 10) (aCons (eVar 1) aNil))))) (eCall s__law_rest (aCons (eVar 0) (aCons (eVar 10) (aCons (eVar 1) aNil))))) (eVar 4))) (sSeq (sAsg (eVar 10) (gNm 7))
  sBreak) sNext)) sNext))
  (sSeq (sAsg (eOp oAdd (eVar 8) (eC (.int 1))) (gNm 8))
  (sIf (tOf (eOp oGt (eVar 8) (eVar 5))) (sRet (eC .non)) sNext))))
  (sRet (eTup (aCons (eVar 4) (aCons (eVar 7) aNil))))))))))
noncomputable def s__law_least : F := fDef 2 11 b__law_least
theorem o__law_least (E : Mo mg) (D : DefAt K mg "_law_least" (topS 32) ["placed", "dome"]) (h__law_end : FunOk P w K mg base cl 2 4 "_law_end" s__law_end) (h__law_ends : FunOk P w K mg base cl 2 3 "_law_ends" s__law_ends) (h__law_rest : FunOk P w K mg base cl 2 3 "_law_rest" s__law_rest) : FunOk P w K mg base cl 3 2 "_law_least" s__law_least :=
  have sc := c__law_least
  fun_ok D sc rfl fun f cdv A outer s H E0 hr => ((sss_cons (ss_par rfl sc.nd rfl rfl (by decide) rfl rfl (bl_len E.z_len (sa_cons (vr 0) sa_nil)) (se_bin op_mulT (se_tup (sa_cons (se_tup (sa_cons se_int (sa_cons se_int sa_nil))) sa_nil)) (bl_len E.z_len (sa_cons (vr 0) sa_nil))) (by rfl))
    (sss_cons (st_set 2 sc.nd (se_call (h__law_ends.mono (by decide)) hr (by rfl) (sa_cons (vr 0) (sa_cons (vr 6) (sa_cons (vr 1) sa_nil))) (hlen := (len_cons (len_cons (len_cons len_nil))))))
    (sss_cons (st_set 3 sc.nd (se_bin op_subD (se_bin op_shlD se_int (vr 5)) se_int))
    (sss_cons (st_set 4 sc.nd (bl_min rfl hr E.z_min (sa_cons (se_of_f (sf_lc rfl sc.nd (si_range1 (by rfl) E.z_range (vr 5)) (blkOk_by (own := [("i", 9)]) (by rfl)) (fun _ _ _ _ _ => (nm 9 sc.nd)) (fun _ _ _ _ _ => sts_nil) (fun _ _ _ _ _ => (se_ixA hr (vr 2) (se_tup (sa_cons (vr 3) (sa_cons (vr 9) sa_nil)))))) lst_eLc) sa_nil)))
    (sss_cons (ss_asg (se_tup (sa_cons (se_tup sa_nil) (sa_cons se_int sa_nil))) (sg_tup rfl (sgs_cons (nm 7 sc.nd) (sgs_cons (nm 8 sc.nd) sgs_nil))))
    (sss_cons (ss_while PassesOwn.never (st_cmp (op_ltD hr.rm) (bl_len E.z_len (sa_cons (vr 7) sa_nil)) (vr 5) (nomark _)) (sss_cons (ss_for PassesOwn.never rfl (si_range1 (by rfl) E.z_range (vr 5)) (nm 9 sc.nd) (sss_one (ss_if (st_cmp op_notInD' (vr 9) (vr 7) (by with_unfolding_all rfl)) (sss_cons (st_set 10 sc.nd (se_bin op_addD (vr 7) (se_tup (sa_cons (vr 9) sa_nil))))
    (sss_one (ss_if (st_cmp (op_eqDD hr.rm) (se_bin op_addD (se_call (h__law_end.mono (by decide)) hr (by rfl) (sa_cons (vr 0) (sa_cons (vr 6) (sa_cons (vr 10) (sa_cons (vr 1) sa_nil)))) (hlen := (len_cons (len_cons (len_cons (len_cons len_nil)))))) (se_call (h__law_rest.mono (by decide)) hr (by rfl) (sa_cons (vr 0) (sa_cons (vr 10) (sa_cons (vr 1) sa_nil))) (hlen := (len_cons (len_cons (len_cons len_nil)))))) (vr 4) (nomark _)) (sss_cons (st_set 7 sc.nd (vr 10))
    (sss_one ss_break)) sss_nil))) sss_nil)))
    (sss_cons (st_set 8 sc.nd (se_bin op_addD (vr 8) se_int))
    (sss_one (ss_if (st_cmp op_gtD (vr 8) (vr 5) (nomark _)) (sss_one (ss_ret se_non)) sss_nil)))))
    (sss_one (ss_ret (se_tup (sa_cons (vr 4) (sa_cons (vr 7) sa_nil))))))))))) : SSs _ cl (defBody (topS 32)) b__law_least)
theorem c__law_cell : FnScope ["script", "k"] ["script", "k"] (defScope (topS 24)) := ⟨rfl, rfl, rfl, by decide +kernel, rfl, by decide +kernel, by decide +kernel⟩
noncomputable def b__law_cell : S := (sRet (eIf (tOf (eOp oLt (eVar 1) (eBlt bLen (aCons (eVar 0) aNil)))) (eBlt bAbs (aCons (eBlt bInt (aCons (eOp oIdx (eVar 0) (eVar 1)) aNil)) aNil)) (eC (.int 0))))
noncomputable def s__law_cell : F := fDef 2 2 b__law_cell
theorem o__law_cell (E : Mo mg) (D : DefAt K mg "_law_cell" (topS 24) ["script", "k"])  : FunOk P w K mg base cl 1 2 "_law_cell" s__law_cell :=
  have sc := c__law_cell
  fun_ok D sc rfl fun f cdv A outer s H E0 hr => ((sss_one (ss_ret (se_if (st_cmp (op_ltD hr.rm) (vr 1) (bl_len E.z_len (sa_cons (vr 0) sa_nil)) (nomark _)) (bl_abs E.z_abs (sa_cons (bl_int E.z_int (sa_cons (se_ix (vr 0) (vr 1)) sa_nil)) sa_nil)) se_int))) : SSs _ cl (defBody (topS 24)) b__law_cell)
theorem c__law_stream : FnScope ["script", "k"] ["script", "k"] (defScope (topS 25)) := ⟨rfl, rfl, rfl, by decide +kernel, rfl, by decide +kernel, by decide +kernel⟩
noncomputable def b__law_stream : S := (sRet (eNew (eLst (aCons (eCall s__law_cell (aCons (eVar 0) (aCons (eVar 1) aNil))) (aCons (eOp oAdd (eC (.int 1)) (eOp oMod (eOp oMul (eC (.int 48271)) (eCall s__law_cell (aCons (eVar 0) (aCons (eVar 1) aNil)))) (eC (.int 2147483647)))) aNil)))))
noncomputable def s__law_stream : F := fDef 2 2 b__law_stream
theorem o__law_stream (E : Mo mg) (D : DefAt K mg "_law_stream" (topS 25) ["script", "k"]) (h__law_cell : FunOk P w K mg base cl 1 2 "_law_cell" s__law_cell) : FunOk P w K mg base cl 2 2 "_law_stream" s__law_stream :=
  have sc := c__law_stream
  fun_ok D sc rfl fun f cdv A outer s H E0 hr => ((sss_one (ss_ret (se_new (sf_lst (sa_cons (se_call (h__law_cell.mono (by decide)) hr (by rfl) (sa_cons (vr 0) (sa_cons (vr 1) sa_nil)) (hlen := (len_cons (len_cons len_nil)))) (sa_cons (se_bin op_addD se_int (se_bin op_modD (se_bin op_mulD se_int (se_call (h__law_cell.mono (by decide)) hr (by rfl) (sa_cons (vr 0) (sa_cons (vr 1) sa_nil)) (hlen := (len_cons (len_cons len_nil))))) se_int)) sa_nil)))))) : SSs _ cl (defBody (topS 25)) b__law_stream)
theorem c_orders_of : FnScope ["many", "found", "_", "longer", "row", "item"] ["many"] (defScope (topS 17)) := ⟨rfl, rfl, rfl, by decide +kernel, rfl, by decide +kernel, by decide +kernel⟩
noncomputable def b_orders_of : S := (sSeq (sAsg (eLst (aCons (eTup aNil) aNil)) (gNm 1))
  (sSeq (sFor (iRange1 (eVar 0)) (gNm 2) (sSeq (sAsg (eLst aNil) (gNm 3))
  (sSeq (sFor (iSeq (eVar 1)) (gNm 4) (sAsg (eOp oAdd (eVar 3) (eLc (iRange1 (eVar 0)) [5] (gNm 5) (tOf (eOp oNotIn (eVar 5) (eVar 4))) (eOp oAdd (eVar 4) (eTup (aCons (eVar 5) aNil))))) (gNm 3)))
  (sAsg (eVar 3) (gNm 1)))))
  (sRet (eVar 1))))
noncomputable def s_orders_of : F := fDef 1 6 b_orders_of
theorem o_orders_of (E : Mo mg) (D : DefAt K mg "orders_of" (topS 17) ["many"])  : FunOk P w K mg base cl 1 1 "orders_of" s_orders_of :=
  have sc := c_orders_of
  fun_ok D sc rfl fun f cdv A outer s H E0 hr => ((sss_cons (st_set 1 sc.nd (se_of_f (sf_lst (sa_cons (se_tup sa_nil) sa_nil)) lst_eLst))
    (sss_cons (ss_for PassesOwn.never rfl (si_range1 (by rfl) E.z_range (vr 0)) (nm 2 sc.nd) (sss_cons (st_set 3 sc.nd (se_of_f (sf_lst sa_nil) lst_eLst))
    (sss_cons (ss_for PassesOwn.never rfl (si_seq (vr 1)) (nm 4 sc.nd) (sss_one (st_set 3 sc.nd (se_bin op_addD (vr 3) (se_of_f (sf_lc rfl sc.nd (si_range1 (by rfl) E.z_range (vr 0)) (blkOk_by (own := [("item", 5)]) (by rfl)) (fun _ _ _ _ _ => (nm 5 sc.nd)) (fun _ _ _ _ _ => (sts_one (st_cmp op_notInD' (vr 5) (vr 4) (by with_unfolding_all rfl)))) (fun _ _ _ _ _ => (se_bin op_addD (vr 4) (se_tup (sa_cons (vr 5) sa_nil))))) lst_eLc)))))
    (sss_one (st_set 1 sc.nd (vr 3))))))
    (sss_one (ss_ret (vr 1))))) : SSs _ cl (defBody (topS 17)) b_orders_of)
theorem c_time_of : FnScope ["one", "other", "p", "speed", "f", "apart", "way"] ["one", "other", "p", "speed", "f"] (defScope (topS 15)) := ⟨rfl, rfl, rfl, by decide +kernel, rfl, by decide +kernel, by decide +kernel⟩
noncomputable def b_time_of : S := (sSeq (sAsg (eBlt bAbs (aCons (eOp oSub (eOp oIdx (eVar 0) (eC (.int 0))) (eOp oIdx (eVar 1) (eC (.int 0)))) aNil)) (gNm 5))
  (sSeq (sAsg (eBlt bMin (aCons (eVar 5) (aCons (eOp oSub (eVar 2) (eVar 5)) aNil))) (gNm 6))
  (sRet (eBlt bMax (aCons (eOp oDiv (eOp oSub (eOp oAdd (eVar 6) (eVar 3)) (eC (.int 1))) (eVar 3)) (aCons (eIf (tOf (eOp oNe (eOp oIdx (eVar 0) (eC (.int 1))) (eOp oIdx (eVar 1) (eC (.int 1))))) (eVar 4) (eC (.int 0))) aNil))))))
noncomputable def s_time_of : F := fDef 5 7 b_time_of
theorem o_time_of (E : Mo mg) (D : DefAt K mg "time_of" (topS 15) ["one", "other", "p", "speed", "f"])  : FunOk P w K mg base cl 1 5 "time_of" s_time_of :=
  have sc := c_time_of
  fun_ok D sc rfl fun f cdv A outer s H E0 hr => ((sss_cons (st_set 5 sc.nd (bl_abs E.z_abs (sa_cons (se_bin op_subD (se_ix (vr 0) se_int) (se_ix (vr 1) se_int)) sa_nil)))
    (sss_cons (st_set 6 sc.nd (bl_min rfl hr E.z_min (sa_cons (vr 5) (sa_cons (se_bin op_subD (vr 2) (vr 5)) sa_nil))))
    (sss_one (ss_ret (bl_max rfl hr E.z_max (sa_cons (se_bin op_divD (se_bin op_subD (se_bin op_addD (vr 6) (vr 3)) se_int) (vr 3)) (sa_cons (se_if (st_cmp (op_neDD hr.rm) (se_ix (vr 0) se_int) (se_ix (vr 1) se_int) (nomark _)) (vr 4) se_int) sa_nil))))))) : SSs _ cl (defBody (topS 15)) b_time_of)
theorem c_whole_time : FnScope ["placed", "order", "windows", "p", "speed", "f", "now", "at", "look"] ["placed", "order", "windows", "p", "speed", "f"] (defScope (topS 18)) := ⟨rfl, rfl, rfl, by decide +kernel, rfl, by decide +kernel, by decide +kernel⟩
noncomputable def b_whole_time : S := (sSeq (sAsg (eC (.int 0)) (gNm 6))
  (sSeq (sFor (iEnum (eVar 1)) (gTp 2 (gsCons (gNm 7) (gsCons (gNm 8) gsNil))) (sSeq (sIf (tOf (eOp oGt (eVar 7) (eC (.int 0)))) (sAug 6 oAddI (eCall s_time_of (aCons (eOp oIdx (eVar 0) (eOp oIdx (eVar 1) (eOp oSub (eVar 7) (eC (.int 1))))) (aCons (eOp oIdx (eVar 0) (eVar 8)) (aCons (eVar 3) (aCons (eVar 4) (aCons (eVar 5) aNil))))))) sNext)
  (sSeq (sIf (tOf (eUn oNotN (eVar 2))) (sSeq (sAsg (eBlt bMax (aCons (eVar 6) (aCons (eOp oIdx (eOp oIdx (eVar 2) (eVar 8)) (eC (.int 0))) aNil))) (gNm 6))
  (sIf (tOf (eOp oGt (eVar 6) (eOp oIdx (eOp oIdx (eVar 2) (eVar 8)) (eC (.int 1))))) (sRet (eC .non)) sNext)) sNext)
  (sAug 6 oAddI (eOp oIdx (eOp oIdx (eVar 0) (eVar 8)) (eC (.int 2)))))))
  (sRet (eVar 6))))
noncomputable def s_whole_time : F := fDef 6 9 b_whole_time
theorem o_whole_time (E : Mo mg) (D : DefAt K mg "whole_time" (topS 18) ["placed", "order", "windows", "p", "speed", "f"]) (h_time_of : FunOk P w K mg base cl 1 5 "time_of" s_time_of) : FunOk P w K mg base cl 2 6 "whole_time" s_whole_time :=
  have sc := c_whole_time
  fun_ok D sc rfl fun f cdv A outer s H E0 hr => ((sss_cons (st_set 6 sc.nd se_int)
    (sss_cons (ss_for PassesOwn.never rfl (si_enum (by rfl) E.z_enumerate (vr 1)) (sg_tup rfl (sgs_cons (nm 7 sc.nd) (sgs_cons (nm 8 sc.nd) sgs_nil))) (sss_cons (ss_if (st_cmp op_gtD (vr 7) se_int (nomark _)) (sss_one (st_aug 6 sc.nd ip_addI (se_call (h_time_of.mono (by decide)) hr (by rfl) (sa_cons (se_ix (vr 0) (se_ix (vr 1) (se_bin op_subD (vr 7) se_int))) (sa_cons (se_ix (vr 0) (vr 8)) (sa_cons (vr 3) (sa_cons (vr 4) (sa_cons (vr 5) sa_nil))))) (hlen := (len_cons (len_cons (len_cons (len_cons (len_cons len_nil))))))))) sss_nil)
    (sss_cons (ss_if (st_notN (vr 2)) (sss_cons (st_set 6 sc.nd (bl_max rfl hr E.z_max (sa_cons (vr 6) (sa_cons (se_ix (se_ix (vr 2) (vr 8)) se_int) sa_nil))))
    (sss_one (ss_if (st_cmp op_gtD (vr 6) (se_ix (se_ix (vr 2) (vr 8)) se_int) (nomark _)) (sss_one (ss_ret se_non)) sss_nil))) sss_nil)
    (sss_one (st_aug 6 sc.nd ip_addI (se_ix (se_ix (vr 0) (vr 8)) se_int))))))
    (sss_one (ss_ret (vr 6))))) : SSs _ cl (defBody (topS 18)) b_whole_time)
theorem c_best_order : FnScope ["placed", "windows", "p", "speed", "f", "best", "order", "told"] ["placed", "windows", "p", "speed", "f"] (defScope (topS 19)) := ⟨rfl, rfl, rfl, by decide +kernel, rfl, by decide +kernel, by decide +kernel⟩
noncomputable def b_best_order : S := (sSeq (sAsg (eC .non) (gNm 5))
  (sSeq (sFor (iSeq (eCall s_orders_of (aCons (eBlt bLen (aCons (eVar 0) aNil)) aNil))) (gNm 6) (sSeq (sAsg (eCall s_whole_time (aCons (eVar 0) (aCons (eVar 6) (aCons (eVar 1) (aCons (eVar 2) (aCons (eVar 3) (aCons (eVar 4) aNil))))))) (gNm 7))
  (sIf (EV.tAnd (tOf (eUn oNotN (eVar 7))) (EV.tOr (tOf (eUn oIsN (eVar 5))) (tOf (eOp oLt (eVar 7) (eOp oIdx (eVar 5) (eC (.int 0))))))) (sAsg (eTup (aCons (eVar 7) (aCons (eVar 6) aNil))) (gNm 5)) sNext)))
  (sRet (eVar 5))))
noncomputable def s_best_order : F := fDef 5 8 b_best_order
theorem o_best_order (E : Mo mg) (D : DefAt K mg "best_order" (topS 19) ["placed", "windows", "p", "speed", "f"]) (h_orders_of : FunOk P w K mg base cl 1 1 "orders_of" s_orders_of) (h_whole_time : FunOk P w K mg base cl 2 6 "whole_time" s_whole_time) : FunOk P w K mg base cl 3 5 "best_order" s_best_order :=
  have sc := c_best_order
  fun_ok D sc rfl fun f cdv A outer s H E0 hr => ((sss_cons (st_set 5 sc.nd se_non)
    (sss_cons (ss_for PassesOwn.never rfl (si_seq (se_call (h_orders_of.mono (by decide)) hr (by rfl) (sa_cons (bl_len E.z_len (sa_cons (vr 0) sa_nil)) sa_nil) (hlen := (len_cons len_nil)))) (nm 6 sc.nd) (sss_cons (st_set 7 sc.nd (se_call (h_whole_time.mono (by decide)) hr (by rfl) (sa_cons (vr 0) (sa_cons (vr 6) (sa_cons (vr 1) (sa_cons (vr 2) (sa_cons (vr 3) (sa_cons (vr 4) sa_nil)))))) (hlen := (len_cons (len_cons (len_cons (len_cons (len_cons (len_cons len_nil)))))))))
    (sss_one (ss_if (st_w (sw_and (st_notN (vr 7)) (sw_and1 (st_w (sw_or (st_isN (vr 5)) (sw_or1 (st_cmp (op_ltD hr.rm) (vr 7) (se_ix (vr 5) se_int) (nomark _)))))))) (sss_one (st_set 5 sc.nd (se_tup (sa_cons (vr 7) (sa_cons (vr 6) sa_nil))))) sss_nil))))
    (sss_one (ss_ret (vr 5))))) : SSs _ cl (defBody (topS 19)) b_best_order)
theorem c_is_integer : FnScope ["thing"] ["thing"] (defScope (topS 6)) := ⟨rfl, rfl, rfl, by decide +kernel, rfl, by decide +kernel, by decide +kernel⟩
noncomputable def b_is_integer : S := (sRet (eAnd (eBlt bIsInt (aCons (eVar 0) aNil)) (eNot (eBlt (bIs "bool") (aCons (eVar 0) aNil)))))
noncomputable def s_is_integer : F := fDef 1 1 b_is_integer
theorem o_is_integer (E : Mo mg) (D : DefAt K mg "is_integer" (topS 6) ["thing"])  : FunOk P w K mg base cl 1 1 "is_integer" s_is_integer :=
  have sc := c_is_integer
  fun_ok D sc rfl fun f cdv A outer s H E0 hr => ((sss_one (ss_ret (se_and (is_int E.z_isinstance E.z_int (vr 0)) (se_one (se_not (is_bool E.z_isinstance E.z_bool (vr 0))))))) : SSs _ cl (defBody (topS 6)) b_is_integer)
theorem c_is_between : FnScope ["thing", "low", "high"] ["thing", "low", "high"] (defScope (topS 8)) := ⟨rfl, rfl, rfl, by decide +kernel, rfl, by decide +kernel, by decide +kernel⟩
noncomputable def b_is_between : S := (sRet (eAnd (eCall s_is_integer (aCons (eVar 0) aNil)) (eChain oLe oLe (eVar 1) (eVar 0) (eVar 2))))
noncomputable def s_is_between : F := fDef 3 3 b_is_between
theorem o_is_between (E : Mo mg) (D : DefAt K mg "is_between" (topS 8) ["thing", "low", "high"]) (h_is_integer : FunOk P w K mg base cl 1 1 "is_integer" s_is_integer) : FunOk P w K mg base cl 2 3 "is_between" s_is_between :=
  have sc := c_is_between
  fun_ok D sc rfl fun f cdv A outer s H E0 hr => ((sss_one (ss_ret (se_and (se_call (h_is_integer.mono (by decide)) hr (by rfl) (sa_cons (vr 0) sa_nil) (hlen := (len_cons len_nil))) (se_one (se_chain op_leD op_leD (vr 1) (vr 0) (vr 2)))))) : SSs _ cl (defBody (topS 8)) b_is_between)
theorem c_check_numbers : FnScope ["p", "speed", "f"] ["p", "speed", "f"] (defScope (topS 12)) := ⟨rfl, rfl, rfl, by decide +kernel, rfl, by decide +kernel, by decide +kernel⟩
noncomputable def b_check_numbers : S := (sIf (EV.tOr (EV.tNot (tOf (eCall s_is_between (aCons (eVar 0) (aCons (eC (.int 1)) (aCons (eC (.int 1000)) aNil)))))) (EV.tOr (EV.tNot (tOf (eCall s_is_between (aCons (eVar 1) (aCons (eC (.int 1)) (aCons (eC (.int 1000)) aNil)))))) (EV.tNot (tOf (eCall s_is_between (aCons (eVar 2) (aCons (eC (.int 0)) (aCons (eC (.int 10000)) aNil)))))))) sNever sNext)
noncomputable def s_check_numbers : F := fDef 3 3 b_check_numbers
theorem o_check_numbers (E : Mo mg) (D : DefAt K mg "check_numbers" (topS 12) ["p", "speed", "f"]) (h_is_between : FunOk P w K mg base cl 2 3 "is_between" s_is_between) : FunOk P w K mg base cl 3 3 "check_numbers" s_check_numbers :=
  have sc := c_check_numbers
  fun_ok D sc rfl fun f cdv A outer s H E0 hr => ((sss_one (ss_if (st_w (sw_or (st_not (st_val (se_call (h_is_between.mono (by decide)) hr (by rfl) (sa_cons (vr 0) (sa_cons se_int (sa_cons (gt E.g_MOST_STEPS) sa_nil))) (hlen := (len_cons (len_cons (len_cons len_nil))))))) (sw_or (st_not (st_val (se_call (h_is_between.mono (by decide)) hr (by rfl) (sa_cons (vr 1) (sa_cons se_int (sa_cons (gt E.g_MOST_STEPS) sa_nil))) (hlen := (len_cons (len_cons (len_cons len_nil))))))) (sw_or1 (st_not (st_val (se_call (h_is_between.mono (by decide)) hr (by rfl) (sa_cons (vr 2) (sa_cons se_int (sa_cons (gt E.g_MOST_NUMBER) sa_nil))) (hlen := (len_cons (len_cons (len_cons len_nil))))))))))) (sss_one ss_never) sss_nil)) : SSs _ cl (defBody (topS 12)) b_check_numbers)
theorem c_is_below : FnScope ["thing", "bound"] ["thing", "bound"] (defScope (topS 7)) := ⟨rfl, rfl, rfl, by decide +kernel, rfl, by decide +kernel, by decide +kernel⟩
noncomputable def b_is_below : S := (sRet (eAnd (eCall s_is_integer (aCons (eVar 0) aNil)) (eChain oLe oLt (eC (.int 0)) (eVar 0) (eVar 1))))
noncomputable def s_is_below : F := fDef 2 2 b_is_below
theorem o_is_below (E : Mo mg) (D : DefAt K mg "is_below" (topS 7) ["thing", "bound"]) (h_is_integer : FunOk P w K mg base cl 1 1 "is_integer" s_is_integer) : FunOk P w K mg base cl 2 2 "is_below" s_is_below :=
  have sc := c_is_below
  fun_ok D sc rfl fun f cdv A outer s H E0 hr => ((sss_one (ss_ret (se_and (se_call (h_is_integer.mono (by decide)) hr (by rfl) (sa_cons (vr 0) sa_nil) (hlen := (len_cons len_nil))) (se_one (se_chain op_leD (op_ltD hr.rm) se_int (vr 0) (vr 1)))))) : SSs _ cl (defBody (topS 7)) b_is_below)
theorem c_is_placed : FnScope ["look", "p"] ["look", "p"] (defScope (topS 13)) := ⟨rfl, rfl, rfl, by decide +kernel, rfl, by decide +kernel, by decide +kernel⟩
noncomputable def b_is_placed : S := (sSeq (sIf (EV.tOr (EV.tNot (tOf (eBlt (bIs "tuple") (aCons (eVar 0) aNil)))) (EV.tOr (tOf (eOp oNe (eBlt bLen (aCons (eVar 0) aNil)) (eC (.int 3)))) (EV.tNot (tOf (eCall s_is_below (aCons (eOp oIdx (eVar 0) (eC (.int 0))) (aCons (eVar 1) aNil))))))) (sRet (eC (.bl false))) sNext)
  (sRet (eAnd (eCall s_is_integer (aCons (eOp oIdx (eVar 0) (eC (.int 1))) aNil)) (eCall s_is_between (aCons (eOp oIdx (eVar 0) (eC (.int 2))) (aCons (eC (.int 1)) (aCons (eC (.int 10000)) aNil)))))))
noncomputable def s_is_placed : F := fDef 2 2 b_is_placed
theorem o_is_placed (E : Mo mg) (D : DefAt K mg "is_placed" (topS 13) ["look", "p"]) (h_is_below : FunOk P w K mg base cl 2 2 "is_below" s_is_below) (h_is_between : FunOk P w K mg base cl 2 3 "is_between" s_is_between) (h_is_integer : FunOk P w K mg base cl 1 1 "is_integer" s_is_integer) : FunOk P w K mg base cl 3 2 "is_placed" s_is_placed :=
  have sc := c_is_placed
  fun_ok D sc rfl fun f cdv A outer s H E0 hr => ((sss_cons (ss_if (st_w (sw_or (st_not (st_val (is_tuple E.z_isinstance E.z_tuple (vr 0)))) (sw_or (st_cmp (op_neDD hr.rm) (bl_len E.z_len (sa_cons (vr 0) sa_nil)) se_int (nomark _)) (sw_or1 (st_not (st_val (se_call (h_is_below.mono (by decide)) hr (by rfl) (sa_cons (se_ix (vr 0) se_int) (sa_cons (vr 1) sa_nil)) (hlen := (len_cons (len_cons len_nil)))))))))) (sss_one (ss_ret se_bl)) sss_nil)
    (sss_one (ss_ret (se_and (se_call (h_is_integer.mono (by decide)) hr (by rfl) (sa_cons (se_ix (vr 0) se_int) sa_nil) (hlen := (len_cons len_nil))) (se_one (se_call (h_is_between.mono (by decide)) hr (by rfl) (sa_cons (se_ix (vr 0) se_int) (sa_cons se_int (sa_cons (gt E.g_MOST_NUMBER) sa_nil))) (hlen := (len_cons (len_cons (len_cons len_nil)))))))))) : SSs _ cl (defBody (topS 13)) b_is_placed)
theorem c_check_placed : FnScope ["placed", "p", "look"] ["placed", "p"] (defScope (topS 14)) := ⟨rfl, rfl, rfl, by decide +kernel, rfl, by decide +kernel, by decide +kernel⟩
noncomputable def b_check_placed : S := (sSeq (sIf (EV.tOr (EV.tNot (tOf (eBlt (bIs "tuple") (aCons (eVar 0) aNil)))) (EV.tNot (tOf (eChain oLe oLe (eC (.int 1)) (eBlt bLen (aCons (eVar 0) aNil)) (eC (.int 7)))))) sNever sNext)
  (sIf (EV.tNot (tOf (eBlt bAll (aCons (eLc (iSeq (eVar 0)) [2] (gNm 2) tYes (eCall s_is_placed (aCons (eVar 2) (aCons (eVar 1) aNil)))) aNil)))) sNever sNext))
noncomputable def s_check_placed : F := fDef 2 3 b_check_placed
theorem o_check_placed (E : Mo mg) (D : DefAt K mg "check_placed" (topS 14) ["placed", "p"]) (h_is_placed : FunOk P w K mg base cl 3 2 "is_placed" s_is_placed) : FunOk P w K mg base cl 4 2 "check_placed" s_check_placed :=
  have sc := c_check_placed
  fun_ok D sc rfl fun f cdv A outer s H E0 hr => ((sss_cons (ss_if (st_w (sw_or (st_not (st_val (is_tuple E.z_isinstance E.z_tuple (vr 0)))) (sw_or1 (st_not (st_chain op_leD op_leD se_int (bl_len E.z_len (sa_cons (vr 0) sa_nil)) (gt E.g_MOST_LOOKS)))))) (sss_one ss_never) sss_nil)
    (sss_one (ss_if (st_not (st_val (bl_all rfl E.z_all (sa_cons (se_of_f (sf_lc rfl sc.nd (si_seq (vr 0)) (blkOk_by (own := [("look", 2)]) (by rfl)) (fun _ _ _ _ _ => (nm 2 sc.nd)) (fun _ _ _ _ _ => sts_nil) (fun _ _ _ _ _ => (se_call (h_is_placed.mono (by decide)) hr (by rfl) (sa_cons (vr 2) (sa_cons (vr 1) sa_nil)) (hlen := (len_cons (len_cons len_nil)))))) lst_eLc) sa_nil)))) (sss_one ss_never) sss_nil))) : SSs _ cl (defBody (topS 14)) b_check_placed)
theorem c_quickest : FnScope ["placed", "p", "speed", "f"] ["placed", "p", "speed", "f"] (defScope (topS 20)) := ⟨rfl, rfl, rfl, by decide +kernel, rfl, by decide +kernel, by decide +kernel⟩
noncomputable def b_quickest : S := (sSeq (sDrop (eCall s_check_placed (aCons (eVar 0) (aCons (eIf (tOf (eCall s_is_between (aCons (eVar 1) (aCons (eC (.int 1)) (aCons (eC (.int 1000)) aNil))))) (eVar 1) (eC (.int 1000))) aNil))))
  (sSeq (sDrop (eCall s_check_numbers (aCons (eVar 1) (aCons (eVar 2) (aCons (eVar 3) aNil)))))
  (sRet (eCall s_best_order (aCons (eVar 0) (aCons (eC .non) (aCons (eVar 1) (aCons (eVar 2) (aCons (eVar 3) aNil)))))))))
noncomputable def s_quickest : F := fDef 4 4 b_quickest
theorem o_quickest (E : Mo mg) (D : DefAt K mg "quickest" (topS 20) ["placed", "p", "speed", "f"]) (h_best_order : FunOk P w K mg base cl 3 5 "best_order" s_best_order) (h_check_numbers : FunOk P w K mg base cl 3 3 "check_numbers" s_check_numbers) (h_check_placed : FunOk P w K mg base cl 4 2 "check_placed" s_check_placed) (h_is_between : FunOk P w K mg base cl 2 3 "is_between" s_is_between) : FunOk P w K mg base cl 5 4 "quickest" s_quickest :=
  have sc := c_quickest
  fun_ok D sc rfl fun f cdv A outer s H E0 hr => ((sss_cons (ss_drop (se_call (h_check_placed.mono (by decide)) hr (by rfl) (sa_cons (vr 0) (sa_cons (se_if (st_val (se_call (h_is_between.mono (by decide)) hr (by rfl) (sa_cons (vr 1) (sa_cons se_int (sa_cons (gt E.g_MOST_STEPS) sa_nil))) (hlen := (len_cons (len_cons (len_cons len_nil)))))) (vr 1) (gt E.g_MOST_STEPS)) sa_nil)) (hlen := (len_cons (len_cons len_nil)))))
    (sss_cons (ss_drop (se_call (h_check_numbers.mono (by decide)) hr (by rfl) (sa_cons (vr 1) (sa_cons (vr 2) (sa_cons (vr 3) sa_nil))) (hlen := (len_cons (len_cons (len_cons len_nil))))))
    (sss_one (ss_ret (se_call (h_best_order.mono (by decide)) hr (by rfl) (sa_cons (vr 0) (sa_cons se_non (sa_cons (vr 1) (sa_cons (vr 2) (sa_cons (vr 3) sa_nil))))) (hlen := (len_cons (len_cons (len_cons (len_cons (len_cons len_nil))))))))))) : SSs _ cl (defBody (topS 20)) b_quickest)
theorem c_check_windows : FnScope ["placed", "windows", "window", "moment"] ["placed", "windows"] (defScope (topS 21)) := ⟨rfl, rfl, rfl, by decide +kernel, rfl, by decide +kernel, by decide +kernel⟩
noncomputable def b_check_windows : S := (sSeq (sIf (EV.tOr (EV.tNot (tOf (eBlt (bIs "tuple") (aCons (eVar 1) aNil)))) (tOf (eOp oNe (eBlt bLen (aCons (eVar 1) aNil)) (eBlt bLen (aCons (eVar 0) aNil))))) sNever sNext)
  (sFor (iSeq (eVar 1)) (gNm 2) (sSeq (sIf (EV.tOr (EV.tNot (tOf (eBlt (bIs "tuple") (aCons (eVar 2) aNil)))) (tOf (eOp oNe (eBlt bLen (aCons (eVar 2) aNil)) (eC (.int 2))))) sNever sNext)
  (sIf (EV.tNot (tOf (eBlt bAll (aCons (eLc (iSeq (eVar 2)) [3] (gNm 3) tYes (eCall s_is_between (aCons (eVar 3) (aCons (eC (.int 0)) (aCons (eC (.int 10000)) aNil))))) aNil)))) sNever sNext))))
noncomputable def s_check_windows : F := fDef 2 4 b_check_windows
theorem o_check_windows (E : Mo mg) (D : DefAt K mg "check_windows" (topS 21) ["placed", "windows"]) (h_is_between : FunOk P w K mg base cl 2 3 "is_between" s_is_between) : FunOk P w K mg base cl 3 2 "check_windows" s_check_windows :=
  have sc := c_check_windows
  fun_ok D sc rfl fun f cdv A outer s H E0 hr => ((sss_cons (ss_if (st_w (sw_or (st_not (st_val (is_tuple E.z_isinstance E.z_tuple (vr 1)))) (sw_or1 (st_cmp (op_neDD hr.rm) (bl_len E.z_len (sa_cons (vr 1) sa_nil)) (bl_len E.z_len (sa_cons (vr 0) sa_nil)) (nomark _))))) (sss_one ss_never) sss_nil)
    (sss_one (ss_for PassesOwn.never rfl (si_seq (vr 1)) (nm 2 sc.nd) (sss_cons (ss_if (st_w (sw_or (st_not (st_val (is_tuple E.z_isinstance E.z_tuple (vr 2)))) (sw_or1 (st_cmp (op_neDD hr.rm) (bl_len E.z_len (sa_cons (vr 2) sa_nil)) se_int (nomark _))))) (sss_one ss_never) sss_nil)
    (sss_one (ss_if (st_not (st_val (bl_all rfl E.z_all (sa_cons (se_of_f (sf_lc rfl sc.nd (si_seq (vr 2)) (blkOk_by (own := [("moment", 3)]) (by rfl)) (fun _ _ _ _ _ => (nm 3 sc.nd)) (fun _ _ _ _ _ => sts_nil) (fun _ _ _ _ _ => (se_call (h_is_between.mono (by decide)) hr (by rfl) (sa_cons (vr 3) (sa_cons se_int (sa_cons (gt E.g_MOST_NUMBER) sa_nil))) (hlen := (len_cons (len_cons (len_cons len_nil))))))) lst_eLc) sa_nil)))) (sss_one ss_never) sss_nil)))))) : SSs _ cl (defBody (topS 21)) b_check_windows)
theorem c_right_order : FnScope ["placed", "windows", "p", "speed", "f", "told"] ["placed", "windows", "p", "speed", "f"] (defScope (topS 22)) := ⟨rfl, rfl, rfl, by decide +kernel, rfl, by decide +kernel, by decide +kernel⟩
noncomputable def b_right_order : S := (sSeq (sDrop (eCall s_check_placed (aCons (eVar 0) (aCons (eIf (tOf (eCall s_is_between (aCons (eVar 2) (aCons (eC (.int 1)) (aCons (eC (.int 1000)) aNil))))) (eVar 2) (eC (.int 1000))) aNil))))
  (sSeq (sDrop (eCall s_check_windows (aCons (eVar 0) (aCons (eVar 1) aNil))))
  (sSeq (sDrop (eCall s_check_numbers (aCons (eVar 2) (aCons (eVar 3) (aCons (eVar 4) aNil)))))
  (sSeq (sAsg (eCall s_best_order (aCons (eVar 0) (aCons (eVar 1) (aCons (eVar 2) (aCons (eVar 3) (aCons (eVar 4) aNil)))))) (gNm 5))
  (sRet (eIf (tOf (eUn oIsN (eVar 5))) (eC .non) (eOp oIdx (eVar 5) (eC (.int 1)))))))))
noncomputable def s_right_order : F := fDef 5 6 b_right_order
theorem o_right_order (E : Mo mg) (D : DefAt K mg "right_order" (topS 22) ["placed", "windows", "p", "speed", "f"]) (h_best_order : FunOk P w K mg base cl 3 5 "best_order" s_best_order) (h_check_numbers : FunOk P w K mg base cl 3 3 "check_numbers" s_check_numbers) (h_check_placed : FunOk P w K mg base cl 4 2 "check_placed" s_check_placed) (h_check_windows : FunOk P w K mg base cl 3 2 "check_windows" s_check_windows) (h_is_between : FunOk P w K mg base cl 2 3 "is_between" s_is_between) : FunOk P w K mg base cl 5 5 "right_order" s_right_order :=
  have sc := c_right_order
  fun_ok D sc rfl fun f cdv A outer s H E0 hr => ((sss_cons (ss_drop (se_call (h_check_placed.mono (by decide)) hr (by rfl) (sa_cons (vr 0) (sa_cons (se_if (st_val (se_call (h_is_between.mono (by decide)) hr (by rfl) (sa_cons (vr 2) (sa_cons se_int (sa_cons (gt E.g_MOST_STEPS) sa_nil))) (hlen := (len_cons (len_cons (len_cons len_nil)))))) (vr 2) (gt E.g_MOST_STEPS)) sa_nil)) (hlen := (len_cons (len_cons len_nil)))))
    (sss_cons (ss_drop (se_call (h_check_windows.mono (by decide)) hr (by rfl) (sa_cons (vr 0) (sa_cons (vr 1) sa_nil)) (hlen := (len_cons (len_cons len_nil)))))
    (sss_cons (ss_drop (se_call (h_check_numbers.mono (by decide)) hr (by rfl) (sa_cons (vr 2) (sa_cons (vr 3) (sa_cons (vr 4) sa_nil))) (hlen := (len_cons (len_cons (len_cons len_nil))))))
    (sss_cons (st_set 5 sc.nd (se_call (h_best_order.mono (by decide)) hr (by rfl) (sa_cons (vr 0) (sa_cons (vr 1) (sa_cons (vr 2) (sa_cons (vr 3) (sa_cons (vr 4) sa_nil))))) (hlen := (len_cons (len_cons (len_cons (len_cons (len_cons len_nil))))))))
    (sss_one (ss_ret (se_if (st_isN (vr 5)) se_non (se_ix (vr 5) se_int)))))))) : SSs _ cl (defBody (topS 22)) b_right_order)
theorem c_turn : FnScope ["one", "other", "p", "speed", "f", "most"] ["one", "other", "p", "speed", "f"] (defScope (topS 16)) := ⟨rfl, rfl, rfl, by decide +kernel, rfl, by decide +kernel, by decide +kernel⟩
noncomputable def b_turn : S := (sSeq (sAsg (eIf (tOf (eCall s_is_between (aCons (eVar 2) (aCons (eC (.int 1)) (aCons (eC (.int 1000)) aNil))))) (eVar 2) (eC (.int 1000))) (gNm 5))
  (sSeq (sIf (EV.tOr (EV.tNot (tOf (eCall s_is_placed (aCons (eVar 0) (aCons (eVar 5) aNil))))) (EV.tNot (tOf (eCall s_is_placed (aCons (eVar 1) (aCons (eVar 5) aNil)))))) sNever sNext)
  (sSeq (sDrop (eCall s_check_numbers (aCons (eVar 2) (aCons (eVar 3) (aCons (eVar 4) aNil)))))
  (sRet (eCall s_time_of (aCons (eVar 0) (aCons (eVar 1) (aCons (eVar 2) (aCons (eVar 3) (aCons (eVar 4) aNil))))))))))
noncomputable def s_turn : F := fDef 5 6 b_turn
theorem o_turn (E : Mo mg) (D : DefAt K mg "turn" (topS 16) ["one", "other", "p", "speed", "f"]) (h_check_numbers : FunOk P w K mg base cl 3 3 "check_numbers" s_check_numbers) (h_is_between : FunOk P w K mg base cl 2 3 "is_between" s_is_between) (h_is_placed : FunOk P w K mg base cl 3 2 "is_placed" s_is_placed) (h_time_of : FunOk P w K mg base cl 1 5 "time_of" s_time_of) : FunOk P w K mg base cl 4 5 "turn" s_turn :=
  have sc := c_turn
  fun_ok D sc rfl fun f cdv A outer s H E0 hr => ((sss_cons (st_set 5 sc.nd (se_if (st_val (se_call (h_is_between.mono (by decide)) hr (by rfl) (sa_cons (vr 2) (sa_cons se_int (sa_cons (gt E.g_MOST_STEPS) sa_nil))) (hlen := (len_cons (len_cons (len_cons len_nil)))))) (vr 2) (gt E.g_MOST_STEPS)))
    (sss_cons (ss_if (st_w (sw_or (st_not (st_val (se_call (h_is_placed.mono (by decide)) hr (by rfl) (sa_cons (vr 0) (sa_cons (vr 5) sa_nil)) (hlen := (len_cons (len_cons len_nil)))))) (sw_or1 (st_not (st_val (se_call (h_is_placed.mono (by decide)) hr (by rfl) (sa_cons (vr 1) (sa_cons (vr 5) sa_nil)) (hlen := (len_cons (len_cons len_nil))))))))) (sss_one ss_never) sss_nil)
    (sss_cons (ss_drop (se_call (h_check_numbers.mono (by decide)) hr (by rfl) (sa_cons (vr 2) (sa_cons (vr 3) (sa_cons (vr 4) sa_nil))) (hlen := (len_cons (len_cons (len_cons len_nil))))))
    (sss_one (ss_ret (se_call (h_time_of.mono (by decide)) hr (by rfl) (sa_cons (vr 0) (sa_cons (vr 1) (sa_cons (vr 2) (sa_cons (vr 3) (sa_cons (vr 4) sa_nil))))) (hlen := (len_cons (len_cons (len_cons (len_cons (len_cons len_nil)))))))))))) : SSs _ cl (defBody (topS 16)) b_turn)
theorem c_law : FnScope ["script", "box", "p", "dome", "placed", "n", "i", "due", "lows", "windows", "best", "ends", "told", "low"] ["script"] (defScope (topS 34)) := ⟨rfl, rfl, rfl, by decide +kernel, rfl, by decide +kernel, by decide +kernel⟩
noncomputable def b_law : S := (sSeq (sAsg (eCall s__law_stream (aCons (eVar 0) (aCons (eC (.int 0)) aNil))) (gNm 1))
  (sSeq (sAsg (eOp oAdd (eC (.int 1)) (eCall s__law_draw (aCons (eVar 1) (aCons (eC (.int 1000)) aNil)))) (gNm 2))
  (sSeq (sAsg (eTup (aCons (eVar 2) (aCons (eOp oAdd (eC (.int 1)) (eCall s__law_draw (aCons (eVar 1) (aCons (eC (.int 30)) aNil)))) (aCons (eCall s__law_draw (aCons (eVar 1) (aCons (eC (.int 60)) aNil))) aNil)))) (gNm 3))
  (sSeq (sAsg (eBlt bTuple (aCons (eLc (iRange1 (eOp oAdd (eC (.int 1)) (eCall s__law_draw (aCons (eVar 1) (aCons (eC (.int 7)) aNil))))) [6] (gNm 6) tYes (eTup (aCons (eCall s__law_draw (aCons (eVar 1) (aCons (eVar 2) aNil))) (aCons (eOp oSub (eCall s__law_draw (aCons (eVar 1) (aCons (eC (.int 3)) aNil))) (eC (.int 1))) (aCons (eOp oAdd (eC (.int 1)) (eCall s__law_draw (aCons (eVar 1) (aCons (eC (.int 40)) aNil)))) aNil))))) aNil)) (gNm 4))
  (sSeq (sAsg (eBlt bLen (aCons (eVar 4) aNil)) (gNm 5))
  (sSeq (sFor (iRange1 (eVar 5)) (gNm 6) (sIf (tOf (eOp oNe (eTold (s__law_read 6) (eCall s_turn (aCons (eOp oIdx (eVar 4) (eVar 6)) (aCons (eOp oIdx (eVar 4) (eC (.int 0))) (aCons (eVar 2) (aCons (eOp oIdx (eVar 3) (eC (.int 1))) (aCons (eOp oIdx (eVar 3) (eC (.int 2))) aNil))))))) (eTup (aCons (eC (.int 0)) (aCons (eCall s__law_turn (aCons (eOp oIdx (eVar 4) (eVar 6)) (aCons (eOp oIdx (eVar 4) (eC (.int 0))) (aCons (eVar 3) aNil)))) aNil))))) (sRet (eC (.bl false))) sNext))
  (sSeq (sAsg (eCall s__law_least (aCons (eVar 4) (aCons (eVar 3) aNil))) (gNm 7))
  (sSeq (sIf (tOf (eOp oNe (eTold (s__law_read 6) (eCall s_quickest (aCons (eVar 4) (aCons (eVar 2) (aCons (eOp oIdx (eVar 3) (eC (.int 1))) (aCons (eOp oIdx (eVar 3) (eC (.int 2))) aNil)))))) (eTup (aCons (eC (.int 0)) (aCons (eVar 7) aNil))))) (sRet (eC (.bl false))) sNext)
  (sSeq (sIf (tOf (eOp oNe (eTold (s__law_read 6) (eCall s_right_order (aCons (eVar 4) (aCons (eOp oMulT (eTup (aCons (eTup (aCons (eC (.int 0)) (aCons (eC (.int 10000)) aNil))) aNil)) (eVar 5)) (aCons (eVar 2) (aCons (eOp oIdx (eVar 3) (eC (.int 1))) (aCons (eOp oIdx (eVar 3) (eC (.int 2))) aNil))))))) (eTup (aCons (eC (.int 0)) (aCons (eOp oIdx (eVar 7) (eC (.int 1))) aNil))))) (sRet (eC (.bl false))) sNext)
  (sSeq (sAsg (eLc (iRange1 (eVar 5)) [6] (gNm 6) tYes (eCall s__law_draw (aCons (eVar 1) (aCons (eC (.int 120)) aNil)))) (gNm 8))
  (sSeq (sAsg (eBlt bTuple (aCons (eLc (iSeq (eVar 8)) [13] (gNm 13) tYes (eTup (aCons (eVar 13) (aCons (eOp oAdd (eVar 13) (eCall s__law_draw (aCons (eVar 1) (aCons (eC (.int 200)) aNil)))) aNil)))) aNil)) (gNm 9))
  (sSeq (sAsg (eCall s__law_ends (aCons (eVar 4) (aCons (eVar 9) (aCons (eVar 3) aNil)))) (gNm 10))
  (sSeq (sAsg (eLc (iRange1 (eVar 5)) [6] (gNm 6) (tOf (eOp oInA (eTup (aCons (eOp oSub (eOp oShl (eC (.int 1)) (eVar 5)) (eC (.int 1))) (aCons (eVar 6) aNil))) (eVar 10))) (eOp oIdxA (eVar 10) (eTup (aCons (eOp oSub (eOp oShl (eC (.int 1)) (eVar 5)) (eC (.int 1))) (aCons (eVar 6) aNil))))) (gNm 11))
  (sSeq (sAsg (eTold (s__law_read 6) (eCall s_right_order (aCons (eVar 4) (aCons (eVar 9) (aCons (eVar 2) (aCons (eOp oIdx (eVar 3) (eC (.int 1))) (aCons (eOp oIdx (eVar 3) (eC (.int 2))) aNil))))))) (gNm 12))
  (sSeq (sIf (tOf (eOp oEq (eVar 11) (eLst aNil))) (sRet (eOp oEq (eVar 12) (eTup (aCons (eC (.int 0)) (aCons (eC .non) aNil))))) sNext)
  (sRet (eAnd (eOp oEq (eOp oIdx (eVar 12) (eC (.int 0))) (eC (.int 0))) (eAnd (eUn oNotN (eOp oIdx (eVar 12) (eC (.int 1)))) (eAnd (eOp oEq (eBlt bSortedA (aCons (eOp oIdx (eVar 12) (eC (.int 1))) aNil)) (eLstRng (iRange1 (eVar 5)))) (eOp oEq (eCall s__law_end (aCons (eVar 4) (aCons (eVar 9) (aCons (eOp oIdx (eVar 12) (eC (.int 1))) (aCons (eVar 3) aNil))))) (eBlt bMin (aCons (eVar 11) aNil))))))))))))))))))))))
noncomputable def s_law : F := fDef 1 14 b_law
theorem o_law {f : Addr} {fd : FuncData} (E : Mo mg) (D : Fun K "law" "law" (topS 34) f fd) (h__law_draw : FunOk P w K mg base cl 1 2 "_law_draw" s__law_draw) (h__law_end : FunOk P w K mg base cl 2 4 "_law_end" s__law_end) (h__law_ends : FunOk P w K mg base cl 2 3 "_law_ends" s__law_ends) (h__law_least : FunOk P w K mg base cl 3 2 "_law_least" s__law_least) (h__law_read : FunOk P w K mg base cl 6 1 "_law_read" (s__law_read 6)) (h__law_stream : FunOk P w K mg base cl 2 2 "_law_stream" s__law_stream) (h__law_turn : FunOk P w K mg base cl 1 3 "_law_turn" s__law_turn) (h_quickest : FunOk P w K mg base cl 5 4 "quickest" s_quickest) (h_right_order : FunOk P w K mg base cl 5 5 "right_order" s_right_order) (h_turn : FunOk P w K mg base cl 4 5 "turn" s_turn) (D__law_told : DefAt K mg "_law_told" (topS 28) ["call"]) {c0 P0 : Addr} (TB0 : LamX.TabB base mg c0 P0) (m0 : (P0, lamQ "law") ∈ cl.tab) (u0 : ∀ p ∈ cl.tab, p.1 = P0 → p.2 = lamQ "law") (hcd : fd.code = .ref c0) : FnG P w K mg base 8 f fd ["script"] (spOf ⟨w, K, cl⟩ 1 s_law) :=
  have sc := c_law
  def_okC D hcd sc rfl fun A outer s H E0 hr => ((sss_cons (st_set 1 sc.nd (se_call (h__law_stream.mono (by decide)) hr (by rfl) (sa_cons (vr 0) (sa_cons se_int sa_nil)) (hlen := (len_cons (len_cons len_nil)))))
    (sss_cons (st_set 2 sc.nd (se_bin op_addD se_int (se_call (h__law_draw.mono (by decide)) hr (by rfl) (sa_cons (vr 1) (sa_cons se_int sa_nil)) (hlen := (len_cons (len_cons len_nil))))))
    (sss_cons (st_set 3 sc.nd (se_tup (sa_cons (vr 2) (sa_cons (se_bin op_addD se_int (se_call (h__law_draw.mono (by decide)) hr (by rfl) (sa_cons (vr 1) (sa_cons se_int sa_nil)) (hlen := (len_cons (len_cons len_nil))))) (sa_cons (se_call (h__law_draw.mono (by decide)) hr (by rfl) (sa_cons (vr 1) (sa_cons se_int sa_nil)) (hlen := (len_cons (len_cons len_nil)))) sa_nil)))))
    (sss_cons (st_set 4 sc.nd (bl_tuple E.z_tuple (sa_cons (se_of_f (sf_lc rfl sc.nd (si_range1 (by rfl) E.z_range (se_bin op_addD se_int (se_call (h__law_draw.mono (by decide)) hr (by rfl) (sa_cons (vr 1) (sa_cons se_int sa_nil)) (hlen := (len_cons (len_cons len_nil)))))) (blkOk_by (own := [("i", 6)]) (by rfl)) (fun _ _ _ _ _ => (nm 6 sc.nd)) (fun _ _ _ _ _ => sts_nil) (fun _ _ _ _ _ => (se_tup (sa_cons (se_call (h__law_draw.mono (by decide)) hr (by rfl) (sa_cons (vr 1) (sa_cons (vr 2) sa_nil)) (hlen := (len_cons (len_cons len_nil)))) (sa_cons (se_bin op_subD (se_call (h__law_draw.mono (by decide)) hr (by rfl) (sa_cons (vr 1) (sa_cons se_int sa_nil)) (hlen := (len_cons (len_cons len_nil)))) se_int) (sa_cons (se_bin op_addD se_int (se_call (h__law_draw.mono (by decide)) hr (by rfl) (sa_cons (vr 1) (sa_cons se_int sa_nil)) (hlen := (len_cons (len_cons len_nil))))) sa_nil)))))) lst_eLc) sa_nil)))
    (sss_cons (st_set 5 sc.nd (bl_len E.z_len (sa_cons (vr 4) sa_nil)))
    (sss_cons (ss_for PassesOwn.never rfl (si_range1 (by rfl) E.z_range (vr 5)) (nm 6 sc.nd) (sss_one (ss_if (st_cmp (op_neDD hr.rm) (se_told D__law_told c__law_told rfl rfl h__law_read (by decide) rfl (.inl rfl) TB0 (by rfl) (by exact m0) (by exact u0) hr (LamX.lamS_by (sc := defScope (topS 34)) (by decide +kernel)) (fun A outer s H f c' hr => (se_call (h_turn.mono (by decide)) hr (by rfl) (sa_cons (se_ix (vr 4) (vr 6)) (sa_cons (se_ix (vr 4) se_int) (sa_cons (vr 2) (sa_cons (se_ix (vr 3) se_int) (sa_cons (se_ix (vr 3) se_int) sa_nil))))) (hlen := (len_cons (len_cons (len_cons (len_cons (len_cons len_nil)))))))) rfl rfl (fun _ _ _ _ _ => rfl)) (se_tup (sa_cons se_int (sa_cons (se_call (h__law_turn.mono (by decide)) hr (by rfl) (sa_cons (se_ix (vr 4) (vr 6)) (sa_cons (se_ix (vr 4) se_int) (sa_cons (vr 3) sa_nil))) (hlen := (len_cons (len_cons (len_cons len_nil))))) sa_nil))) (nomark _)) (sss_one (ss_ret se_bl)) sss_nil)))
    (sss_cons (st_set 7 sc.nd (se_call (h__law_least.mono (by decide)) hr (by rfl) (sa_cons (vr 4) (sa_cons (vr 3) sa_nil)) (hlen := (len_cons (len_cons len_nil)))))
    (sss_cons (ss_if (st_cmp (op_neDD hr.rm) (se_told D__law_told c__law_told rfl rfl h__law_read (by decide) rfl (.inl rfl) TB0 (by rfl) (by exact m0) (by exact u0) hr (LamX.lamS_by (sc := defScope (topS 34)) (by decide +kernel)) (fun A outer s H f c' hr => (se_call (h_quickest.mono (by decide)) hr (by rfl) (sa_cons (vr 4) (sa_cons (vr 2) (sa_cons (se_ix (vr 3) se_int) (sa_cons (se_ix (vr 3) se_int) sa_nil)))) (hlen := (len_cons (len_cons (len_cons (len_cons len_nil))))))) rfl rfl (fun _ _ _ _ _ => rfl)) (se_tup (sa_cons se_int (sa_cons (vr 7) sa_nil))) (nomark _)) (sss_one (ss_ret se_bl)) sss_nil)
    (sss_cons (ss_if (st_cmp (op_neDD hr.rm) (se_told D__law_told c__law_told rfl rfl h__law_read (by decide) rfl (.inl rfl) TB0 (by rfl) (by exact m0) (by exact u0) hr (LamX.lamS_by (sc := defScope (topS 34)) (by decide +kernel)) (fun A outer s H f c' hr => (se_call (h_right_order.mono (by decide)) hr (by rfl) (sa_cons (vr 4) (sa_cons (se_bin op_mulT (se_tup (sa_cons (se_tup (sa_cons se_int (sa_cons se_int sa_nil))) sa_nil)) (vr 5)) (sa_cons (vr 2) (sa_cons (se_ix (vr 3) se_int) (sa_cons (se_ix (vr 3) se_int) sa_nil))))) (hlen := (len_cons (len_cons (len_cons (len_cons (len_cons len_nil)))))))) rfl rfl (fun _ _ _ _ _ => rfl)) (se_tup (sa_cons se_int (sa_cons (se_ix (vr 7) se_int) sa_nil))) (nomark _)) (sss_one (ss_ret se_bl)) sss_nil)
    (sss_cons (ss_setlc rfl sc.nd rfl rfl (si_range1 (by rfl) E.z_range (vr 5)) (blkOk_by (own := [("i", 6)]) (by rfl)) (fun _ _ _ _ _ => (nm 6 sc.nd)) (fun _ _ _ _ _ => sts_nil) (fun _ _ _ _ _ => (se_call (h__law_draw.mono (by decide)) hr (by rfl) (sa_cons (vr 1) (sa_cons se_int sa_nil)) (hlen := (len_cons (len_cons len_nil))))))
    (sss_cons (st_set 9 sc.nd (bl_tuple E.z_tuple (sa_cons (se_of_f (sf_lc rfl sc.nd (si_seq (vr 8)) (blkOk_by (own := [("low", 13)]) (by rfl)) (fun _ _ _ _ _ => (nm 13 sc.nd)) (fun _ _ _ _ _ => sts_nil) (fun _ _ _ _ _ => (se_tup (sa_cons (vr 13) (sa_cons (se_bin op_addD (vr 13) (se_call (h__law_draw.mono (by decide)) hr (by rfl) (sa_cons (vr 1) (sa_cons se_int sa_nil)) (hlen := (len_cons (len_cons len_nil))))) sa_nil))))) lst_eLc) sa_nil)))
    (sss_cons (st_set 10 sc.nd (se_call (h__law_ends.mono (by decide)) hr (by rfl) (sa_cons (vr 4) (sa_cons (vr 9) (sa_cons (vr 3) sa_nil))) (hlen := (len_cons (len_cons (len_cons len_nil))))))
    (sss_cons (ss_setlc rfl sc.nd rfl rfl (si_range1 (by rfl) E.z_range (vr 5)) (blkOk_by (own := [("i", 6)]) (by rfl)) (fun _ _ _ _ _ => (nm 6 sc.nd)) (fun _ _ _ _ _ => (sts_one (st_cmp (op_inA hr) (se_tup (sa_cons (se_bin op_subD (se_bin op_shlD se_int (vr 5)) se_int) (sa_cons (vr 6) sa_nil))) (vr 10) (by with_unfolding_all rfl)))) (fun _ _ _ _ _ => (se_ixA hr (vr 10) (se_tup (sa_cons (se_bin op_subD (se_bin op_shlD se_int (vr 5)) se_int) (sa_cons (vr 6) sa_nil))))))
    (sss_cons (st_set 12 sc.nd (se_told D__law_told c__law_told rfl rfl h__law_read (by decide) rfl (.inl rfl) TB0 (by rfl) (by exact m0) (by exact u0) hr (LamX.lamS_by (sc := defScope (topS 34)) (by decide +kernel)) (fun A outer s H f c' hr => (se_call (h_right_order.mono (by decide)) hr (by rfl) (sa_cons (vr 4) (sa_cons (vr 9) (sa_cons (vr 2) (sa_cons (se_ix (vr 3) se_int) (sa_cons (se_ix (vr 3) se_int) sa_nil))))) (hlen := (len_cons (len_cons (len_cons (len_cons (len_cons len_nil)))))))) rfl rfl (fun _ _ _ _ _ => rfl)))
    (sss_cons (ss_if (st_cmp (op_eqDD hr.rm) (vr 11) (se_of_f (sf_lst sa_nil) lst_eLst) (nomark _)) (sss_one (ss_ret (se_cmp (op_eqDD hr.rm) (vr 12) (se_tup (sa_cons se_int (sa_cons se_non sa_nil))) (nomark _)))) sss_nil)
    (sss_one (ss_ret (se_and (se_cmp (op_eqDD hr.rm) (se_ix (vr 12) se_int) se_int (nomark _)) (se_and (se_notN (se_ix (vr 12) se_int)) (se_and (se_cmp (op_eqDD hr.rm) (se_of_f (bl_sortedA hr E.z_sorted (sa_cons (se_ix (vr 12) se_int) sa_nil)) lst_bSortedA) (se_of_f (sf_lstRg rfl (by rfl) E.z_list (srg_1 (by rfl) E.z_range (vr 5)) isr_1) lst_eLstRng) (nomark _)) (se_one (se_cmp (op_eqDD hr.rm) (se_call (h__law_end.mono (by decide)) hr (by rfl) (sa_cons (vr 4) (sa_cons (vr 9) (sa_cons (se_ix (vr 12) se_int) (sa_cons (vr 3) sa_nil)))) (hlen := (len_cons (len_cons (len_cons (len_cons len_nil)))))) (bl_min rfl hr E.z_min (sa_cons (vr 11) sa_nil)) (nomark _))))))))))))))))))))))) : SSs (cxOf C8.CX0 P w K mg base ["script", "box", "p", "dome", "placed", "n", "i", "due", "lows", "windows", "best", "ends", "told", "low"] "law" (defScope (topS 34)) f (.ref c0) A outer s H E0).nox cl (defBody (topS 34)) b_law)
end
theorem all_mk {P : Program} {w : World} {K : PySem.W.Frag} {h : Heap} {mg : Str → Option Value} {fa : Addr} {q : Program} (hlaw : ∀ ns : List Int, ns.length ≤ 63 → ∃ st, s_law [.scr ns] [] = some (.bl true, st)) (X : K.In h) (G : h.Ns mainGlobals mg) (hfa : mg "law" = some (.ref fa))
    {d0 : Addr} {oc0 kV0 dc0 pm0 cd0 ct0 : Value} {od0 an0 : Option Addr} {sl0 : Array (Option Value)} (a0 : PySem.W.nsIn K mainGlobals "_law_read" = some (some (.ref d0))) (l0 : K.lookup d0 = some ⟨oc0, od0, .func (PySem.W.fnOf "_law_read" "_law_read" (defArgs (topS 27)) (defBody (topS 27)) (defScope (topS 27)) .none kV0 dc0 pm0 an0 cd0 ct0), sl0⟩) (c0 : PySem.W.codeIn K cd0 "_law_read" = true) (k0 : PySem.W.keepIn K (.ref d0) = true)
    {d1 : Addr} {oc1 kV1 dc1 pm1 cd1 ct1 : Value} {od1 an1 : Option Addr} {sl1 : Array (Option Value)} (a1 : PySem.W.nsIn K mainGlobals "_law_draw" = some (some (.ref d1))) (l1 : K.lookup d1 = some ⟨oc1, od1, .func (PySem.W.fnOf "_law_draw" "_law_draw" (defArgs (topS 26)) (defBody (topS 26)) (defScope (topS 26)) .none kV1 dc1 pm1 an1 cd1 ct1), sl1⟩) (c1 : PySem.W.codeIn K cd1 "_law_draw" = true) (k1 : PySem.W.keepIn K (.ref d1) = true)
    {d2 : Addr} {oc2 kV2 dc2 pm2 cd2 ct2 : Value} {od2 an2 : Option Addr} {sl2 : Array (Option Value)} (a2 : PySem.W.nsIn K mainGlobals "_law_turn" = some (some (.ref d2))) (l2 : K.lookup d2 = some ⟨oc2, od2, .func (PySem.W.fnOf "_law_turn" "_law_turn" (defArgs (topS 29)) (defBody (topS 29)) (defScope (topS 29)) .none kV2 dc2 pm2 an2 cd2 ct2), sl2⟩) (c2 : PySem.W.codeIn K cd2 "_law_turn" = true) (k2 : PySem.W.keepIn K (.ref d2) = true)
    {d3 : Addr} {oc3 kV3 dc3 pm3 cd3 ct3 : Value} {od3 an3 : Option Addr} {sl3 : Array (Option Value)} (a3 : PySem.W.nsIn K mainGlobals "_law_end" = some (some (.ref d3))) (l3 : K.lookup d3 = some ⟨oc3, od3, .func (PySem.W.fnOf "_law_end" "_law_end" (defArgs (topS 31)) (defBody (topS 31)) (defScope (topS 31)) .none kV3 dc3 pm3 an3 cd3 ct3), sl3⟩) (c3 : PySem.W.codeIn K cd3 "_law_end" = true) (k3 : PySem.W.keepIn K (.ref d3) = true)
    {d4 : Addr} {oc4 kV4 dc4 pm4 cd4 ct4 : Value} {od4 an4 : Option Addr} {sl4 : Array (Option Value)} (a4 : PySem.W.nsIn K mainGlobals "_law_ends" = some (some (.ref d4))) (l4 : K.lookup d4 = some ⟨oc4, od4, .func (PySem.W.fnOf "_law_ends" "_law_ends" (defArgs (topS 30)) (defBody (topS 30)) (defScope (topS 30)) .none kV4 dc4 pm4 an4 cd4 ct4), sl4⟩) (c4 : PySem.W.codeIn K cd4 "_law_ends" = true) (k4 : PySem.W.keepIn K (.ref d4) = true)
    {d5 : Addr} {oc5 kV5 dc5 pm5 cd5 ct5 : Value} {od5 an5 : Option Addr} {sl5 : Array (Option Value)} (a5 : PySem.W.nsIn K mainGlobals "_law_rest" = some (some (.ref d5))) (l5 : K.lookup d5 = some ⟨oc5, od5, .func (PySem.W.fnOf "_law_rest" "_law_rest" (defArgs (topS 33)) (defBody (topS 33)) (defScope (topS 33)) .none kV5 dc5 pm5 an5 cd5 ct5), sl5⟩) (c5 : PySem.W.codeIn K cd5 "_law_rest" = true) (k5 : PySem.W.keepIn K (.ref d5) = true)
    {d6 : Addr} {oc6 kV6 dc6 pm6 cd6 ct6 : Value} {od6 an6 : Option Addr} {sl6 : Array (Option Value)} (a6 : PySem.W.nsIn K mainGlobals "_law_least" = some (some (.ref d6))) (l6 : K.lookup d6 = some ⟨oc6, od6, .func (PySem.W.fnOf "_law_least" "_law_least" (defArgs (topS 32)) (defBody (topS 32)) (defScope (topS 32)) .none kV6 dc6 pm6 an6 cd6 ct6), sl6⟩) (c6 : PySem.W.codeIn K cd6 "_law_least" = true) (k6 : PySem.W.keepIn K (.ref d6) = true)
    {d7 : Addr} {oc7 kV7 dc7 pm7 cd7 ct7 : Value} {od7 an7 : Option Addr} {sl7 : Array (Option Value)} (a7 : PySem.W.nsIn K mainGlobals "_law_cell" = some (some (.ref d7))) (l7 : K.lookup d7 = some ⟨oc7, od7, .func (PySem.W.fnOf "_law_cell" "_law_cell" (defArgs (topS 24)) (defBody (topS 24)) (defScope (topS 24)) .none kV7 dc7 pm7 an7 cd7 ct7), sl7⟩) (c7 : PySem.W.codeIn K cd7 "_law_cell" = true) (k7 : PySem.W.keepIn K (.ref d7) = true)
    {d8 : Addr} {oc8 kV8 dc8 pm8 cd8 ct8 : Value} {od8 an8 : Option Addr} {sl8 : Array (Option Value)} (a8 : PySem.W.nsIn K mainGlobals "_law_stream" = some (some (.ref d8))) (l8 : K.lookup d8 = some ⟨oc8, od8, .func (PySem.W.fnOf "_law_stream" "_law_stream" (defArgs (topS 25)) (defBody (topS 25)) (defScope (topS 25)) .none kV8 dc8 pm8 an8 cd8 ct8), sl8⟩) (c8 : PySem.W.codeIn K cd8 "_law_stream" = true) (k8 : PySem.W.keepIn K (.ref d8) = true)
    {d9 : Addr} {oc9 kV9 dc9 pm9 cd9 ct9 : Value} {od9 an9 : Option Addr} {sl9 : Array (Option Value)} (a9 : PySem.W.nsIn K mainGlobals "orders_of" = some (some (.ref d9))) (l9 : K.lookup d9 = some ⟨oc9, od9, .func (PySem.W.fnOf "orders_of" "orders_of" (defArgs (topS 17)) (defBody (topS 17)) (defScope (topS 17)) .none kV9 dc9 pm9 an9 cd9 ct9), sl9⟩) (c9 : PySem.W.codeIn K cd9 "orders_of" = true) (k9 : PySem.W.keepIn K (.ref d9) = true)
    {d10 : Addr} {oc10 kV10 dc10 pm10 cd10 ct10 : Value} {od10 an10 : Option Addr} {sl10 : Array (Option Value)} (a10 : PySem.W.nsIn K mainGlobals "time_of" = some (some (.ref d10))) (l10 : K.lookup d10 = some ⟨oc10, od10, .func (PySem.W.fnOf "time_of" "time_of" (defArgs (topS 15)) (defBody (topS 15)) (defScope (topS 15)) .none kV10 dc10 pm10 an10 cd10 ct10), sl10⟩) (c10 : PySem.W.codeIn K cd10 "time_of" = true) (k10 : PySem.W.keepIn K (.ref d10) = true)
    {d11 : Addr} {oc11 kV11 dc11 pm11 cd11 ct11 : Value} {od11 an11 : Option Addr} {sl11 : Array (Option Value)} (a11 : PySem.W.nsIn K mainGlobals "whole_time" = some (some (.ref d11))) (l11 : K.lookup d11 = some ⟨oc11, od11, .func (PySem.W.fnOf "whole_time" "whole_time" (defArgs (topS 18)) (defBody (topS 18)) (defScope (topS 18)) .none kV11 dc11 pm11 an11 cd11 ct11), sl11⟩) (c11 : PySem.W.codeIn K cd11 "whole_time" = true) (k11 : PySem.W.keepIn K (.ref d11) = true)
    {d12 : Addr} {oc12 kV12 dc12 pm12 cd12 ct12 : Value} {od12 an12 : Option Addr} {sl12 : Array (Option Value)} (a12 : PySem.W.nsIn K mainGlobals "best_order" = some (some (.ref d12))) (l12 : K.lookup d12 = some ⟨oc12, od12, .func (PySem.W.fnOf "best_order" "best_order" (defArgs (topS 19)) (defBody (topS 19)) (defScope (topS 19)) .none kV12 dc12 pm12 an12 cd12 ct12), sl12⟩) (c12 : PySem.W.codeIn K cd12 "best_order" = true) (k12 : PySem.W.keepIn K (.ref d12) = true)
    {d13 : Addr} {oc13 kV13 dc13 pm13 cd13 ct13 : Value} {od13 an13 : Option Addr} {sl13 : Array (Option Value)} (a13 : PySem.W.nsIn K mainGlobals "is_integer" = some (some (.ref d13))) (l13 : K.lookup d13 = some ⟨oc13, od13, .func (PySem.W.fnOf "is_integer" "is_integer" (defArgs (topS 6)) (defBody (topS 6)) (defScope (topS 6)) .none kV13 dc13 pm13 an13 cd13 ct13), sl13⟩) (c13 : PySem.W.codeIn K cd13 "is_integer" = true) (k13 : PySem.W.keepIn K (.ref d13) = true)
    {d14 : Addr} {oc14 kV14 dc14 pm14 cd14 ct14 : Value} {od14 an14 : Option Addr} {sl14 : Array (Option Value)} (a14 : PySem.W.nsIn K mainGlobals "is_between" = some (some (.ref d14))) (l14 : K.lookup d14 = some ⟨oc14, od14, .func (PySem.W.fnOf "is_between" "is_between" (defArgs (topS 8)) (defBody (topS 8)) (defScope (topS 8)) .none kV14 dc14 pm14 an14 cd14 ct14), sl14⟩) (c14 : PySem.W.codeIn K cd14 "is_between" = true) (k14 : PySem.W.keepIn K (.ref d14) = true)
    {d15 : Addr} {oc15 kV15 dc15 pm15 cd15 ct15 : Value} {od15 an15 : Option Addr} {sl15 : Array (Option Value)} (a15 : PySem.W.nsIn K mainGlobals "check_numbers" = some (some (.ref d15))) (l15 : K.lookup d15 = some ⟨oc15, od15, .func (PySem.W.fnOf "check_numbers" "check_numbers" (defArgs (topS 12)) (defBody (topS 12)) (defScope (topS 12)) .none kV15 dc15 pm15 an15 cd15 ct15), sl15⟩) (c15 : PySem.W.codeIn K cd15 "check_numbers" = true) (k15 : PySem.W.keepIn K (.ref d15) = true)
    {d16 : Addr} {oc16 kV16 dc16 pm16 cd16 ct16 : Value} {od16 an16 : Option Addr} {sl16 : Array (Option Value)} (a16 : PySem.W.nsIn K mainGlobals "is_below" = some (some (.ref d16))) (l16 : K.lookup d16 = some ⟨oc16, od16, .func (PySem.W.fnOf "is_below" "is_below" (defArgs (topS 7)) (defBody (topS 7)) (defScope (topS 7)) .none kV16 dc16 pm16 an16 cd16 ct16), sl16⟩) (c16 : PySem.W.codeIn K cd16 "is_below" = true) (k16 : PySem.W.keepIn K (.ref d16) = true)
    {d17 : Addr} {oc17 kV17 dc17 pm17 cd17 ct17 : Value} {od17 an17 : Option Addr} {sl17 : Array (Option Value)} (a17 : PySem.W.nsIn K mainGlobals "is_placed" = some (some (.ref d17))) (l17 : K.lookup d17 = some ⟨oc17, od17, .func (PySem.W.fnOf "is_placed" "is_placed" (defArgs (topS 13)) (defBody (topS 13)) (defScope (topS 13)) .none kV17 dc17 pm17 an17 cd17 ct17), sl17⟩) (c17 : PySem.W.codeIn K cd17 "is_placed" = true) (k17 : PySem.W.keepIn K (.ref d17) = true)
    {d18 : Addr} {oc18 kV18 dc18 pm18 cd18 ct18 : Value} {od18 an18 : Option Addr} {sl18 : Array (Option Value)} (a18 : PySem.W.nsIn K mainGlobals "check_placed" = some (some (.ref d18))) (l18 : K.lookup d18 = some ⟨oc18, od18, .func (PySem.W.fnOf "check_placed" "check_placed" (defArgs (topS 14)) (defBody (topS 14)) (defScope (topS 14)) .none kV18 dc18 pm18 an18 cd18 ct18), sl18⟩) (c18 : PySem.W.codeIn K cd18 "check_placed" = true) (k18 : PySem.W.keepIn K (.ref d18) = true)
    {d19 : Addr} {oc19 kV19 dc19 pm19 cd19 ct19 : Value} {od19 an19 : Option Addr} {sl19 : Array (Option Value)} (a19 : PySem.W.nsIn K mainGlobals "quickest" = some (some (.ref d19))) (l19 : K.lookup d19 = some ⟨oc19, od19, .func (PySem.W.fnOf "quickest" "quickest" (defArgs (topS 20)) (defBody (topS 20)) (defScope (topS 20)) .none kV19 dc19 pm19 an19 cd19 ct19), sl19⟩) (c19 : PySem.W.codeIn K cd19 "quickest" = true) (k19 : PySem.W.keepIn K (.ref d19) = true)
    {d20 : Addr} {oc20 kV20 dc20 pm20 cd20 ct20 : Value} {od20 an20 : Option Addr} {sl20 : Array (Option Value)} (a20 : PySem.W.nsIn K mainGlobals "check_windows" = some (some (.ref d20))) (l20 : K.lookup d20 = some ⟨oc20, od20, .func (PySem.W.fnOf "check_windows" "check_windows" (defArgs (topS 21)) (defBody (topS 21)) (defScope (topS 21)) .none kV20 dc20 pm20 an20 cd20 ct20), sl20⟩) (c20 : PySem.W.codeIn K cd20 "check_windows" = true) (k20 : PySem.W.keepIn K (.ref d20) = true)
    {d21 : Addr} {oc21 kV21 dc21 pm21 cd21 ct21 : Value} {od21 an21 : Option Addr} {sl21 : Array (Option Value)} (a21 : PySem.W.nsIn K mainGlobals "right_order" = some (some (.ref d21))) (l21 : K.lookup d21 = some ⟨oc21, od21, .func (PySem.W.fnOf "right_order" "right_order" (defArgs (topS 22)) (defBody (topS 22)) (defScope (topS 22)) .none kV21 dc21 pm21 an21 cd21 ct21), sl21⟩) (c21 : PySem.W.codeIn K cd21 "right_order" = true) (k21 : PySem.W.keepIn K (.ref d21) = true)
    {d22 : Addr} {oc22 kV22 dc22 pm22 cd22 ct22 : Value} {od22 an22 : Option Addr} {sl22 : Array (Option Value)} (a22 : PySem.W.nsIn K mainGlobals "turn" = some (some (.ref d22))) (l22 : K.lookup d22 = some ⟨oc22, od22, .func (PySem.W.fnOf "turn" "turn" (defArgs (topS 16)) (defBody (topS 16)) (defScope (topS 16)) .none kV22 dc22 pm22 an22 cd22 ct22), sl22⟩) (c22 : PySem.W.codeIn K cd22 "turn" = true) (k22 : PySem.W.keepIn K (.ref d22) = true)
    {d23 : Addr} {oc23 kV23 dc23 pm23 cd23 ct23 : Value} {od23 an23 : Option Addr} {sl23 : Array (Option Value)} (a23 : PySem.W.nsIn K mainGlobals "_law_told" = some (some (.ref d23))) (l23 : K.lookup d23 = some ⟨oc23, od23, .func (PySem.W.fnOf "_law_told" "_law_told" (defArgs (topS 28)) (defBody (topS 28)) (defScope (topS 28)) .none kV23 dc23 pm23 an23 cd23 ct23), sl23⟩) (c23 : PySem.W.codeIn K cd23 "_law_told" = true) (k23 : PySem.W.keepIn K (.ref d23) = true)
    {d24 : Addr} {oc24 kV24 dc24 pm24 ct24 : Value} {od24 an24 : Option Addr} {sl24 : Array (Option Value)} {cc24 P24 : Addr} {yc24 : Value} {yd24 : Option Addr} {ya24 : Array Value} {ys24 : Array (Option Value)} (a24 : PySem.W.nsIn K mainGlobals "law" = some (some (.ref d24))) (l24 : K.lookup d24 = some ⟨oc24, od24, .func (PySem.W.fnOf "law" "law" (defArgs (topS 34)) (defBody (topS 34)) (defScope (topS 34)) .none kV24 dc24 pm24 an24 (.ref cc24) ct24), sl24⟩) (c24 : PySem.W.codeIn K (.ref cc24) "law" = true) (k24 : PySem.W.keepIn K (.ref d24) = true)
    {e24 : DefRec} (y24 : K.lookup cc24 = some ⟨yc24, yd24, .fields ya24, ys24⟩) (v24 : ya24[11]? = some (.ref P24)) (n24 : K.lookup P24 = none) (r24 : (recsOf q).find? (fun e => e.name == ("law" : Str)) = some e24)
    (dist : [P24].Nodup)
    (z_abs : PySem.W.nsIn K mainGlobals "abs" = some none)
    (z_all : PySem.W.nsIn K mainGlobals "all" = some none)
    (z_bool : PySem.W.nsIn K mainGlobals "bool" = some none)
    (z_enumerate : PySem.W.nsIn K mainGlobals "enumerate" = some none)
    (z_int : PySem.W.nsIn K mainGlobals "int" = some none)
    (z_isinstance : PySem.W.nsIn K mainGlobals "isinstance" = some none)
    (z_len : PySem.W.nsIn K mainGlobals "len" = some none)
    (z_list : PySem.W.nsIn K mainGlobals "list" = some none)
    (z_max : PySem.W.nsIn K mainGlobals "max" = some none)
    (z_min : PySem.W.nsIn K mainGlobals "min" = some none)
    (z_range : PySem.W.nsIn K mainGlobals "range" = some none)
    (z_sorted : PySem.W.nsIn K mainGlobals "sorted" = some none)
    (z_str : PySem.W.nsIn K mainGlobals "str" = some none)
    (z_tuple : PySem.W.nsIn K mainGlobals "tuple" = some none)
    {t_MOST_LOOKS : Tok} (g_MOST_LOOKS : PySem.W.nsIn K mainGlobals "MOST_LOOKS" = some (some (.int 7 t_MOST_LOOKS)))
    {t_MOST_NUMBER : Tok} (g_MOST_NUMBER : PySem.W.nsIn K mainGlobals "MOST_NUMBER" = some (some (.int 10000 t_MOST_NUMBER)))
    {t_MOST_STEPS : Tok} (g_MOST_STEPS : PySem.W.nsIn K mainGlobals "MOST_STEPS" = some (some (.int 1000 t_MOST_STEPS))) :
    ∃ (fd : FuncData) (cs : List (Addr × Addr)) (sp : Sp),
      ((∀ (y : Str) (e : DefRec) (c P : Addr), (recsOf q).find? (fun e => e.name == y) = some e → PySem.W.tabIn K y = some (c, P) → PySem.W.CodeHd h c P ∧ h.get? P = some (PySem.W.tabObj #[])) → ∀ p ∈ cs, TabAt K h p) ∧
      (∀ (s : Shared) (v : Value), BindsTo s fd ⟨[v], []⟩ [("script", v)]) ∧
      (∀ (H : Hp) (a : Addr) (ns : List Int), ns.length ≤ 63 → OnlyT (cs.map (·.2)) H → SqL K H a (ns.map V.int) → sp [.ref a] H (fun v _ => v = .bl true) fun _ _ _ => False) ∧
      ∀ base : Heap, K.In base → base.Ns mainGlobals mg → (∀ p ∈ cs, LamX.TabB base mg p.1 p.2) → FnG P w K mg base 8 fa fd ["script"] sp := by
  have e := hfa.symm.trans (PySem.W.mg_of X G a24)
  cases e
  have E : Mo mg := ⟨PySem.W.mg_none_of X G z_abs, PySem.W.mg_none_of X G z_all, PySem.W.mg_none_of X G z_bool, PySem.W.mg_none_of X G z_enumerate, PySem.W.mg_none_of X G z_int, PySem.W.mg_none_of X G z_isinstance, PySem.W.mg_none_of X G z_len, PySem.W.mg_none_of X G z_list, PySem.W.mg_none_of X G z_max, PySem.W.mg_none_of X G z_min, PySem.W.mg_none_of X G z_range, PySem.W.mg_none_of X G z_sorted, PySem.W.mg_none_of X G z_str, PySem.W.mg_none_of X G z_tuple, ⟨_, PySem.W.mg_of X G g_MOST_LOOKS⟩, ⟨_, PySem.W.mg_of X G g_MOST_NUMBER⟩, ⟨_, PySem.W.mg_of X G g_MOST_STEPS⟩⟩
  have F0 := fun_mk (st := topS 27) l0 c0 k0
  have D0 : DefAt K mg "_law_read" (topS 27) ["told"] := ⟨_, _, F0, PySem.W.mg_of X G a0, k0, F0.binds fun _ _ _ _ _ _ us hl => match us, hl with | [_], _ => rfl⟩
  have F1 := fun_mk (st := topS 26) l1 c1 k1
  have D1 : DefAt K mg "_law_draw" (topS 26) ["box", "high"] := ⟨_, _, F1, PySem.W.mg_of X G a1, k1, F1.binds fun _ _ _ _ _ _ us hl => match us, hl with | [_, _], _ => rfl⟩
  have F2 := fun_mk (st := topS 29) l2 c2 k2
  have D2 : DefAt K mg "_law_turn" (topS 29) ["one", "other", "dome"] := ⟨_, _, F2, PySem.W.mg_of X G a2, k2, F2.binds fun _ _ _ _ _ _ us hl => match us, hl with | [_, _, _], _ => rfl⟩
  have F3 := fun_mk (st := topS 31) l3 c3 k3
  have D3 : DefAt K mg "_law_end" (topS 31) ["placed", "windows", "order", "dome"] := ⟨_, _, F3, PySem.W.mg_of X G a3, k3, F3.binds fun _ _ _ _ _ _ us hl => match us, hl with | [_, _, _, _], _ => rfl⟩
  have F4 := fun_mk (st := topS 30) l4 c4 k4
  have D4 : DefAt K mg "_law_ends" (topS 30) ["placed", "windows", "dome"] := ⟨_, _, F4, PySem.W.mg_of X G a4, k4, F4.binds fun _ _ _ _ _ _ us hl => match us, hl with | [_, _, _], _ => rfl⟩
  have F5 := fun_mk (st := topS 33) l5 c5 k5
  have D5 : DefAt K mg "_law_rest" (topS 33) ["placed", "order", "dome"] := ⟨_, _, F5, PySem.W.mg_of X G a5, k5, F5.binds fun _ _ _ _ _ _ us hl => match us, hl with | [_, _, _], _ => rfl⟩
  have F6 := fun_mk (st := topS 32) l6 c6 k6
  have D6 : DefAt K mg "_law_least" (topS 32) ["placed", "dome"] := ⟨_, _, F6, PySem.W.mg_of X G a6, k6, F6.binds fun _ _ _ _ _ _ us hl => match us, hl with | [_, _], _ => rfl⟩
  have F7 := fun_mk (st := topS 24) l7 c7 k7
  have D7 : DefAt K mg "_law_cell" (topS 24) ["script", "k"] := ⟨_, _, F7, PySem.W.mg_of X G a7, k7, F7.binds fun _ _ _ _ _ _ us hl => match us, hl with | [_, _], _ => rfl⟩
  have F8 := fun_mk (st := topS 25) l8 c8 k8
  have D8 : DefAt K mg "_law_stream" (topS 25) ["script", "k"] := ⟨_, _, F8, PySem.W.mg_of X G a8, k8, F8.binds fun _ _ _ _ _ _ us hl => match us, hl with | [_, _], _ => rfl⟩
  have F9 := fun_mk (st := topS 17) l9 c9 k9
  have D9 : DefAt K mg "orders_of" (topS 17) ["many"] := ⟨_, _, F9, PySem.W.mg_of X G a9, k9, F9.binds fun _ _ _ _ _ _ us hl => match us, hl with | [_], _ => rfl⟩
  have F10 := fun_mk (st := topS 15) l10 c10 k10
  have D10 : DefAt K mg "time_of" (topS 15) ["one", "other", "p", "speed", "f"] := ⟨_, _, F10, PySem.W.mg_of X G a10, k10, F10.binds fun _ _ _ _ _ _ us hl => match us, hl with | [_, _, _, _, _], _ => rfl⟩
  have F11 := fun_mk (st := topS 18) l11 c11 k11
  have D11 : DefAt K mg "whole_time" (topS 18) ["placed", "order", "windows", "p", "speed", "f"] := ⟨_, _, F11, PySem.W.mg_of X G a11, k11, F11.binds fun _ _ _ _ _ _ us hl => match us, hl with | [_, _, _, _, _, _], _ => rfl⟩
  have F12 := fun_mk (st := topS 19) l12 c12 k12
  have D12 : DefAt K mg "best_order" (topS 19) ["placed", "windows", "p", "speed", "f"] := ⟨_, _, F12, PySem.W.mg_of X G a12, k12, F12.binds fun _ _ _ _ _ _ us hl => match us, hl with | [_, _, _, _, _], _ => rfl⟩
  have F13 := fun_mk (st := topS 6) l13 c13 k13
  have D13 : DefAt K mg "is_integer" (topS 6) ["thing"] := ⟨_, _, F13, PySem.W.mg_of X G a13, k13, F13.binds fun _ _ _ _ _ _ us hl => match us, hl with | [_], _ => rfl⟩
  have F14 := fun_mk (st := topS 8) l14 c14 k14
  have D14 : DefAt K mg "is_between" (topS 8) ["thing", "low", "high"] := ⟨_, _, F14, PySem.W.mg_of X G a14, k14, F14.binds fun _ _ _ _ _ _ us hl => match us, hl with | [_, _, _], _ => rfl⟩
  have F15 := fun_mk (st := topS 12) l15 c15 k15
  have D15 : DefAt K mg "check_numbers" (topS 12) ["p", "speed", "f"] := ⟨_, _, F15, PySem.W.mg_of X G a15, k15, F15.binds fun _ _ _ _ _ _ us hl => match us, hl with | [_, _, _], _ => rfl⟩
  have F16 := fun_mk (st := topS 7) l16 c16 k16
  have D16 : DefAt K mg "is_below" (topS 7) ["thing", "bound"] := ⟨_, _, F16, PySem.W.mg_of X G a16, k16, F16.binds fun _ _ _ _ _ _ us hl => match us, hl with | [_, _], _ => rfl⟩
  have F17 := fun_mk (st := topS 13) l17 c17 k17
  have D17 : DefAt K mg "is_placed" (topS 13) ["look", "p"] := ⟨_, _, F17, PySem.W.mg_of X G a17, k17, F17.binds fun _ _ _ _ _ _ us hl => match us, hl with | [_, _], _ => rfl⟩
  have F18 := fun_mk (st := topS 14) l18 c18 k18
  have D18 : DefAt K mg "check_placed" (topS 14) ["placed", "p"] := ⟨_, _, F18, PySem.W.mg_of X G a18, k18, F18.binds fun _ _ _ _ _ _ us hl => match us, hl with | [_, _], _ => rfl⟩
  have F19 := fun_mk (st := topS 20) l19 c19 k19
  have D19 : DefAt K mg "quickest" (topS 20) ["placed", "p", "speed", "f"] := ⟨_, _, F19, PySem.W.mg_of X G a19, k19, F19.binds fun _ _ _ _ _ _ us hl => match us, hl with | [_, _, _, _], _ => rfl⟩
  have F20 := fun_mk (st := topS 21) l20 c20 k20
  have D20 : DefAt K mg "check_windows" (topS 21) ["placed", "windows"] := ⟨_, _, F20, PySem.W.mg_of X G a20, k20, F20.binds fun _ _ _ _ _ _ us hl => match us, hl with | [_, _], _ => rfl⟩
  have F21 := fun_mk (st := topS 22) l21 c21 k21
  have D21 : DefAt K mg "right_order" (topS 22) ["placed", "windows", "p", "speed", "f"] := ⟨_, _, F21, PySem.W.mg_of X G a21, k21, F21.binds fun _ _ _ _ _ _ us hl => match us, hl with | [_, _, _, _, _], _ => rfl⟩
  have F22 := fun_mk (st := topS 16) l22 c22 k22
  have D22 : DefAt K mg "turn" (topS 16) ["one", "other", "p", "speed", "f"] := ⟨_, _, F22, PySem.W.mg_of X G a22, k22, F22.binds fun _ _ _ _ _ _ us hl => match us, hl with | [_, _, _, _, _], _ => rfl⟩
  have F23 := fun_mk (st := topS 28) l23 c23 k23
  have D23 : DefAt K mg "_law_told" (topS 28) ["call"] := ⟨_, _, F23, PySem.W.mg_of X G a23, k23, F23.binds fun _ _ _ _ _ _ us hl => match us, hl with | [_], _ => rfl⟩
  have F24 := fun_mk (st := topS 34) l24 c24 k24
  have D24 : DefAtC K mg "law" (topS 34) ["script"] cc24 := ⟨_, _, F24, PySem.W.mg_of X G a24, k24, F24.binds fun _ _ _ _ _ _ us hl => match us, hl with | [_], _ => rfl, rfl⟩
  refine ⟨PySem.W.fnOf "law" "law" (defArgs (topS 34)) (defBody (topS 34)) (defScope (topS 34)) .none kV24 dc24 pm24 an24 (.ref cc24) ct24, [(cc24, P24)], spOf ⟨w, K, ⟨fun _ => 0, [(P24, lamQ "law")]⟩⟩ 1 s_law, fun tb => ?_, fun s v => .of_eq rfl, fun H a ns hl hO hS => law_spT hlaw hl hO hS, fun base _ _ TB => ?_⟩
  · exact List.forall_mem_cons.mpr ⟨tabAt_of a24 l24 y24 v24 n24 (tb "law" e24 cc24 P24 r24), fun _ hx => nomatch hx⟩
  · have ud := tab_one (T := [(P24, lamQ "law")]) dist
    have h__law_read := o__law_read (P := P) (w := w) (K := K) (mg := mg) (base := base) (cl := ⟨fun _ => 0, [(P24, lamQ "law")]⟩) E D0  6
    have h__law_draw := o__law_draw (P := P) (w := w) (K := K) (mg := mg) (base := base) (cl := ⟨fun _ => 0, [(P24, lamQ "law")]⟩) E D1 
    have h__law_turn := o__law_turn (P := P) (w := w) (K := K) (mg := mg) (base := base) (cl := ⟨fun _ => 0, [(P24, lamQ "law")]⟩) E D2 
    have h__law_end := o__law_end (P := P) (w := w) (K := K) (mg := mg) (base := base) (cl := ⟨fun _ => 0, [(P24, lamQ "law")]⟩) E D3 h__law_turn
    have h__law_ends := o__law_ends (P := P) (w := w) (K := K) (mg := mg) (base := base) (cl := ⟨fun _ => 0, [(P24, lamQ "law")]⟩) E D4 h__law_turn
    have h__law_rest := o__law_rest (P := P) (w := w) (K := K) (mg := mg) (base := base) (cl := ⟨fun _ => 0, [(P24, lamQ "law")]⟩) E D5 h__law_turn
    have h__law_least := o__law_least (P := P) (w := w) (K := K) (mg := mg) (base := base) (cl := ⟨fun _ => 0, [(P24, lamQ "law")]⟩) E D6 h__law_end h__law_ends h__law_rest
    have h__law_cell := o__law_cell (P := P) (w := w) (K := K) (mg := mg) (base := base) (cl := ⟨fun _ => 0, [(P24, lamQ "law")]⟩) E D7 
    have h__law_stream := o__law_stream (P := P) (w := w) (K := K) (mg := mg) (base := base) (cl := ⟨fun _ => 0, [(P24, lamQ "law")]⟩) E D8 h__law_cell
    have h_orders_of := o_orders_of (P := P) (w := w) (K := K) (mg := mg) (base := base) (cl := ⟨fun _ => 0, [(P24, lamQ "law")]⟩) E D9 
    have h_time_of := o_time_of (P := P) (w := w) (K := K) (mg := mg) (base := base) (cl := ⟨fun _ => 0, [(P24, lamQ "law")]⟩) E D10 
    have h_whole_time := o_whole_time (P := P) (w := w) (K := K) (mg := mg) (base := base) (cl := ⟨fun _ => 0, [(P24, lamQ "law")]⟩) E D11 h_time_of
    have h_best_order := o_best_order (P := P) (w := w) (K := K) (mg := mg) (base := base) (cl := ⟨fun _ => 0, [(P24, lamQ "law")]⟩) E D12 h_orders_of h_whole_time
    have h_is_integer := o_is_integer (P := P) (w := w) (K := K) (mg := mg) (base := base) (cl := ⟨fun _ => 0, [(P24, lamQ "law")]⟩) E D13 
    have h_is_between := o_is_between (P := P) (w := w) (K := K) (mg := mg) (base := base) (cl := ⟨fun _ => 0, [(P24, lamQ "law")]⟩) E D14 h_is_integer
    have h_check_numbers := o_check_numbers (P := P) (w := w) (K := K) (mg := mg) (base := base) (cl := ⟨fun _ => 0, [(P24, lamQ "law")]⟩) E D15 h_is_between
    have h_is_below := o_is_below (P := P) (w := w) (K := K) (mg := mg) (base := base) (cl := ⟨fun _ => 0, [(P24, lamQ "law")]⟩) E D16 h_is_integer
    have h_is_placed := o_is_placed (P := P) (w := w) (K := K) (mg := mg) (base := base) (cl := ⟨fun _ => 0, [(P24, lamQ "law")]⟩) E D17 h_is_below h_is_between h_is_integer
    have h_check_placed := o_check_placed (P := P) (w := w) (K := K) (mg := mg) (base := base) (cl := ⟨fun _ => 0, [(P24, lamQ "law")]⟩) E D18 h_is_placed
    have h_quickest := o_quickest (P := P) (w := w) (K := K) (mg := mg) (base := base) (cl := ⟨fun _ => 0, [(P24, lamQ "law")]⟩) E D19 h_best_order h_check_numbers h_check_placed h_is_between
    have h_check_windows := o_check_windows (P := P) (w := w) (K := K) (mg := mg) (base := base) (cl := ⟨fun _ => 0, [(P24, lamQ "law")]⟩) E D20 h_is_between
    have h_right_order := o_right_order (P := P) (w := w) (K := K) (mg := mg) (base := base) (cl := ⟨fun _ => 0, [(P24, lamQ "law")]⟩) E D21 h_best_order h_check_numbers h_check_placed h_check_windows h_is_between
    have h_turn := o_turn (P := P) (w := w) (K := K) (mg := mg) (base := base) (cl := ⟨fun _ => 0, [(P24, lamQ "law")]⟩) E D22 h_check_numbers h_is_between h_is_placed h_time_of
    exact o_law E F24 h__law_draw h__law_end h__law_ends h__law_least h__law_read h__law_stream h__law_turn h_quickest h_right_order h_turn D23 (TB (cc24, P24) (by simp)) (by simp) (ud P24 (lamQ "law") (by simp)) rfl
end K06
/-! Orders by sets: plain. -/
namespace DPR
open EV
abbrev Tb := List ((Nat × Nat) × Int)
def mn (a b : Int) : Int := if b < a then b else a
theorem mn_le {a b : Int} : mn a b ≤ a ∧ mn a b ≤ b := by unfold mn; split <;> omega
theorem mn_or (a b : Int) : mn a b = a ∨ mn a b = b := by unfold mn; split <;> simp
def upd (m : Tb) (k : Nat × Nat) (x : Int) : Tb := put m k (mn ((look m k).getD x) x)
theorem upd_len {m : Tb} {k : Nat × Nat} {x : Int} : (upd m k x).length ≤ m.length + 1 := put_len
/-- what rows there are: nd their last node, F what they come to, base those that are there at first -/
structure Sys where
  L : Nat
  nd : List Nat → Nat
  F : List Nat → Option Int
  V : List Nat → Prop
  base : List Nat → Prop
  step : Nat → Int → Nat → Option Int
  nodes : List Nat
structure Sys.ok (S : Sys) : Prop where
  nodup : ∀ r, S.V r → r.Nodup
  lt : ∀ r, S.V r → ∀ i ∈ r, i < S.L
  split : ∀ r, S.V r → S.base r ∨ ∃ r1 k, r = r1 ++ [k] ∧ S.V r1
  snoc : ∀ r k, S.V r → k < S.L → k ∉ r → S.V (r ++ [k])
  run : ∀ r k, S.V r → S.V (r ++ [k]) → S.F (r ++ [k]) = (S.F r).bind fun t => S.step (S.nd r) t k
  mono : ∀ i t t' k y, t ≤ t' → S.step i t' k = some y → ∃ x, S.step i t k = some x ∧ x ≤ y
  node : ∀ r, S.V r → S.nd r ∈ S.nodes
def Sys.Snd (S : Sys) (m : Tb) : Prop := ∀ k v, look m k = some v → ∃ r, S.V r ∧ k = (maskOf r, S.nd r) ∧ S.F r = some v
def Sys.Cmp (S : Sys) (D : List Nat → Prop) (m : Tb) : Prop := ∀ r t, S.V r → S.F r = some t → D r → ∃ v, look m (maskOf r, S.nd r) = some v ∧ v ≤ t
/-- gone through: smaller sets, of this set the nodes pr, and of cur the next ones below k -/
def Sys.Dn (S : Sys) (mask : Nat) (pr : List Nat) (cur k : Nat) (r : List Nat) : Prop := S.base r ∨ ∃ r1 k1, r = r1 ++ [k1] ∧ S.V r1 ∧ (maskOf r1 < mask ∨ (maskOf r1 = mask ∧ (S.nd r1 ∈ pr ∨ (S.nd r1 = cur ∧ k1 < k))))
section
variable {S : Sys} {m : Tb} {D D' : List Nat → Prop} {mask cur k : Nat} {pr : List Nat}
theorem snd_upd (h : S.Snd m) {r : List Nat} {x : Int} (hr : S.V r) (hF : S.F r = some x) : S.Snd (upd m (maskOf r, S.nd r) x) := by
  intro j v e
  unfold upd at e
  rw [look_put] at e
  by_cases q : j = (maskOf r, S.nd r)
  · rw [if_pos q] at e
    cases e
    cases e2 : look m (maskOf r, S.nd r) with
    | none =>
      refine ⟨r, hr, q, ?_⟩
      rw [hF]
      simp [mn]
    | some w =>
      rw [Option.getD_some]
      rcases mn_or w x with z | z
      · rw [z]
        obtain ⟨r', h1, h2, h3⟩ := h _ _ e2
        exact ⟨r', h1, q.trans h2, h3⟩
      · rw [z]
        exact ⟨r, hr, q, hF⟩
  · rw [if_neg q] at e
    exact h j v e
theorem cmp_upd (h : S.Cmp D m) {key : Nat × Nat} {x : Int} (hx : ∀ r t, S.V r → S.F r = some t → D' r → D r ∨ ((maskOf r, S.nd r) = key ∧ x ≤ t)) : S.Cmp D' (upd m key x) := by
  intro r t hr hF hD
  unfold upd
  rw [look_put]
  rcases hx r t hr hF hD with z | ⟨z1, z2⟩
  · obtain ⟨v, h1, h2⟩ := h r t hr hF z
    by_cases q : (maskOf r, S.nd r) = key
    · rw [if_pos q]
      rw [q] at h1
      refine ⟨_, rfl, ?_⟩
      rw [h1, Option.getD_some]
      exact Int.le_trans mn_le.1 h2
    · rw [if_neg q]
      exact ⟨v, h1, h2⟩
  · rw [if_pos z1]
    exact ⟨_, rfl, Int.le_trans mn_le.2 z2⟩
theorem Sys.Cmp.sub (h : S.Cmp D m) (hs : ∀ r t, S.V r → S.F r = some t → D' r → D r) : S.Cmp D' m := fun r t hr hF hD => h r t hr hF (hs r t hr hF hD)
variable (ok : S.ok)
include ok
/-- one more node, there already -/
theorem next_in (hk : mask.testBit k = true) (h : S.Cmp (S.Dn mask pr cur k) m) : S.Cmp (S.Dn mask pr cur (k + 1)) m := h.sub fun r t hr hF hD => by
  rcases hD with hb | ⟨r1, k1, rfl, h1, h2⟩
  · exact .inl hb
  · refine .inr ⟨r1, k1, rfl, h1, ?_⟩
    rcases h2 with h2 | ⟨h2, h3 | ⟨h3, h4⟩⟩
    · exact .inl h2
    · exact .inr ⟨h2, .inl h3⟩
    · by_cases q : k1 = k
      · exfalso
        subst q
        have hn := ok.nodup _ hr
        rw [List.nodup_append] at hn
        have := bit_mask r1 k1
        rw [h2, hk] at this
        have h5 : k1 ∈ r1 := by simpa using this.symm
        exact hn.2.2 k1 h5 k1 (by simp) rfl
      · exact .inr ⟨h2, .inr ⟨h3, by omega⟩⟩
theorem row_at (hs : S.Snd m) {v : Int} (hv : look m (mask, cur) = some v) (hk : mask.testBit k = false) (hL : k < S.L) : ∃ r, S.V r ∧ maskOf r = mask ∧ S.nd r = cur ∧ S.F r = some v ∧ S.V (r ++ [k]) ∧ S.F (r ++ [k]) = S.step cur v k := by
  obtain ⟨r, h1, h2, h3⟩ := hs _ _ hv
  injection h2 with e1 e2
  have hkr : k ∉ r := by
    have := bit_mask r k
    rw [← e1, hk] at this
    simpa using this.symm
  have hV := ok.snoc r k h1 hL hkr
  refine ⟨r, h1, e1.symm, e2.symm, h3, hV, ?_⟩
  rw [ok.run r k h1 hV, h3, ← e2]; rfl
theorem before (hr : S.V r) (hm : maskOf r = mask) : S.Dn mask pr cur k r := by
  rcases ok.split r hr with hb | ⟨r1, k1, rfl, h1⟩
  · exact .inl hb
  · refine .inr ⟨r1, k1, rfl, h1, .inl ?_⟩
    rw [← hm]
    refine mask_lt fun z => ?_
    have hn := ok.nodup _ hr
    rw [List.nodup_append] at hn
    exact hn.2.2 k1 z k1 (by simp) rfl
/-- .. which can't be next -/
theorem next_no {v : Int} (hv : look m (mask, cur) = some v) (hn : S.step cur v k = none) (h : S.Cmp (S.Dn mask pr cur k) m) : S.Cmp (S.Dn mask pr cur (k + 1)) m := h.sub fun r t hr hF hD => by
  rcases hD with hb | ⟨r1, k1, rfl, h1, h2⟩
  · exact .inl hb
  · refine .inr ⟨r1, k1, rfl, h1, ?_⟩
    rcases h2 with h2 | ⟨h2, h3 | ⟨h3, h4⟩⟩
    · exact .inl h2
    · exact .inr ⟨h2, .inl h3⟩
    · by_cases q : k1 = k
      · exfalso
        subst q
        rw [ok.run r1 k1 h1 hr] at hF
        obtain ⟨t1, e1, e2⟩ := Option.bind_eq_some_iff.mp hF
        obtain ⟨v', e3, e4⟩ := h r1 t1 h1 e1 (before ok h1 h2)
        rw [h2, h3, hv] at e3
        cases e3
        rw [h3] at e2
        obtain ⟨x, e5, _⟩ := ok.mono cur v t1 k1 t e4 e2
        rw [hn] at e5
        cases e5
      · exact .inr ⟨h2, .inr ⟨h3, by omega⟩⟩
/-- .. which comes next -/
theorem next_yes {v x : Int} (hs : S.Snd m) (hv : look m (mask, cur) = some v) (hk : mask.testBit k = false) (hL : k < S.L) (hx : S.step cur v k = some x) {key : Nat × Nat} (hkey : key.1 = mask ||| 1 <<< k) (hnd : ∀ r, S.V (r ++ [k]) → S.nd (r ++ [k]) = key.2) (h : S.Cmp (S.Dn mask pr cur k) m) :
    S.Snd (upd m key x) ∧ S.Cmp (S.Dn mask pr cur (k + 1)) (upd m key x) := by
  obtain ⟨r, r1, r2, r3, r4, r5, r6⟩ := row_at ok hs hv hk hL
  have ek : key = (maskOf (r ++ [k]), S.nd (r ++ [k])) := Prod.ext (by rw [hkey, mask_snoc, r2]) (hnd r r5).symm
  refine ⟨by rw [ek]; exact snd_upd hs r5 (by rw [r6, hx]), cmp_upd h fun q t hq hF hD => ?_⟩
  rcases hD with hb | ⟨q1, k1, rfl, h1, h2⟩
  · exact .inl (.inl hb)
  · rcases h2 with h2 | ⟨h2, h3 | ⟨h3, h4⟩⟩
    · exact .inl (.inr ⟨q1, k1, rfl, h1, .inl h2⟩)
    · exact .inl (.inr ⟨q1, k1, rfl, h1, .inr ⟨h2, .inl h3⟩⟩)
    · by_cases e : k1 = k
      · subst e
        refine .inr ⟨Prod.ext (by rw [hkey, mask_snoc, h2]) (hnd q1 hq), ?_⟩
        rw [ok.run q1 k1 h1 hq] at hF
        obtain ⟨t1, e1, e2⟩ := Option.bind_eq_some_iff.mp hF
        obtain ⟨v', e3, e4⟩ := h q1 t1 h1 e1 (before ok h1 h2)
        rw [h2, h3, hv] at e3
        cases e3
        rw [h3] at e2
        obtain ⟨y, e5, e6⟩ := ok.mono cur v t1 k1 t e4 e2
        rw [hx] at e5
        cases e5
        exact e6
      · exact .inl (.inr ⟨q1, k1, rfl, h1, .inr ⟨h2, .inr ⟨h3, by omega⟩⟩⟩)
/-- no row of this set ends at cur -/
theorem skip_node (hv : look m (mask, cur) = none) (h : S.Cmp (S.Dn mask pr cur 0) m) (c' : Nat) : S.Cmp (S.Dn mask (pr ++ [cur]) c' 0) m := h.sub fun r t hr hF hD => by
  rcases hD with hb | ⟨r1, k1, rfl, h1, h2⟩
  · exact .inl hb
  · refine .inr ⟨r1, k1, rfl, h1, ?_⟩
    rcases h2 with h2 | ⟨h2, h3 | ⟨h3, h4⟩⟩
    · exact .inl h2
    · rcases List.mem_append.mp h3 with h3 | h3
      · exact .inr ⟨h2, .inl h3⟩
      · exfalso
        have h3 := List.mem_singleton.mp h3
        rw [ok.run r1 k1 h1 hr] at hF
        obtain ⟨t1, e1, e2⟩ := Option.bind_eq_some_iff.mp hF
        obtain ⟨v', e3, e4⟩ := h r1 t1 h1 e1 (before ok h1 h2)
        rw [h2, h3, hv] at e3
        cases e3
    · omega
theorem end_node (h : S.Cmp (S.Dn mask pr cur S.L) m) (c' : Nat) : S.Cmp (S.Dn mask (pr ++ [cur]) c' 0) m := h.sub fun r t hr hF hD => by
  rcases hD with hb | ⟨r1, k1, rfl, h1, h2⟩
  · exact .inl hb
  · refine .inr ⟨r1, k1, rfl, h1, ?_⟩
    rcases h2 with h2 | ⟨h2, h3 | ⟨h3, h4⟩⟩
    · exact .inl h2
    · rcases List.mem_append.mp h3 with h3 | h3
      · exact .inr ⟨h2, .inl h3⟩
      · exact .inr ⟨h2, .inr ⟨List.mem_singleton.mp h3, ok.lt _ hr k1 (by simp)⟩⟩
    · omega
theorem end_mask (h : S.Cmp (S.Dn mask S.nodes cur 0) m) (c' : Nat) : S.Cmp (S.Dn (mask + 1) [] c' 0) m := h.sub fun r t hr hF hD => by
  rcases hD with hb | ⟨r1, k1, rfl, h1, h2⟩
  · exact .inl hb
  · refine .inr ⟨r1, k1, rfl, h1, ?_⟩
    rcases h2 with h2 | ⟨h2, h3 | ⟨h3, h4⟩⟩
    · by_cases q : maskOf r1 = mask
      · exact .inr ⟨q, .inl (ok.node r1 h1)⟩
      · exact .inl (by omega)
    · cases h3
    · omega
omit ok in
theorem cur_any (h : S.Cmp (S.Dn mask pr cur 0) m) (c' : Nat) : S.Cmp (S.Dn mask pr c' 0) m := h.sub fun r t hr hF hD => by
  rcases hD with hb | ⟨r1, k1, rfl, h1, h2⟩
  · exact .inl hb
  · refine .inr ⟨r1, k1, rfl, h1, ?_⟩
    rcases h2 with h2 | ⟨h2, h3 | ⟨h3, h4⟩⟩
    · exact .inl h2
    · exact .inr ⟨h2, .inl h3⟩
    · omega
theorem all_done (h : S.Cmp (S.Dn (2 ^ S.L) [] cur 0) m) : S.Cmp (fun _ => True) m := h.sub fun r t hr hF _ => by
  rcases ok.split r hr with hb | ⟨r1, k1, rfl, h1⟩
  · exact .inl hb
  · exact .inr ⟨r1, k1, rfl, h1, .inl (mask_bound (ok.lt r1 h1))⟩
end
end DPR
/-! Residues: plain numbers. -/
namespace Res
/-- a list without doubles in one that is no longer: the same list, in another order -/
theorem perm_of {α : Type} [DecidableEq α] : ∀ (l r : List α), l.Nodup → (∀ a ∈ l, a ∈ r) → r.length ≤ l.length → l.Perm r
  | [], r, _, _, h => by
    have : r = [] := List.eq_nil_of_length_eq_zero (by simpa using h)
    subst this
    exact List.Perm.refl _
  | a :: l, r, hn, hs, h => by
    have ha : a ∈ r := hs a List.mem_cons_self
    have hp := List.perm_cons_erase ha
    refine List.Perm.trans ?_ hp.symm
    refine List.Perm.cons a (perm_of l (r.erase a) (List.nodup_cons.mp hn).2 (fun b hb => ?_) ?_)
    · have hne : b ≠ a := fun e => (List.nodup_cons.mp hn).1 (e ▸ hb)
      exact (List.mem_erase_of_ne hne).mpr (hs b (List.mem_cons_of_mem _ hb))
    · rw [List.length_erase_of_mem ha]
      simp at h
      omega
section
variable {p y g q u : Nat}
/-- p = g q, y = g u, q and u without a common part -/
structure Rd (p y g q u : Nat) : Prop where
  hp : p = g * q
  hy : y = g * u
  g0 : 0 < g
  q0 : 0 < q
  co : Nat.Coprime q u
theorem rd_of (hp : 0 < p) : Rd p y (Nat.gcd p y) (p / Nat.gcd p y) (y / Nat.gcd p y) := by
  have g0 : 0 < Nat.gcd p y := Nat.gcd_pos_of_pos_left _ hp
  refine ⟨(Nat.mul_div_cancel' (Nat.gcd_dvd_left p y)).symm, (Nat.mul_div_cancel' (Nat.gcd_dvd_right p y)).symm, g0, Nat.div_pos (Nat.gcd_le_left _ hp) g0, ?_⟩
  exact Nat.coprime_div_gcd_div_gcd g0
/-- where the night k stands -/
def at_ (p y : Nat) (c : Int) (k : Nat) : Int := (c + y * k) % p
theorem Rd.dvd_iff (h : Rd p y g q u) (k : Int) : (p : Int) ∣ y * k ↔ (q : Int) ∣ k := by
  rw [h.hp, h.hy, Int.natCast_mul, Int.natCast_mul, Int.mul_assoc, Int.mul_dvd_mul_iff_left (by have := h.g0; omega)]
  constructor
  · intro d
    have d1 := Int.natAbs_dvd_natAbs.mpr d
    rw [Int.natAbs_mul, Int.natAbs_natCast, Int.natAbs_natCast] at d1
    have d2 := h.co.dvd_of_dvd_mul_left d1
    exact Int.natAbs_dvd_natAbs.mp (by simpa using d2)
  · intro d
    exact Int.dvd_mul_of_dvd_right d
theorem Rd.again (h : Rd p y g q u) (c d k : Int) : (c + y * (d + q * k)) % p = (c + y * d) % p := by
  have e : c + y * (d + q * k) = c + y * d + y * (q * k) := by rw [Int.mul_add]; omega
  obtain ⟨z, hz⟩ := (h.dvd_iff (q * k)).mpr (Int.dvd_mul_right _ _)
  rw [e, hz, Int.add_mul_emod_self_left]
theorem Rd.inj (h : Rd p y g q u) (c : Int) {i j : Nat} (hi2 : i < q) (hj2 : j < q) (e : (c + y * i) % p = (c + y * j) % p) : i = j := by
  have d1 : (p : Int) ∣ (c + y * i) - (c + y * j) := Int.dvd_of_emod_eq_zero (by rw [Int.emod_eq_emod_iff_emod_sub_eq_zero.mp e])
  have d2 : (c + y * i) - (c + y * j) = y * ((i : Int) - j) := by rw [Int.mul_sub]; omega
  rw [d2] at d1
  obtain ⟨z, hz⟩ := (h.dvd_iff _).mp d1
  have hq := h.q0
  have : z = 0 := by
    rcases Int.lt_trichotomy z 0 with n | n | n
    · have : (q : Int) * z ≤ q * (-1) := Int.mul_le_mul_of_nonneg_left (by omega) (by omega)
      omega
    · exact n
    · have : (q : Int) * 1 ≤ q * z := Int.mul_le_mul_of_nonneg_left (by omega) (by omega)
      omega
  subst this
  omega
theorem Rd.mod (h : Rd p y g q u) (c d : Int) : (c + y * d) % p % g = c % g := by
  have e1 : (g : Int) ∣ p := by rw [h.hp, Int.natCast_mul]; exact Int.dvd_mul_right _ _
  rw [Int.emod_emod_of_dvd _ e1, h.hy, Int.natCast_mul, Int.mul_assoc, Int.add_mul_emod_self_left]
theorem Rd.p0 (h : Rd p y g q u) : 0 < p := by rw [h.hp]; exact Nat.mul_pos h.g0 h.q0
/-- all residues of one make, once each -/
theorem Rd.perm (h : Rd p y g q u) (c : Int) : ((List.range q).map fun k : Nat => (c + y * k) % p).Perm ((List.range q).map fun j : Nat => c % g + g * j) := by
  have hg := h.g0
  have hp := h.p0
  refine perm_of _ _ ?_ (fun a ha => ?_) (by simp)
  · refine List.nodup_iff_pairwise_ne.mpr (List.pairwise_map.mpr ?_)
    refine List.Pairwise.imp_of_mem ?_ (List.nodup_iff_pairwise_ne.mp List.nodup_range)
    intro i j hi hj ne e
    exact ne (h.inj c (List.mem_range.mp hi) (List.mem_range.mp hj) e)
  · obtain ⟨k, hk, rfl⟩ := List.mem_map.mp ha
    have e1 := h.mod c k
    have a0 := Int.emod_nonneg (c + y * k) (b := p) (by omega)
    have a1 := Int.emod_lt_of_pos (c + y * k) (b := p) (by omega)
    generalize (c + y * k) % (p : Int) = v at *
    rw [← e1]
    refine List.mem_map.mpr ⟨(v / g).toNat, List.mem_range.mpr ?_, ?_⟩
    · have a2 : v < (q : Int) * g := by rw [h.hp, Int.natCast_mul, Int.mul_comm] at a1; exact a1
      have := Int.ediv_lt_of_lt_mul (by omega) a2
      have := Int.ediv_nonneg a0 (b := g) (by omega)
      have := h.q0
      omega
    · have := Int.ediv_nonneg a0 (b := g) (by omega)
      rw [Int.toNat_of_nonneg this]
      have := Int.emod_add_mul_ediv v g
      omega
/-- so many of 0 to w - 1 are c behind a multiple of g -/
def many (w c g : Int) : Int := if c < w then (w - 1 - c) / g + 1 else 0
theorem cnt_below (K : Nat) : ∀ q : Nat, (List.range q).countP (fun j => decide (j < K)) = min q K
  | 0 => by simp
  | q + 1 => by
    rw [List.range_succ, List.countP_append, cnt_below K q]
    simp only [List.countP_cons, List.countP_nil]
    by_cases h : q < K <;> simp [h] <;> omega
theorem Rd.count (h : Rd p y g q u) (c w : Int) (hw : w ≤ p) : (((List.range q).countP fun k : Nat => decide ((c + y * k) % p < w) : Nat) : Int) = many w (c % g) g := by
  have hg := h.g0
  have e1 : (List.range q).countP (fun k : Nat => decide ((c + y * k) % p < w)) = (List.range q).countP (fun j : Nat => decide (c % g + g * j < w)) := by
    have := (h.perm c).countP_eq (fun v => decide (v < w))
    rw [List.countP_map, List.countP_map] at this
    exact this
  rw [e1]
  have c0 := Int.emod_nonneg c (b := g) (by omega)
  generalize c % (g : Int) = c' at *
  unfold many
  split
  · rename_i hc
    have d0 : 0 ≤ (w - 1 - c') / g := Int.ediv_nonneg (by omega) (by omega)
    have e2 : (fun j : Nat => decide (c' + g * j < w)) = fun j : Nat => decide (j < ((w - 1 - c') / g).toNat + 1) := by
      funext j
      have : c' + g * j < w ↔ (j : Int) ≤ (w - 1 - c') / g := by
        rw [Int.le_ediv_iff_mul_le (by omega), Int.mul_comm]
        omega
      simp only [this]
      exact decide_eq_decide.mpr (by omega)
    rw [e2, cnt_below]
    have d1 : (w - 1 - c') / g < q := Int.ediv_lt_of_lt_mul (by omega) (by rw [h.hp] at hw; rw [Int.mul_comm]; have : ((g * q : Nat) : Int) = g * q := Int.natCast_mul _ _; omega)
    rw [Nat.min_eq_right (by omega)]
    omega
  · rename_i hc
    have : (List.range q).countP (fun j : Nat => decide (c' + g * j < w)) = 0 := by
      rw [List.countP_eq_zero]
      intro j _
      have : 0 ≤ (g : Int) * j := Int.mul_nonneg (by omega) (by omega)
      simp
      omega
    rw [this]; rfl
/-- it is up at some of q nights just if it is up by residues -/
theorem Rd.some (h : Rd p y g q u) (c w : Int) (hw : w ≤ p) : (∃ k : Nat, k < q ∧ (c + y * k) % p < w) ↔ c % g < w := by
  have hg := h.g0
  constructor
  · rintro ⟨k, hk, e⟩
    have e1 := h.mod c k
    have a0 := Int.emod_nonneg (c + y * k) (b := p) (by have := h.p0; omega)
    generalize (c + y * k) % (p : Int) = v at *
    rw [← e1]
    have := Int.emod_add_mul_ediv v g
    have : 0 ≤ (g : Int) * (v / g) := Int.mul_nonneg (by omega) (Int.ediv_nonneg a0 (by omega))
    omega
  · intro e
    have : c % g ∈ (List.range q).map fun j : Nat => c % g + g * j := List.mem_map.mpr ⟨0, List.mem_range.mpr h.q0, by simp⟩
    obtain ⟨k, hk, e2⟩ := List.mem_map.mp ((h.perm c).mem_iff.mpr this)
    exact ⟨k, List.mem_range.mp hk, by omega⟩
theorem Rd.ever (h : Rd p y g q u) (c w : Int) (hw : w ≤ p) {d : Int} (e : (c + y * d) % p < w) : c % g < w := by
  have := h.mod c d
  have hg := h.g0
  have a0 := Int.emod_nonneg (c + y * d) (b := p) (by have := h.p0; omega)
  generalize (c + y * d) % (p : Int) = v at *
  rw [← this]
  have := Int.emod_add_mul_ediv v g
  have : 0 ≤ (g : Int) * (v / g) := Int.mul_nonneg (by omega) (Int.ediv_nonneg a0 (by omega))
  omega
/-- counting twice -/
theorem twice (f : Nat → Nat → Bool) (n : Nat) : ∀ m : Nat, ((List.range m).map fun i => ((List.range n).countP fun j => f i j)).sum = ((List.range n).map fun j => ((List.range m).countP fun i => f i j)).sum
  | 0 => by
    simp only [List.range_zero, List.map_nil, List.sum_nil, List.countP_nil]
    induction List.range n with
    | nil => rfl
    | cons a l ih => simp [← ih]
  | m + 1 => by
    rw [List.range_succ, List.map_append, List.sum_append_nat, twice f n m]
    simp only [List.map_cons, List.map_nil, List.sum_cons, List.sum_nil, List.countP_append, List.countP_cons, List.countP_nil]
    generalize List.range n = l
    induction l with
    | nil => simp
    | cons a l ih =>
      simp only [List.map_cons, List.sum_cons, List.countP_cons]
      simp only [Nat.zero_add, Nat.add_zero] at ih ⊢
      omega
end
end Res
namespace K06
open PySem (Str PyData)
open EV
abbrev Bx (x y : Int) : Cell := .lst [.int x, .int y]
def BOk (x y : Int) : Prop := 0 ≤ x ∧ 0 ≤ y ∧ y ≤ 2147483647
@[simp] theorem leave_cons {d : D} {c : Cell} {rest : Sto} : leave (List.length rest + 1) d (c :: rest) = (d, c :: rest) := leave_self (st := c :: rest)
@[simp] theorem leave_nil {d : D} : leave 0 d [] = (d, []) := leave_self (st := [])
@[simp] theorem leave_same {d : D} {st : Sto} : leave st.length d st = (d, st) := leave_self
theorem draw_W {x y m : Int} {rest : Sto} {Q : D → Sto → Prop} (hb : BOk x y) (hm : 0 < m) (hm2 : m < 2 ^ 60) (h : ∀ k x' y', 0 ≤ k → k < m → BOk x' y' → Q (.int k) (Bx x' y' :: rest)) : W (s__law_draw [.ref 0, .int m] (Bx x y :: rest)) Q := by
  obtain ⟨hx, hy, hy2⟩ := hb
  refine fDef_W rfl ?_
  simp [b__law_draw, begin_]
  split
  · refine ⟨⟨hm, log_small hm (by omega)⟩, hm, ?_⟩
    exact h _ _ _ (Int.emod_nonneg _ (by omega)) (Int.emod_lt_of_pos _ hm) ⟨Int.ediv_nonneg hx (by omega), hy, hy2⟩
  · refine ⟨mul_small (by omega), by decide, hm, ?_⟩
    exact h _ _ _ (Int.emod_nonneg _ (by omega)) (Int.emod_lt_of_pos _ hm) ⟨hx, Int.emod_nonneg _ (by decide), by have := Int.emod_lt_of_pos (69621 * y) (b := 2147483647) (by decide); omega⟩
theorem integer_W {i : Int} {st : Sto} {Q : D → Sto → Prop} : W (s_is_integer [.int i] st) Q ↔ Q (.bl true) st := by
  have e : s_is_integer [.int i] st = some (.bl true, st) := by
    have : W (s_is_integer [.int i] st) (fun d s => d = .bl true ∧ s = st) := by
      refine fDef_W rfl ?_
      simp [b_is_integer, begin_]
    obtain ⟨d, s, e, rfl, rfl⟩ := this
    exact e
  rw [e, W_some]
theorem fact {f : F} {ds : List D} {st : Sto} {d : D} {Q : D → Sto → Prop} (h : W (f ds st) (fun x s => x = d ∧ s = st)) : W (f ds st) Q ↔ Q d st := by
  obtain ⟨x, s, e, rfl, rfl⟩ := h
  rw [e, W_some]
theorem below_W {i b : Int} {st : Sto} {Q : D → Sto → Prop} : W (s_is_below [.int i, .int b] st) Q ↔ Q (.bl (decide (0 ≤ i ∧ i < b))) st := by
  refine fact (fDef_W rfl ?_)
  simp [b_is_below, begin_, integer_W]
  split <;> simp_all <;> omega
theorem between_W {i a b : Int} {st : Sto} {Q : D → Sto → Prop} : W (s_is_between [.int i, .int a, .int b] st) Q ↔ Q (.bl (decide (a ≤ i ∧ i ≤ b))) st := by
  refine fact (fDef_W rfl ?_)
  simp [b_is_between, begin_, integer_W]
  split <;> simp_all <;> omega
theorem cell_W {ns : List Int} {k : Int} {st : Sto} {Q : D → Sto → Prop} (h0 : 0 ≤ k) (q : ∀ i, 0 ≤ i → Q (.int i) st) : W (s__law_cell [.scr ns, .int k] st) Q := by
  refine fDef_W rfl ?_
  simp [b__law_cell, begin_]
  split
  · rename_i h
    have hk : k.toNat < ns.length := by omega
    rw [at_int h0 (by simpa using hk)]
    simp
    refine q _ ?_
    split <;> omega
  · exact q _ (by decide)
theorem stream_W {ns : List Int} {Q : D → Sto → Prop} (q : ∀ x y, BOk x y → Q (.ref 0) [Bx x y]) : W (s__law_stream [.scr ns, .int 0] []) Q := by
  refine fDef_W rfl ?_
  simp [b__law_stream, begin_, LIM]
  refine cell_W (by decide) fun a ha => ?_
  refine cell_W (by decide) fun b hb => ?_
  simp
  refine ⟨mul_small (by omega), ?_⟩
  have e : ∀ z : Int, leave 0 (.ref 0) [Cell.lst [.int a, .int z]] = (.ref 0, [Cell.lst [.int a, .int z]]) := fun z => by
    unfold leave
    rw [if_neg]
    rintro ⟨h, _⟩
    simp [D.blw] at h
  rw [e]
  refine q _ _ ⟨ha, ?_, ?_⟩
  · have := Int.emod_nonneg (48271 * b) (b := 2147483647) (by decide)
    omega
  · have := Int.emod_lt_of_pos (48271 * b) (b := 2147483647) (by decide)
    omega
end K06
namespace K06
open PySem (Str PyData)
open EV
structure Lk where
  a : Int
  b : Int
  c : Int
def Lk.d (l : Lk) : D := .tup [.int l.a, .int l.b, .int l.c]
def Lk.ok (p : Int) (l : Lk) : Prop := 0 ≤ l.a ∧ l.a < p ∧ 1 ≤ l.c ∧ l.c ≤ 10000
theorem placed_W {l : Lk} {p : Int} {st : Sto} {Q : D → Sto → Prop} (h : l.ok p) : W (s_is_placed [l.d, .int p] st) Q ↔ Q (.bl true) st := by
  obtain ⟨h1, h2, h3, h4⟩ := h
  refine fact (fDef_W rfl ?_)
  simp [b_is_placed, begin_, integer_W, below_W, between_W, Lk.d, datAll, D.dat, h1, h2, h3, h4]
theorem numbers_W {p s f : Int} {st : Sto} {Q : D → Sto → Prop} (h1 : 1 ≤ p) (h2 : p ≤ 1000) (h3 : 1 ≤ s) (h4 : s ≤ 1000) (h5 : 0 ≤ f) (h6 : f ≤ 10000) : W (s_check_numbers [.int p, .int s, .int f] st) Q ↔ Q .non st := by
  refine fact (fDef_W rfl ?_)
  simp [b_check_numbers, begin_, between_W, h1, h2, h3, h4, h5, h6]
/-- the time from one look to another -/
def way (p : Int) (u v : Lk) : Int := if p - (u.a - v.a) % p < (u.a - v.a) % p then p - (u.a - v.a) % p else (u.a - v.a) % p
def tt (p s f : Int) (u v : Lk) : Int := if (way p u v + s - 1) / s < (if u.b = v.b then 0 else f) then (if u.b = v.b then 0 else f) else (way p u v + s - 1) / s
theorem mod_way {p d : Int} (h1 : 0 < p) (h2 : -p < d) (h3 : d < p) : (if p - d % p < d % p then p - d % p else d % p) = (if p - (if d < 0 then -d else d) < (if d < 0 then -d else d) then p - (if d < 0 then -d else d) else (if d < 0 then -d else d)) := by
  by_cases h : d < 0
  · have e : d % p = d + p := by
      rw [← Int.add_emod_right, Int.emod_eq_of_lt (by omega) (by omega)]
    rw [e, if_pos h]
    split <;> split <;> omega
  · rw [Int.emod_eq_of_lt (by omega) h3, if_neg h]
theorem time_W {p s f : Int} {u v : Lk} {st : Sto} {Q : D → Sto → Prop} (hu : u.ok p) (hv : v.ok p) (h1 : 0 < p) (h3 : 0 < s) (h4 : s ≤ 1000) : W (s_time_of [u.d, v.d, .int p, .int s, .int f] st) Q ↔ Q (.int (tt p s f u v)) st := by
  obtain ⟨a1, a2, _, _⟩ := hu
  obtain ⟨b1, b2, _, _⟩ := hv
  refine fact (fDef_W rfl ?_)
  simp [b_time_of, begin_, Lk.d]
  refine ⟨⟨h3, log_small h3 (by omega)⟩, ?_⟩
  unfold tt way
  rw [mod_way h1 (by omega) (by omega)]
  split <;> simp [*]
theorem turn_W {p s f : Int} {u v : Lk} {st : Sto} {Q : D → Sto → Prop} (hu : u.ok p) (hv : v.ok p) (h1 : 1 ≤ p) (h2 : p ≤ 1000) (h3 : 1 ≤ s) (h4 : s ≤ 1000) (h5 : 0 ≤ f) (h6 : f ≤ 10000) : W (s_turn [u.d, v.d, .int p, .int s, .int f] st) Q ↔ Q (.int (tt p s f u v)) st := by
  refine fact (fDef_W rfl ?_)
  simp [b_turn, begin_, between_W, h1, h2, placed_W hu, placed_W hv, numbers_W h1 h2 h3 h4 h5 h6, time_W hu hv (by omega : 0 < p) (by omega : 0 < s) h4]
/-! ### the way by a third look -/
theorem way_nn {p : Int} {u v : Lk} (h : 0 < p) : 0 ≤ way p u v := by
  unfold way
  have h1 := Int.emod_nonneg (u.a - v.a) (by omega : p ≠ 0)
  have h2 := Int.emod_lt_of_pos (u.a - v.a) h
  split <;> omega
theorem neg_mod {p d : Int} (h : 0 < p) (hd : d % p ≠ 0) : (-d) % p = p - d % p := by
  have h1 := Int.emod_nonneg d (by omega : p ≠ 0)
  have h2 := Int.emod_lt_of_pos d h
  have e : -d = (p - d % p) + p * (-(d / p) - 1) := by
    have := Int.emod_add_mul_ediv d p
    have e2 : p * (-(d / p) - 1) = -(p * (d / p)) - p := by rw [Int.mul_sub, Int.mul_neg, Int.mul_one]
    omega
  rw [e, Int.add_mul_emod_self_left, Int.emod_eq_of_lt (by omega) (by omega)]
theorem way_comm {p : Int} {u v : Lk} (h : 0 < p) : way p u v = way p v u := by
  unfold way
  have e : v.a - u.a = -(u.a - v.a) := by omega
  rw [e]
  by_cases hd : (u.a - v.a) % p = 0
  · have e2 : (-(u.a - v.a)) % p = 0 := Int.emod_eq_zero_of_dvd (Int.dvd_neg.mpr (Int.dvd_of_emod_eq_zero hd))
    rw [e2, hd]
  · rw [neg_mod h hd]
    split <;> split <;> omega
theorem tt_comm {p s f : Int} {u v : Lk} (h : 0 < p) : tt p s f u v = tt p s f v u := by
  unfold tt
  rw [way_comm h]
  have e : (if u.b = v.b then (0 : Int) else f) = if v.b = u.b then 0 else f := by
    by_cases e : u.b = v.b
    · rw [if_pos e, if_pos e.symm]
    · rw [if_neg e, if_neg fun z => e z.symm]
  rw [e]
theorem way_tri {p : Int} {u v x : Lk} (h : 0 < p) : way p u v ≤ way p u x + way p x v := by
  unfold way
  have a1 := Int.emod_nonneg (u.a - v.a) (by omega : p ≠ 0)
  have a2 := Int.emod_lt_of_pos (u.a - v.a) h
  have b1 := Int.emod_nonneg (u.a - x.a) (by omega : p ≠ 0)
  have b2 := Int.emod_lt_of_pos (u.a - x.a) h
  have c1 := Int.emod_nonneg (x.a - v.a) (by omega : p ≠ 0)
  have c2 := Int.emod_lt_of_pos (x.a - v.a) h
  have e : (u.a - v.a) % p = ((u.a - x.a) % p + (x.a - v.a) % p) % p := by
    rw [← Int.add_emod]
    congr 1
    omega
  have e2 : (u.a - v.a) % p = (u.a - x.a) % p + (x.a - v.a) % p ∨ (u.a - v.a) % p = (u.a - x.a) % p + (x.a - v.a) % p - p := by
    rw [e]
    by_cases hl : (u.a - x.a) % p + (x.a - v.a) % p < p
    · exact .inl (Int.emod_eq_of_lt (by omega) hl)
    · refine .inr ?_
      rw [← Int.sub_emod_right, Int.emod_eq_of_lt (by omega) (by omega)]
  generalize (u.a - v.a) % p = A at *
  generalize (u.a - x.a) % p = B at *
  generalize (x.a - v.a) % p = C at *
  split <;> split <;> split <;> omega
theorem ceil_tri {a b c s : Int} (hs : 0 < s) (h : a ≤ b + c) : (a + s - 1) / s ≤ (b + s - 1) / s + (c + s - 1) / s := by
  have hb := Int.lt_mul_ediv_self_add (x := b + s - 1) hs
  have hc := Int.lt_mul_ediv_self_add (x := c + s - 1) hs
  have : (a + s - 1) / s < (b + s - 1) / s + (c + s - 1) / s + 1 := by
    apply Int.ediv_lt_of_lt_mul hs
    rw [Int.add_mul, Int.add_mul, Int.mul_comm _ s, Int.mul_comm _ s]
    omega
  omega
theorem ceil_nn {a s : Int} (hs : 0 < s) (h : 0 ≤ a) : 0 ≤ (a + s - 1) / s := Int.ediv_nonneg (by omega) (by omega)
theorem tt_tri {p s f : Int} {u v x : Lk} (h : 0 < p) (hs : 0 < s) (hf : 0 ≤ f) : tt p s f u v ≤ tt p s f u x + tt p s f x v := by
  have h1 := ceil_tri hs (way_tri (u := u) (v := v) (x := x) h)
  have h2 := ceil_nn hs (way_nn (u := u) (v := x) h)
  have h3 := ceil_nn hs (way_nn (u := x) (v := v) h)
  unfold tt
  generalize (way p u v + s - 1) / s = A at *
  generalize (way p u x + s - 1) / s = B at *
  generalize (way p x v + s - 1) / s = C at *
  by_cases e1 : u.b = v.b <;> by_cases e2 : u.b = x.b <;> by_cases e3 : x.b = v.b <;> simp only [e1, e2, e3, if_true, if_false] <;> (repeat' split) <;> omega
theorem tt_nn {p s f : Int} {u v : Lk} (h : 0 < p) (hs : 0 < s) : 0 ≤ tt p s f u v := by
  have h2 := ceil_nn hs (way_nn (u := u) (v := v) h)
  unfold tt
  generalize (way p u v + s - 1) / s = A at *
  split <;> omega
end K06
namespace K06
open PySem (Str PyData)
open EV
/-! ### orders -/
def ostep (n : Nat) (rows : List (List Nat)) : List (List Nat) := rows.flatMap fun row => ((List.range n).filter fun i => !row.contains i).map fun i => row ++ [i]
def ords (n : Nat) : Nat → List (List Nat)
  | 0 => [[]]
  | k + 1 => ostep n (ords n k)
def eo (row : List Nat) : D := .tup (row.map nD)
theorem ostep_len (n : Nat) (rows : List (List Nat)) : (ostep n rows).length ≤ rows.length * n := by
  unfold ostep
  induction rows with
  | nil => simp
  | cons a l ih =>
    rw [List.flatMap_cons, List.length_append, List.length_map, List.length_cons, Nat.add_mul]
    have := List.length_filter_le (fun i => !a.contains i) (List.range n)
    rw [List.length_range] at this
    omega
theorem ords_len (n : Nat) : ∀ k, (ords n k).length ≤ n ^ k
  | 0 => by simp [ords]
  | k + 1 => by
    have := ostep_len n (ords n k)
    have h2 := Nat.mul_le_mul_right n (ords_len n k)
    rw [Nat.pow_succ]
    show (ostep n (ords n k)).length ≤ _
    omega
theorem ords_bound {n k : Nat} (hn : n ≤ 7) (hk : k ≤ 7) : (ords n k).length ≤ 823543 := by
  have h := ords_len n k
  by_cases h0 : n = 0
  · subst h0
    have : (0 : Nat) ^ k ≤ 1 := by
      cases k <;> simp
    omega
  · have h1 : n ^ k ≤ n ^ 7 := Nat.pow_le_pow_right (by omega) hk
    have h2 : n ^ 7 ≤ 7 ^ 7 := Nat.pow_le_pow_left hn 7
    omega
theorem ords_mem {n : Nat} : ∀ {k : Nat} {row : List Nat}, row ∈ ords n k → row.length = k ∧ (∀ i ∈ row, i < n) ∧ row.Nodup
  | 0, row, h => by
    simp [ords] at h
    subst h
    simp
  | k + 1, row, h => by
    simp only [ords, ostep, List.mem_flatMap, List.mem_map, List.mem_filter, List.mem_range] at h
    obtain ⟨r0, h0, i, ⟨hi, hc⟩, rfl⟩ := h
    obtain ⟨e1, e2, e3⟩ := ords_mem h0
    refine ⟨by simp [e1], fun j hj => ?_, ?_⟩
    · rcases List.mem_append.mp hj with hj | hj
      · exact e2 j hj
      · rw [List.mem_singleton.mp hj]; exact hi
    · rw [List.nodup_append]
      refine ⟨e3, by simp, fun a ha b hb => ?_⟩
      rw [List.mem_singleton.mp hb]
      rintro rfl
      simp [ha] at hc
theorem any_nat (l : List Nat) (k : Nat) : (l.any fun a => (a : Int) == (k : Int)) = l.contains k := by
  induction l with
  | nil => rfl
  | cons a l ih =>
    rw [List.any_cons, ih, List.contains_cons]
    congr 1
    rw [Bool.eq_iff_iff]
    simp
    omega
theorem ostep_take {n : Nat} {rows : List (List Nat)} {j : Nat} (h : j < rows.length) : ostep n (rows.take (j + 1)) = ostep n (rows.take j) ++ ((List.range n).filter fun i => !(rows[j]).contains i).map fun i => rows[j] ++ [i] := by
  unfold ostep
  rw [List.take_succ_eq_append_getElem h, List.flatMap_append]
  simp
theorem orders_W {n : Nat} {st : Sto} {Q : D → Sto → Prop} (hn : n ≤ 7) : W (s_orders_of [.int n] st) Q ↔ Q (.lst ((ords n n).map eo)) st := by
  refine fact (fDef_W rfl ?_)
  simp [b_orders_of, begin_, LIM]
  refine ⟨rng_ok (by omega), ?_⟩
  rw [rng_nat]
  simp only [forGo]
  refine for_ix (fun i r s => s = st ∧ ∃ x2 x3 x4 x5, r = [some (.int n), some (.lst ((ords n i).map eo)), x2, x3, x4, x5]) ⟨rfl, none, none, none, none, by simp [ords, eo]⟩ (fun i hi r s h => ?_) (fun r s h => ?_)
  · obtain ⟨rfl, x2, x3, x4, x5, rfl⟩ := h
    simp at hi
    simp [forGo]
    have hb := ords_bound (n := n) (k := i + 1) hn (by omega)
    refine for_ix (fun j r s' => s' = s ∧ ∃ x4 x5, r = [some (.int n), some (.lst ((ords n i).map eo)), some (.int i), some (.lst ((ostep n ((ords n i).take j)).map eo)), x4, x5]) ⟨rfl, x4, x5, by simp [ostep]⟩ (fun j hj r s' h => ?_) (fun r s' h => ?_)
    · obtain ⟨rfl, x4, x5, rfl⟩ := h
      simp at hj
      simp
      rw [wLc]
      simp [wipeE, rng_ok (show n < 2 ^ 60 by omega), rng_nat, lcGo]
      refine lc_pure (List.range n) nD (fun k => !((ords n i)[j]).contains k) (fun k => eo ((ords n i)[j] ++ [k])) (fun k hk => ?_) ?_
      · simp only [eo, vNotIn_m, LIM]
        have hm := ords_mem (List.getElem_mem hj)
        simp [eo, vNotIn_m, LIM, any_nat]
        intro _
        omega
      · have e : (((List.range n).filter fun k => !((ords n i)[j]).contains k).map fun k => eo ((ords n i)[j] ++ [k])) = (((List.range n).filter fun k => !((ords n i)[j]).contains k).map fun k => (ords n i)[j] ++ [k]).map eo := by
          rw [List.map_map]; rfl
        have l1 := ostep_len n ((ords n i).take (j + 1))
        have l2 : (ostep n ((ords n i).take (j + 1))).length ≤ 823543 * 7 := by
          have h3 : ((ords n i).take (j + 1)).length ≤ 823543 := by
            rw [List.length_take]
            have := ords_bound (n := n) (k := i) hn (by omega)
            omega
          exact Nat.le_trans l1 (Nat.mul_le_mul h3 hn)
        have h4 := ostep_take (n := n) hj
        rw [e, h4, List.map_append]
        rw [h4, List.length_append] at l2
        simp only [List.length_map, LIM] at l2 ⊢
        exact ⟨by omega, by omega, trivial, trivial⟩
    · obtain ⟨rfl, x4, x5, rfl⟩ := h
      simp [ords]
  · obtain ⟨rfl, x2, x3, x4, x5, rfl⟩ := h
    simp
end K06
namespace K06
open PySem (Str PyData)
open EV
/-! ### the time of an order -/
theorem enum_get {l : List D} {i : Nat} (h : i < (enumD l).length) : (enumD l)[i] = .tup [.int (i : Int), l[i]'(by simpa [enumD] using h)] := by
  simp [enumD]
theorem enum_len (l : List D) : (enumD l).length = l.length := by simp [enumD]
def lk (pl : List Lk) (i : Nat) : Lk := pl.getD i ⟨0, 0, 0⟩
def ro (row : List Nat) (i : Nat) : Nat := row.getD i 0
theorem lk_at {pl : List Lk} {i : Nat} (h : i < pl.length) : L2.atI (pl.map Lk.d) (i : Int) = some (lk pl i).d := by
  rw [at_nat (by simpa using h)]
  simp [lk, h]
theorem ro_at {row : List Nat} {i : Nat} (h : i < row.length) : L2.atI (row.map nD) (i : Int) = some (nD (ro row i)) := by
  rw [at_nat (by simpa using h)]
  simp [ro, h]
theorem ro_get {row : List Nat} {i : Nat} (h : i < row.length) : row[i] = ro row i := by simp [ro, h]
@[simp] theorem Lk_2 {l : Lk} {st : Sto} {Q : D → Prop} : V1 (oIdx st l.d (.int 2)) Q ↔ Q (.int l.c) := by simp [Lk.d]
section
variable {p s f : Int} {pl : List Lk} {row : List Nat}
def wS (p s f : Int) (pl : List Lk) (row : List Nat) : Nat → Int
  | 0 => 0
  | i + 1 => wS p s f pl row i + (if 0 < i then tt p s f (lk pl (ro row (i - 1))) (lk pl (ro row i)) else 0) + (lk pl (ro row i)).c
structure Good (p s f : Int) (pl : List Lk) : Prop where
  p1 : 1 ≤ p
  p2 : p ≤ 1000
  s1 : 1 ≤ s
  s2 : s ≤ 1000
  f1 : 0 ≤ f
  f2 : f ≤ 10000
  ok : ∀ l ∈ pl, l.ok p
theorem Good.at (g : Good p s f pl) {i : Nat} (h : i < pl.length) : (lk pl i).ok p := by
  have : lk pl i = pl[i] := by simp [lk, h]
  rw [this]
  exact g.ok _ (List.getElem_mem h)
abbrev RowOk (pl : List Lk) (row : List Nat) : Prop := ∀ i ∈ row, i < pl.length
theorem RowOk.at (h : RowOk pl row) {i : Nat} (hi : i < row.length) : ro row i < pl.length := by
  rw [← ro_get hi]
  exact h _ (List.getElem_mem hi)
theorem whole0_W {st : Sto} {Q : D → Sto → Prop} (g : Good p s f pl) (hr : RowOk pl row) : W (s_whole_time [.tup (pl.map Lk.d), eo row, .non, .int p, .int s, .int f] st) Q ↔ Q (.int (wS p s f pl row row.length)) st := by
  refine fact (fDef_W rfl ?_)
  simp [b_whole_time, begin_, eo, forGo]
  refine for_ix (fun i r s' => s' = st ∧ ∃ x7 x8, r = [some (.tup (pl.map Lk.d)), some (.tup (row.map nD)), some .non, some (.int p), some (.int s), some (.int f), some (.int (wS p s f pl row i)), x7, x8]) ⟨rfl, none, none, by simp [wS]⟩ (fun i hi r s' h => ?_) (fun r s' h => ?_)
  · obtain ⟨rfl, x7, x8, rfl⟩ := h
    rw [enum_len, List.length_map] at hi
    have hk := hr.at hi
    rw [enum_get (by rw [enum_len, List.length_map]; exact hi)]
    simp only [List.getElem_map, ro_get hi]
    by_cases h0 : i = 0
    · subst h0
      simp [wS, lk_at hk, Lk.d]
    · have e1 : (i : Int) - 1 = ((i - 1 : Nat) : Int) := by omega
      have hk2 := hr.at (i := i - 1) (by omega)
      simp [wS, lk_at hk, e1, show 0 < i by omega, ro_at (show i - 1 < row.length by omega), lk_at hk2]
      rw [time_W (g.at hk2) (g.at hk) (by have := g.p1; omega) (by have := g.s1; omega) g.s2]
      simp [lk_at hk, Lk.d]
  · obtain ⟨rfl, x7, x8, rfl⟩ := h
    simp [enum_len]
/-! ### with windows -/
def encW (w : Int × Int) : D := .tup [.int w.1, .int w.2]
def wi (ws : List (Int × Int)) (i : Nat) : Int × Int := ws.getD i (0, 0)
theorem wi_at {ws : List (Int × Int)} {i : Nat} (h : i < ws.length) : L2.atI (ws.map encW) (i : Int) = some (encW (wi ws i)) := by
  rw [at_nat (by simpa using h)]
  simp [wi, h]
@[simp] theorem W_0 {w : Int × Int} {st : Sto} {Q : D → Prop} : V1 (oIdx st (encW w) (.int 0)) Q ↔ Q (.int w.1) := by simp [encW]
@[simp] theorem W_1 {w : Int × Int} {st : Sto} {Q : D → Prop} : V1 (oIdx st (encW w) (.int 1)) Q ↔ Q (.int w.2) := by simp [encW]
def eS (p s f : Int) (pl : List Lk) (ws : List (Int × Int)) (row : List Nat) : Nat → Option Int
  | 0 => some 0
  | i + 1 => (eS p s f pl ws row i).bind fun now =>
    let a := now + (if 0 < i then tt p s f (lk pl (ro row (i - 1))) (lk pl (ro row i)) else 0)
    let b := if a < (wi ws (ro row i)).1 then (wi ws (ro row i)).1 else a
    if (wi ws (ro row i)).2 < b then none else some (b + (lk pl (ro row i)).c)
def oD : Option Int → D
  | none => .non
  | some t => .int t
theorem eS_none {ws : List (Int × Int)} {i : Nat} (h : eS p s f pl ws row i = none) : ∀ k, eS p s f pl ws row (i + k) = none
  | 0 => h
  | k + 1 => by
    show (eS p s f pl ws row (i + k)).bind _ = none
    rw [eS_none h k]; rfl
theorem eS_late {ws : List (Int × Int)} {i n : Nat} (hi : i ≤ n) (h : eS p s f pl ws row i = none) : eS p s f pl ws row n = none := by
  have := eS_none h (n - i)
  rwa [Nat.add_sub_cancel' hi] at this
theorem whole1_W {ws : List (Int × Int)} {st : Sto} {Q : D → Sto → Prop} (g : Good p s f pl) (hr : RowOk pl row) (hw : ws.length = pl.length) : W (s_whole_time [.tup (pl.map Lk.d), eo row, .tup (ws.map encW), .int p, .int s, .int f] st) Q ↔ Q (oD (eS p s f pl ws row row.length)) st := by
  refine fact (fDef_W rfl ?_)
  simp [b_whole_time, begin_, eo, forGo]
  refine for_ix (fun i r s' => s' = st ∧ ∃ t x7 x8, eS p s f pl ws row i = some t ∧ r = [some (.tup (pl.map Lk.d)), some (.tup (row.map nD)), some (.tup (ws.map encW)), some (.int p), some (.int s), some (.int f), some (.int t), x7, x8]) ⟨rfl, 0, none, none, rfl, rfl⟩ (fun i hi r s' h => ?_) (fun r s' h => ?_)
  · obtain ⟨rfl, t, x7, x8, et, rfl⟩ := h
    rw [enum_len, List.length_map] at hi
    have hk := hr.at hi
    have hk' : ro row i < ws.length := by rw [hw]; exact hk
    rw [enum_get (by rw [enum_len, List.length_map]; exact hi)]
    simp only [List.getElem_map, ro_get hi]
    have step : eS p s f pl ws row (i + 1) = (if (wi ws (ro row i)).2 < (if t + (if 0 < i then tt p s f (lk pl (ro row (i - 1))) (lk pl (ro row i)) else 0) < (wi ws (ro row i)).1 then (wi ws (ro row i)).1 else t + (if 0 < i then tt p s f (lk pl (ro row (i - 1))) (lk pl (ro row i)) else 0)) then none else some ((if t + (if 0 < i then tt p s f (lk pl (ro row (i - 1))) (lk pl (ro row i)) else 0) < (wi ws (ro row i)).1 then (wi ws (ro row i)).1 else t + (if 0 < i then tt p s f (lk pl (ro row (i - 1))) (lk pl (ro row i)) else 0)) + (lk pl (ro row i)).c)) := by
      show (eS p s f pl ws row i).bind _ = _
      rw [et]; rfl
    have late : eS p s f pl ws row (i + 1) = none → oD (eS p s f pl ws row row.length) = .non := fun h => by rw [eS_late (by omega) h]; rfl
    by_cases h0 : i = 0
    · subst h0
      simp only [Nat.lt_irrefl, if_false, Int.add_zero] at step
      simp [lk_at hk, wi_at hk']
      split <;> rename_i h1 <;> simp only [h1, if_true, if_false] at step <;> split <;> rename_i h2 <;> simp only [h2, if_true, if_false] at step <;> first | exact step | exact (late step).symm
    · have e1 : (i : Int) - 1 = ((i - 1 : Nat) : Int) := by omega
      have hk2 := hr.at (i := i - 1) (by omega)
      simp only [show 0 < i by omega, if_true] at step
      simp [lk_at hk, e1, show 0 < i by omega, ro_at (show i - 1 < row.length by omega), lk_at hk2, wi_at hk']
      rw [time_W (g.at hk2) (g.at hk) (by have := g.p1; omega) (by have := g.s1; omega) g.s2]
      simp [lk_at hk, wi_at hk']
      split <;> rename_i h1 <;> simp only [h1, if_true, if_false] at step <;> split <;> rename_i h2 <;> simp only [h2, if_true, if_false] at step <;> first | exact step | exact (late step).symm
  · obtain ⟨rfl, t, x7, x8, et, rfl⟩ := h
    simp [enum_len] at et ⊢
    rw [et]; rfl
end
end K06
namespace K06
open PySem (Str PyData)
open EV
/-! ### the best order -/
def iz (row : List Nat) : List Int := row.map fun (i : Nat) => (i : Int)
theorem eo_iz (row : List Nat) : eo row = .tup ((iz row).map D.int) := by
  unfold eo iz
  rw [List.map_map]; rfl
theorem app_lt {a b x y : List Int} (hl : a.length = b.length) (h : a < b) : a ++ x < b ++ y := by
  induction a generalizing b with
  | nil => cases b with
    | nil => exact absurd h (List.lt_irrefl _)
    | cons c b => simp at hl
  | cons c a ih =>
    cases b with
    | nil => simp at hl
    | cons d b =>
      rw [List.cons_append, List.cons_append, List.cons_lt_cons_iff]
      rcases List.cons_lt_cons_iff.mp h with h1 | ⟨h1, h2⟩
      · exact .inl h1
      · exact .inr ⟨h1, ih (by simpa using hl) h2⟩
theorem same_lt {a : List Int} {i j : Int} (h : i < j) : a ++ [i] < a ++ [j] := by
  induction a with
  | nil => exact List.cons_lt_cons_iff.mpr (.inl h)
  | cons c a ih => exact List.cons_lt_cons_iff.mpr (.inr ⟨rfl, ih⟩)
theorem ords_up (n : Nat) : ∀ k, (ords n k).Pairwise fun a b => iz a < iz b
  | 0 => by simp [ords]
  | k + 1 => by
    show (ostep n (ords n k)).Pairwise _
    unfold ostep
    rw [List.pairwise_flatMap]
    refine ⟨fun row hrow => ?_, ?_⟩
    · rw [List.pairwise_map]
      refine List.Pairwise.filter _ (List.Pairwise.imp ?_ List.pairwise_lt_range)
      intro i j hij
      unfold iz
      rw [List.map_append, List.map_append]
      exact same_lt (by simpa using hij)
    · refine List.Pairwise.imp_of_mem ?_ (ords_up n k)
      intro a b ha hb hab x hx y hy
      simp only [List.mem_map] at hx hy
      obtain ⟨i, _, rfl⟩ := hx
      obtain ⟨j, _, rfl⟩ := hy
      unfold iz at hab ⊢
      rw [List.map_append, List.map_append]
      exact app_lt (by simp [(ords_mem ha).1, (ords_mem hb).1]) hab
def bst (κ : List Nat → Option Int) (acc : Option (Int × List Nat)) (row : List Nat) : Option (Int × List Nat) := match κ row with
  | none => acc
  | some t => match acc with
    | none => some (t, row)
    | some a => if t < a.1 then some (t, row) else some a
def encB : Option (Int × List Nat) → D
  | none => .non
  | some a => .tup [.int a.1, eo a.2]
theorem best_W {p s f : Int} {pl : List Lk} {wD : D} {κ : List Nat → Option Int} {st : Sto} {Q : D → Sto → Prop} (hn : pl.length ≤ 7)
    (hκ : ∀ row ∈ ords pl.length pl.length, ∀ (st : Sto) (Q : D → Sto → Prop), W (s_whole_time [.tup (pl.map Lk.d), eo row, wD, .int p, .int s, .int f] st) Q ↔ Q (oD (κ row)) st) :
    W (s_best_order [.tup (pl.map Lk.d), wD, .int p, .int s, .int f] st) Q ↔ Q (encB ((ords pl.length pl.length).foldl (bst κ) none)) st := by
  refine fact (fDef_W rfl ?_)
  simp [b_best_order, begin_, orders_W hn, forGo]
  refine for_ix (fun i r s' => s' = st ∧ ∃ x6 x7, r = [some (.tup (pl.map Lk.d)), some wD, some (.int p), some (.int s), some (.int f), some (encB (((ords pl.length pl.length).take i).foldl (bst κ) none)), x6, x7]) ⟨rfl, none, none, by simp [encB]⟩ (fun i hi r s' h => ?_) (fun r s' h => ?_)
  · obtain ⟨rfl, x6, x7, rfl⟩ := h
    simp at hi
    have hm := List.getElem_mem hi
    have step : ((ords pl.length pl.length).take (i + 1)).foldl (bst κ) none = bst κ (((ords pl.length pl.length).take i).foldl (bst κ) none) (ords pl.length pl.length)[i] := by
      rw [List.take_succ_eq_append_getElem hi, List.foldl_append]; rfl
    rw [step]
    generalize ((ords pl.length pl.length).take i).foldl (bst κ) none = acc
    generalize hrow : (ords pl.length pl.length)[i] = row at *
    simp [hrow, hκ row hm]
    unfold bst
    cases hk : κ row with
    | none => simp [oD]
    | some t =>
      cases acc with
      | none => simp [oD, encB, LIM]
      | some a =>
        simp [oD, encB, LIM]
        by_cases hlt : t < a.1 <;> simp [hlt]
  · obtain ⟨rfl, x6, x7, rfl⟩ := h
    simp
/-- .. is the least one -/
def cands (κ : List Nat → Option Int) (rows : List (List Nat)) : List (Int × List Nat) := rows.filterMap fun row => (κ row).map fun t => (t, row)
theorem bst_cands (κ : List Nat → Option Int) : ∀ (rows : List (List Nat)) (acc : Option (Int × List Nat)), rows.foldl (bst κ) acc = (cands κ rows).foldl (fun acc c => match acc with | none => some c | some a => if c.1 < a.1 then some c else some a) acc
  | [], acc => rfl
  | row :: rows, acc => by
    rw [List.foldl_cons, bst_cands κ rows]
    unfold cands
    rw [List.filterMap_cons]
    cases hk : κ row with
    | none => simp [bst, hk]
    | some t =>
      simp only [Option.map_some, List.foldl_cons]
      unfold bst
      rw [hk]
theorem fold_some : ∀ (r : List (Int × List Nat)) (a : Int × List Nat), r.foldl (fun acc c => match acc with | none => some c | some a => if c.1 < a.1 then some c else some a) (some a) = some (r.foldl (fun a c => if c.1 < a.1 then c else a) a)
  | [], a => rfl
  | c :: r, a => by
    rw [List.foldl_cons, List.foldl_cons, ← fold_some r]
    congr 1
    by_cases h : c.1 < a.1 <;> simp [h]
def zc (c : Int × List Nat) : Int × List Int := (c.1, iz c.2)
theorem fold_zc : ∀ (r : List (Int × List Nat)) (a : Int × List Nat), zc (r.foldl (fun a c => if c.1 < a.1 then c else a) a) = (r.map zc).foldl (fun a c => if c.1 < a.1 then c else a) (zc a)
  | [], a => rfl
  | c :: r, a => by
    rw [List.foldl_cons, fold_zc r, List.map_cons, List.foldl_cons]
    congr 1
    show zc (if c.1 < a.1 then c else a) = if c.1 < a.1 then zc c else zc a
    split <;> rfl
theorem encB_zc (a : Int × List Nat) : encB (some a) = pD (zc a) := by
  show D.tup [.int a.1, eo a.2] = .tup [.int a.1, .tup ((iz a.2).map D.int)]
  rw [eo_iz]
theorem cands_up {κ : List Nat → Option Int} {rows : List (List Nat)} (h : rows.Pairwise fun a b => iz a < iz b) : ((cands κ rows).map zc).Pairwise fun x y => x.2 < y.2 := by
  rw [List.pairwise_map]
  unfold cands
  rw [List.pairwise_filterMap]
  refine List.Pairwise.imp ?_ h
  intro a b hab x hx y hy
  cases ha : κ a with
  | none => simp [ha] at hx
  | some t =>
    cases hb : κ b with
    | none => simp [hb] at hy
    | some u =>
      simp [ha] at hx
      simp [hb] at hy
      subst hx; subst hy
      exact hab
theorem best_least {κ : List Nat → Option Int} {rows : List (List Nat)} (h : rows.Pairwise fun a b => iz a < iz b) : encB (rows.foldl (bst κ) none) = match cands κ rows with
    | [] => .non
    | a :: r => least (encB (some a)) (r.map fun c => encB (some c)) := by
  rw [bst_cands]
  have up := cands_up (κ := κ) h
  cases e : cands κ rows with
  | nil => rfl
  | cons a r =>
    rw [e] at up
    show encB (r.foldl _ (some a)) = least _ _
    rw [fold_some, encB_zc, fold_zc]
    have e2 : (r.map fun c => encB (some c)) = (r.map zc).map pD := by
      rw [List.map_map]
      exact List.map_congr_left fun c _ => encB_zc c
    rw [e2, encB_zc, least_pairs _ _ (by simpa using up)]
theorem alk_cands (l : List (Int × List Nat)) : Alk (l.map fun c => encB (some c)) := by
  have e2 : (l.map fun c => encB (some c)) = (l.map zc).map pD := by
    rw [List.map_map]
    exact List.map_congr_left fun c _ => encB_zc c
  rw [e2]
  exact alk_pairs _
end K06
namespace K06
open PySem (Str PyData)
open EV
section
variable {p s f : Int} {pl : List Lk} {row : List Nat}
/-! ### the checks -/
theorem dat_lk (pl : List Lk) : datAll (pl.map Lk.d) = true := dat_map fun l _ => by simp [Lk.d, D.dat, datAll]
theorem cplaced_W {st : Sto} {Q : D → Sto → Prop} (g : Good p s f pl) (h1 : 1 ≤ pl.length) (h2 : pl.length ≤ 7) : W (s_check_placed [.tup (pl.map Lk.d), .int p] st) Q ↔ Q .non st := by
  refine fact (fDef_W rfl ?_)
  simp [b_check_placed, begin_, dat_lk]
  have e1 : (1 : Int) ≤ (pl.length : Int) := by omega
  have e2 : (pl.length : Int) ≤ 7 := by omega
  simp [e1, e2]
  rw [wLc]
  simp [wipeE, lcGo]
  refine lc_pureA pl Lk.d (fun _ => .bl true) (fun l hl => ?_) ?_
  · simp [placed_W (g.ok l hl)]
  · have e : (pl.map fun _ => D.bl true) = (pl.map fun _ => true).map D.bl := by rw [List.map_map]; rfl
    rw [e, bls_map]
    simp [LIM]
    omega
def WOk (ws : List (Int × Int)) : Prop := ∀ w ∈ ws, 0 ≤ w.1 ∧ w.1 ≤ 10000 ∧ 0 ≤ w.2 ∧ w.2 ≤ 10000
theorem cwin_W {ws : List (Int × Int)} {st : Sto} {Q : D → Sto → Prop} (hw : ws.length = pl.length) (h : WOk ws) : W (s_check_windows [.tup (pl.map Lk.d), .tup (ws.map encW)] st) Q ↔ Q .non st := by
  have dw : datAll (ws.map encW) = true := dat_map fun l _ => by simp [encW, D.dat, datAll]
  refine fact (fDef_W rfl ?_)
  simp [b_check_windows, begin_, dw, hw, forGo]
  refine for_ix (fun i r s' => s' = st ∧ ∃ x2 x3, r = [some (.tup (pl.map Lk.d)), some (.tup (ws.map encW)), x2, x3]) ⟨rfl, none, none, rfl⟩ (fun i hi r s' hh => ?_) (fun r s' hh => ?_)
  · obtain ⟨rfl, x2, x3, rfl⟩ := hh
    simp at hi
    obtain ⟨b1, b2, b3, b4⟩ := h _ (List.getElem_mem hi)
    rw [List.getElem_map]
    generalize ws[i] = w at *
    simp [encW, D.dat, datAll]
    rw [wLc]
    simp [wipeE, lcGo]
    have e : [D.int w.1, D.int w.2] = [w.1, w.2].map D.int := rfl
    rw [e]
    refine lc_pureA [w.1, w.2] D.int (fun _ => .bl true) (fun l hl => ?_) ?_
    · have hb : 0 ≤ l ∧ l ≤ 10000 := by
        simp at hl
        rcases hl with rfl | rfl <;> omega
      simp [between_W, hb.1, hb.2]
    · simp [bls, LIM]
  · obtain ⟨rfl, x2, x3, rfl⟩ := hh
    simp
abbrev perms (pl : List Lk) : List (List Nat) := ords pl.length pl.length
theorem rowOk {row : List Nat} (h : row ∈ perms pl) : RowOk pl row := fun i hi => (ords_mem h).2.1 i hi
def κ0 (p s f : Int) (pl : List Lk) (row : List Nat) : Option Int := some (wS p s f pl row row.length)
def κ1 (p s f : Int) (pl : List Lk) (ws : List (Int × Int)) (row : List Nat) : Option Int := eS p s f pl ws row row.length
theorem quick_W {st : Sto} {Q : D → Sto → Prop} (g : Good p s f pl) (h1 : 1 ≤ pl.length) (h2 : pl.length ≤ 7) : W (s_quickest [.tup (pl.map Lk.d), .int p, .int s, .int f] st) Q ↔ Q (encB ((perms pl).foldl (bst (κ0 p s f pl)) none)) st := by
  refine fact (fDef_W rfl ?_)
  have hb := fun (st : Sto) (Q : D → Sto → Prop) => best_W (st := st) (Q := Q) (p := p) (s := s) (f := f) (pl := pl) (wD := .non) (κ := κ0 p s f pl) h2 fun row hrow st Q => whole0_W g (rowOk hrow)
  simp [b_quickest, begin_, between_W, g.p1, g.p2, cplaced_W g h1 h2, numbers_W g.p1 g.p2 g.s1 g.s2 g.f1 g.f2, hb]
theorem right_W {ws : List (Int × Int)} {st : Sto} {Q : D → Sto → Prop} (g : Good p s f pl) (h1 : 1 ≤ pl.length) (h2 : pl.length ≤ 7) (hw : ws.length = pl.length) (ho : WOk ws) :
    W (s_right_order [.tup (pl.map Lk.d), .tup (ws.map encW), .int p, .int s, .int f] st) Q ↔ Q (match (perms pl).foldl (bst (κ1 p s f pl ws)) none with | none => .non | some a => eo a.2) st := by
  refine fact (fDef_W rfl ?_)
  have hb := fun (st : Sto) (Q : D → Sto → Prop) => best_W (st := st) (Q := Q) (p := p) (s := s) (f := f) (pl := pl) (wD := .tup (ws.map encW)) (κ := κ1 p s f pl ws) h2 fun row hrow st Q => whole1_W g (rowOk hrow) hw
  simp [b_right_order, begin_, between_W, g.p1, g.p2, cplaced_W g h1 h2, numbers_W g.p1 g.p2 g.s1 g.s2 g.f1 g.f2, hb, cwin_W hw ho]
  cases (perms pl).foldl (bst (κ1 p s f pl ws)) none with
  | none => simp [encB]
  | some a => simp [encB]
/-! ### backwards -/
def path (T : Nat → Nat → Int) : List Nat → Int
  | [] => 0
  | [_] => 0
  | a :: b :: r => T a b + path T (b :: r)
theorem path_snoc (T : Nat → Nat → Int) (x : Nat) : ∀ l : List Nat, path T (l ++ [x]) = path T l + (match l.getLast? with | none => 0 | some y => T y x)
  | [] => by simp [path]
  | [a] => by simp [path]
  | a :: b :: r => by
    have ih := path_snoc T x (b :: r)
    rw [List.getLast?_cons_cons]
    show T a b + path T ((b :: r) ++ [x]) = T a b + path T (b :: r) + _
    rw [ih]
    omega
theorem path_rev {T : Nat → Nat → Int} (h : ∀ a b, T a b = T b a) : ∀ l : List Nat, path T l.reverse = path T l
  | [] => rfl
  | [a] => rfl
  | a :: b :: r => by
    rw [List.reverse_cons, path_snoc, path_rev h (b :: r), List.getLast?_reverse]
    show path T (b :: r) + T b a = T a b + path T (b :: r)
    rw [h b a]
    omega
theorem wS_path : ∀ (i : Nat), i ≤ row.length → wS p s f pl row i = path (fun a b => tt p s f (lk pl a) (lk pl b)) (row.take i) + ((row.take i).map fun a => (lk pl a).c).sum
  | 0, _ => by simp [wS, path]
  | i + 1, h => by
    have hl : i < row.length := by omega
    rw [List.take_succ_eq_append_getElem hl, path_snoc, List.map_append, List.sum_append]
    show wS p s f pl row i + _ + _ = _
    rw [wS_path i (by omega), ro_get hl]
    by_cases h0 : i = 0
    · subst h0
      simp [path]
    · have e : (row.take i).getLast? = some (ro row (i - 1)) := by
        rw [List.getLast?_take, if_neg h0, List.getElem?_eq_getElem (by omega), ro_get (by omega)]
        rfl
      rw [e]
      simp [show 0 < i by omega]
      omega
theorem wS_rev (hp : 0 < p) : wS p s f pl row.reverse row.reverse.length = wS p s f pl row row.length := by
  rw [wS_path _ (Nat.le_refl _), wS_path _ (Nat.le_refl _), List.take_length, List.take_length, path_rev fun a b => tt_comm hp, List.map_reverse, List.sum_reverse]
/-! ### the least one, shown -/
theorem ords_range {n : Nat} : ∀ {k : Nat}, k ≤ n → List.range k ∈ ords n k
  | 0, _ => by simp [ords]
  | k + 1, h => by
    show List.range (k + 1) ∈ ostep n (ords n k)
    unfold ostep
    rw [List.mem_flatMap]
    refine ⟨List.range k, ords_range (by omega), ?_⟩
    rw [List.mem_map]
    refine ⟨k, ?_, List.range_succ.symm⟩
    rw [List.mem_filter]
    exact ⟨List.mem_range.mpr (by omega), by simp⟩
theorem bst_mem {κ : List Nat → Option Int} : ∀ {rows : List (List Nat)} {acc : Option (Int × List Nat)} {a : Int × List Nat}, rows.foldl (bst κ) acc = some a → acc = some a ∨ (κ a.2 = some a.1 ∧ a.2 ∈ rows)
  | [], acc, a, h => .inl h
  | row :: rows, acc, a, h => by
    rw [List.foldl_cons] at h
    rcases bst_mem h with h | ⟨h1, h2⟩
    · unfold bst at h
      cases hk : κ row with
      | none => rw [hk] at h; exact .inl h
      | some t =>
        rw [hk] at h
        cases acc with
        | none =>
          cases h
          exact .inr ⟨hk, List.mem_cons_self⟩
        | some b =>
          replace h : (if t < b.1 then some (t, row) else some b) = some a := h
          split at h
          · cases h
            exact .inr ⟨hk, List.mem_cons_self⟩
          · exact .inl h
    · exact .inr ⟨h1, List.mem_cons_of_mem _ h2⟩
theorem min_cands {κ : List Nat → Option Int} {rows : List (List Nat)} {st : Sto} {Q : D → Prop} (h : rows.Pairwise fun a b => iz a < iz b) (hn : cands κ rows ≠ []) :
    V1 (bMin st [.lst ((cands κ rows).map fun c => encB (some c))]) Q ↔ Q (encB (rows.foldl (bst κ) none)) := by
  rw [best_least h]
  cases e : cands κ rows with
  | nil => exact absurd e hn
  | cons a r =>
    rw [List.map_cons, vMin_l]
    have := alk_cands (a :: r)
    rw [List.map_cons] at this
    simp [this]
theorem way_le (hp : 0 < p) {u v : Lk} : way p u v ≤ p := by
  unfold way
  have h1 := Int.emod_nonneg (u.a - v.a) (by omega : p ≠ 0)
  have h2 := Int.emod_lt_of_pos (u.a - v.a) hp
  split <;> omega
theorem tt_le (g : Good p s f pl) {u v : Lk} : 0 ≤ tt p s f u v ∧ tt p s f u v ≤ 20000 := by
  have hp : 0 < p := by have := g.p1; omega
  have hs : 0 < s := by have := g.s1; omega
  have h1 := way_le hp (u := u) (v := v)
  have h2 := way_nn hp (u := u) (v := v)
  have h3 := ceil_nn hs h2
  have h4 : (way p u v + s - 1) / s ≤ way p u v + s - 1 := Int.ediv_le_self _ (by omega)
  have := g.p2; have := g.s2; have := g.f1; have := g.f2
  unfold tt
  generalize (way p u v + s - 1) / s = A at *
  by_cases e : u.b = v.b <;> simp only [e, if_true, if_false] <;> split <;> omega
theorem wS_le (g : Good p s f pl) (hr : RowOk pl row) : ∀ i, i ≤ row.length → 0 ≤ wS p s f pl row i ∧ wS p s f pl row i ≤ 40000 * i
  | 0, _ => by simp [wS]
  | i + 1, h => by
    obtain ⟨h1, h2⟩ := wS_le g hr i (by omega)
    have h3 := tt_le g (u := lk pl (ro row (i - 1))) (v := lk pl (ro row i))
    have h4 := g.at (hr.at (show i < row.length by omega))
    obtain ⟨_, _, c1, c2⟩ := h4
    show 0 ≤ wS p s f pl row i + _ + _ ∧ wS p s f pl row i + _ + _ ≤ _
    split <;> omega
theorem eS_le {ws : List (Int × Int)} (g : Good p s f pl) (hr : RowOk pl row) (hw : ws.length = pl.length) (ho : WOk ws) : ∀ i t, i ≤ row.length → eS p s f pl ws row i = some t → 0 ≤ t ∧ t ≤ 50000 * i
  | 0, t, _, e => by cases e; simp
  | i + 1, t, h, e => by
    have e : (eS p s f pl ws row i).bind _ = some t := e
    obtain ⟨u, e1, e2⟩ := Option.bind_eq_some_iff.mp e
    obtain ⟨h1, h2⟩ := eS_le g hr hw ho i u (by omega) e1
    have h3 := tt_le g (u := lk pl (ro row (i - 1))) (v := lk pl (ro row i))
    have hk := hr.at (show i < row.length by omega)
    obtain ⟨_, _, c1, c2⟩ := g.at hk
    have hwi : wi ws (ro row i) ∈ ws := by
      have : wi ws (ro row i) = ws[ro row i]'(by omega) := by simp [wi, hw, hk]
      rw [this]
      exact List.getElem_mem _
    obtain ⟨d1, d2, d3, d4⟩ := ho _ hwi
    have hT : 0 ≤ (if 0 < i then tt p s f (lk pl (ro row (i - 1))) (lk pl (ro row i)) else 0) ∧ (if 0 < i then tt p s f (lk pl (ro row (i - 1))) (lk pl (ro row i)) else 0) ≤ 20000 := by
      split <;> omega
    simp only at e2
    generalize (if 0 < i then tt p s f (lk pl (ro row (i - 1))) (lk pl (ro row i)) else 0) = T at *
    by_cases q : (wi ws (ro row i)).2 < if u + T < (wi ws (ro row i)).1 then (wi ws (ro row i)).1 else u + T
    · rw [if_pos q] at e2; cases e2
    · rw [if_neg q] at e2
      have e3 := Option.some.inj e2
      clear e2 q
      split at e3 <;> omega
theorem nice_best {a : Int × List Nat} {n : Nat} (h0 : a.1.natAbs < 10 ^ 18) (hr : ∀ i ∈ a.2, i < n) (hn : n < 1000) (hl : a.2.length ≤ 1000) : (encB (some a)).nice = true ∧ (encB (some a)).cnt ≤ 8000 ∧ (encB (some a)).py.depth ≤ 60 := by
  rw [encB_zc]
  refine ⟨nice_pair h0 fun i hi => ?_, ?_, depth_pair _⟩
  · simp only [zc, iz, List.mem_map] at hi
    obtain ⟨j, hj, rfl⟩ := hi
    have := hr j hj
    omega
  · rw [cnt_pair]
    simp [zc, iz]
    omega
theorem nice_row {row : List Nat} {n : Nat} (hr : ∀ i ∈ row, i < n) (hn : n < 1000) (hl : row.length ≤ 1000) : (eo row).nice = true ∧ (eo row).cnt ≤ 8000 ∧ (eo row).py.depth ≤ 60 := by
  rw [eo_iz]
  refine ⟨?_, ?_, depth_ints_ _⟩
  · rw [D.nice]
    refine nice_ints fun i hi => ?_
    simp only [iz, List.mem_map] at hi
    obtain ⟨j, hj, rfl⟩ := hi
    have := hr j hj
    omega
  · rw [D.cnt, cnt_ints]
    simp [iz]
    omega
theorem nice_non : D.non.nice = true ∧ D.non.cnt ≤ 8000 ∧ D.non.py.depth ≤ 60 := by
  refine ⟨rfl, by simp [D.cnt], by simp [D.py, PyData.depth]⟩
end
end K06
namespace K06
open PySem (Str PyData)
open EV DPR
@[simp] theorem vInt_b {st : Sto} {b : Bool} {Q : D → Prop} : V1 (bInt st [.bl b]) Q ↔ Q (.int (if b = true then 1 else 0)) := V1_some
theorem ceil_eq {x s : Int} (hs : 0 < s) : x / s + (if 0 < x % s then 1 else 0) = (x + s - 1) / s := by
  have h1 := Int.mul_ediv_add_emod x s
  have h2 := Int.emod_nonneg x (b := s) (by omega)
  have h3 := Int.emod_lt_of_pos x hs
  refine Int.le_antisymm ((Int.le_ediv_iff_mul_le hs).mpr ?_) (Int.le_of_lt_add_one ((Int.ediv_lt_iff_lt_mul hs).mpr ?_))
  · rw [Int.add_mul, Int.mul_comm (x / s) s]
    split
    · omega
    · omega
  · rw [Int.add_mul, Int.add_mul, Int.mul_comm (x / s) s]
    split
    · omega
    · omega
section
variable {p s f : Int} {u v : Lk} {st : Sto} {Q : D → Sto → Prop} {pl : List Lk}
abbrev dm (p s f : Int) : D := .tup [.int p, .int s, .int f]
theorem lturn_W (h1 : 0 < p) (h3 : 0 < s) (h4 : s ≤ 1000) (hf : 0 ≤ f) : W (s__law_turn [u.d, v.d, dm p s f] st) Q ↔ Q (.int (tt p s f u v)) st := by
  refine fact (fDef_W rfl ?_)
  have hw : way p u v = if 2 * ((v.a - u.a) % p) ≤ p then (v.a - u.a) % p else p - (v.a - u.a) % p := by
    rw [way_comm h1]
    unfold way
    split <;> split <;> omega
  have hc := ceil_eq (x := way p u v) h3
  have hn : 0 ≤ (way p u v + s - 1) / s := ceil_nn h3 (way_nn h1)
  simp [b__law_turn, begin_, Lk.d]
  refine ⟨h1, mul_small (by omega), ?_⟩
  have key : ∀ y : Int, y = way p u v → ((0 < s ∧ s.natAbs.log2 < 9000) ∧ 0 < s ∧ if u.b = v.b then (y / s + if 0 < y % s then 1 else 0) = tt p s f u v else if f < y / s + (if 0 < y % s then 1 else 0) then (y / s + if 0 < y % s then 1 else 0) = tt p s f u v else f = tt p s f u v) := by
    intro y hy
    subst hy
    refine ⟨⟨h3, log_small h3 (by omega)⟩, h3, ?_⟩
    rw [hc]
    unfold tt
    by_cases e : u.b = v.b
    · rw [if_pos e, if_pos e, if_neg (by omega)]
    · rw [if_neg e, if_neg e]
      by_cases e2 : f < (way p u v + s - 1) / s
      · rw [if_pos e2, if_neg (by omega)]
      · rw [if_neg e2]
        split <;> omega
  by_cases e : 2 * ((v.a - u.a) % p) ≤ p
  · rw [if_pos e] at hw
    rw [if_pos e]
    exact key _ hw.symm
  · rw [if_neg e] at hw
    rw [if_neg e]
    exact key _ hw.symm
/-- the law's own end of an order -/
theorem lend_W {row : List Nat} {ws : List (Int × Int)} (g : Good p s f pl) (hr : RowOk pl row) (hw : ws.length = pl.length) (hz : row.length < 2 ^ 60) : W (s__law_end [.tup (pl.map Lk.d), .tup (ws.map encW), eo row, dm p s f] st) Q ↔ Q (oD (eS p s f pl ws row row.length)) st := by
  refine fact (fDef_W rfl ?_)
  simp [b__law_end, begin_, eo, forGo]
  refine ⟨rng_ok hz, ?_⟩
  rw [rng_nat]
  refine for_ix (fun i r s' => s' = st ∧ ∃ t x5 x6, eS p s f pl ws row i = some t ∧ r = [some (.tup (pl.map Lk.d)), some (.tup (ws.map encW)), some (.tup (row.map nD)), some (dm p s f), some (.int t), x5, x6]) ⟨rfl, 0, none, none, rfl, rfl⟩ (fun i hi r s' h => ?_) (fun r s' h => ?_)
  · obtain ⟨rfl, t, x5, x6, et, rfl⟩ := h
    have hi : i < row.length := by simpa using hi
    have hk := hr.at hi
    have hk' : ro row i < ws.length := by rw [hw]; exact hk
    have step : eS p s f pl ws row (i + 1) = (if (wi ws (ro row i)).2 < (if t + (if 0 < i then tt p s f (lk pl (ro row (i - 1))) (lk pl (ro row i)) else 0) < (wi ws (ro row i)).1 then (wi ws (ro row i)).1 else t + (if 0 < i then tt p s f (lk pl (ro row (i - 1))) (lk pl (ro row i)) else 0)) then none else some ((if t + (if 0 < i then tt p s f (lk pl (ro row (i - 1))) (lk pl (ro row i)) else 0) < (wi ws (ro row i)).1 then (wi ws (ro row i)).1 else t + (if 0 < i then tt p s f (lk pl (ro row (i - 1))) (lk pl (ro row i)) else 0)) + (lk pl (ro row i)).c)) := by
      show (eS p s f pl ws row i).bind _ = _
      rw [et]; rfl
    have mx : ∀ a b : Int, (if a < b then b else a) = if b < a then a else b := fun a b => by split <;> split <;> omega
    have late : eS p s f pl ws row (i + 1) = none → oD (eS p s f pl ws row row.length) = .non := fun h => by rw [eS_late (by omega) h]; rfl
    by_cases h0 : i = 0
    · subst h0
      simp only [Nat.lt_irrefl, if_false, Int.add_zero] at step
      rw [mx] at step
      have ra := ro_at hi
      simp only [Int.natCast_zero] at ra
      simp [ra, lk_at hk, wi_at hk']
      split <;> rename_i h1 <;> simp only [h1, if_true, if_false] at step <;> split <;> rename_i h2 <;> simp only [h2, if_true, if_false] at step <;> first | exact step | exact (late step).symm
    · have e1 : (i : Int) - 1 = ((i - 1 : Nat) : Int) := by omega
      have hk2 := hr.at (i := i - 1) (by omega)
      simp only [show 0 < i by omega, if_true] at step
      rw [mx] at step
      simp [ro_at hi, lk_at hk, e1, show 0 < i by omega, ro_at (show i - 1 < row.length by omega), lk_at hk2, wi_at hk']
      rw [lturn_W (by have := g.p1; omega) (by have := g.s1; omega) g.s2 g.f1]
      simp [lk_at hk, wi_at hk']
      split <;> rename_i h1 <;> simp only [h1, if_true, if_false] at step <;> split <;> rename_i h2 <;> simp only [h2, if_true, if_false] at step <;> first | exact step | exact (late step).symm
  · obtain ⟨rfl, t, x5, x6, et, rfl⟩ := h
    simp at et ⊢
    rw [et]; rfl
end
end K06
namespace K06
open PySem (Str PyData)
open EV DPR
section
variable {p s f : Int} {pl : List Lk} {ws : List (Int × Int)}
theorem ro_app {r x : List Nat} {i : Nat} (h : i < r.length) : ro (r ++ x) i = ro r i := by
  unfold ro
  rw [List.getD_eq_getElem?_getD, List.getD_eq_getElem?_getD, List.getElem?_append_left h]
theorem eS_app {r x : List Nat} : ∀ i, i ≤ r.length → eS p s f pl ws (r ++ x) i = eS p s f pl ws r i
  | 0, _ => rfl
  | i + 1, h => by
    show (eS p s f pl ws (r ++ x) i).bind _ = (eS p s f pl ws r i).bind _
    rw [eS_app i (by omega), ro_app (by omega : i < r.length)]
    by_cases h0 : 0 < i
    · rw [ro_app (by omega : i - 1 < r.length)]
    · simp [h0]
abbrev E (p s f : Int) (pl : List Lk) (ws : List (Int × Int)) (r : List Nat) : Option Int := eS p s f pl ws r r.length
def wstep (p s f : Int) (pl : List Lk) (ws : List (Int × Int)) (i : Nat) (t : Int) (k : Nat) : Option Int :=
  if (wi ws k).2 < (if (wi ws k).1 < t + tt p s f (lk pl i) (lk pl k) then t + tt p s f (lk pl i) (lk pl k) else (wi ws k).1) then none else some ((if (wi ws k).1 < t + tt p s f (lk pl i) (lk pl k) then t + tt p s f (lk pl i) (lk pl k) else (wi ws k).1) + (lk pl k).c)
def lastN (r : List Nat) : Nat := r.getLastD 0
theorem lastN_snoc (r : List Nat) (k : Nat) : lastN (r ++ [k]) = k := by simp [lastN]
theorem lastN_ro {r : List Nat} (h : r ≠ []) : lastN r = ro r (r.length - 1) := by
  unfold lastN ro
  rw [List.getLastD_eq_getLast?, List.getLast?_eq_getElem?, List.getD_eq_getElem?_getD]
theorem E_snoc {r : List Nat} {k : Nat} (h : r ≠ []) : E p s f pl ws (r ++ [k]) = (E p s f pl ws r).bind fun t => wstep p s f pl ws (lastN r) t k := by
  have hl := List.length_pos_iff.mpr h
  show eS p s f pl ws (r ++ [k]) (r ++ [k]).length = _
  rw [List.length_append, List.length_singleton]
  show (eS p s f pl ws (r ++ [k]) r.length).bind _ = _
  rw [eS_app _ (Nat.le_refl _), lastN_ro h]
  refine congrArg _ (funext fun t => ?_)
  have e1 : ro (r ++ [k]) r.length = k := by simp [ro]
  have e2 : ro (r ++ [k]) (r.length - 1) = ro r (r.length - 1) := ro_app (by omega)
  have mx : ∀ a b : Int, (if a < b then b else a) = if b < a then a else b := fun a b => by split <;> split <;> omega
  unfold wstep
  simp only [e1, e2, hl, if_true]
  rw [mx]
theorem E_one {k : Nat} (h0 : 0 ≤ (wi ws k).1) : E p s f pl ws [k] = if (wi ws k).2 < (wi ws k).1 then none else some ((wi ws k).1 + (lk pl k).c) := by
  have e1 : ro [k] 0 = k := rfl
  show (some (0 : Int)).bind _ = _
  rw [Option.bind_some]
  simp only [e1, Nat.lt_irrefl, if_false, Int.add_zero]
  by_cases h : 0 < (wi ws k).1
  · simp [h]
  · have : (wi ws k).1 = 0 := by omega
    simp [this]
def sysE (p s f : Int) (pl : List Lk) (ws : List (Int × Int)) : Sys where
  L := pl.length
  nd := lastN
  F := E p s f pl ws
  V := fun r => r ≠ [] ∧ r.Nodup ∧ ∀ i ∈ r, i < pl.length
  base := fun r => r.length = 1
  step := wstep p s f pl ws
  nodes := List.range pl.length
theorem snoc_of : ∀ {r : List Nat}, r ≠ [] → ∃ r1 k, r = r1 ++ [k] := fun {r} h => ⟨r.dropLast, r.getLast h, (List.dropLast_concat_getLast h).symm⟩
theorem nodup_snoc {r : List Nat} {k : Nat} : (r ++ [k]).Nodup ↔ r.Nodup ∧ k ∉ r := by
  rw [List.nodup_append]
  constructor
  · rintro ⟨h1, _, h3⟩
    exact ⟨h1, fun z => h3 k z k (by simp) rfl⟩
  · rintro ⟨h1, h2⟩
    refine ⟨h1, by simp, fun a ha b hb e => ?_⟩
    rw [List.mem_singleton.mp hb] at e
    exact h2 (e ▸ ha)
theorem sysE_ok : (sysE p s f pl ws).ok where
  nodup := fun r h => h.2.1
  lt := fun r h => h.2.2
  split := fun r h => by
    obtain ⟨r1, k, rfl⟩ := snoc_of h.1
    by_cases e : r1 = []
    · subst e; exact .inl rfl
    · exact .inr ⟨r1, k, rfl, e, (nodup_snoc.mp h.2.1).1, fun i hi => h.2.2 i (List.mem_append_left _ hi)⟩
  snoc := fun r k h hk hn => ⟨by simp, nodup_snoc.mpr ⟨h.2.1, hn⟩, fun i hi => by
    rcases List.mem_append.mp hi with hi | hi
    · exact h.2.2 i hi
    · rw [List.mem_singleton.mp hi]; exact hk⟩
  run := fun r k h _ => E_snoc h.1
  mono := fun i t t' k y h e => by
    change wstep p s f pl ws i t' k = some y at e
    show ∃ x, wstep p s f pl ws i t k = some x ∧ x ≤ y
    unfold wstep at e ⊢
    have hle : (if (wi ws k).1 < t + tt p s f (lk pl i) (lk pl k) then t + tt p s f (lk pl i) (lk pl k) else (wi ws k).1) ≤ (if (wi ws k).1 < t' + tt p s f (lk pl i) (lk pl k) then t' + tt p s f (lk pl i) (lk pl k) else (wi ws k).1) := by split <;> split <;> omega
    generalize (if (wi ws k).1 < t + tt p s f (lk pl i) (lk pl k) then t + tt p s f (lk pl i) (lk pl k) else (wi ws k).1) = b at *
    generalize (if (wi ws k).1 < t' + tt p s f (lk pl i) (lk pl k) then t' + tt p s f (lk pl i) (lk pl k) else (wi ws k).1) = b' at *
    by_cases h1 : (wi ws k).2 < b'
    · rw [if_pos h1] at e; cases e
    · rw [if_neg h1] at e
      cases e
      rw [if_neg (by omega)]
      exact ⟨_, rfl, by omega⟩
  node := fun r h => by
    obtain ⟨r1, k, rfl⟩ := snoc_of h.1
    show lastN (r1 ++ [k]) ∈ List.range pl.length
    rw [lastN_snoc]
    exact List.mem_range.mpr (h.2.2 k (by simp))
end
end K06
namespace K06
open PySem (Str PyData)
open EV DPR
section
variable {p s f : Int} {pl : List Lk} {ws : List (Int × Int)} {st : Sto} {Q : D → Sto → Prop}
abbrev dT (m : Tb) : Cell := cD kII D.int m
def EI (p s f : Int) (pl : List Lk) (ws : List (Int × Int)) (st : Sto) (i : Nat) (r : Env) (s' : Sto) : Prop := ∃ m : Tb, s' = st ++ [dT m] ∧ (sysE p s f pl ws).Snd m ∧ (∀ k t, k < i → E p s f pl ws [k] = some t → look m (1 <<< k, k) = some t) ∧ (∀ key v, look m key = some v → ∃ k, k < i ∧ key = (1 <<< k, k)) ∧ m.length ≤ i ∧
  ∃ a3, r = [some (.tup (pl.map Lk.d)), some (.tup (ws.map encW)), some (dm p s f), a3, none, some (.int pl.length), some (.ref st.length), none, none, none]
def EM (p s f : Int) (pl : List Lk) (ws : List (Int × Int)) (st : Sto) (a : Nat) (r : Env) (s' : Sto) : Prop := ∃ m : Tb, s' = st ++ [dT m] ∧ (sysE p s f pl ws).Snd m ∧ (sysE p s f pl ws).Cmp ((sysE p s f pl ws).Dn (1 + a) [] 0 0) m ∧ m.length ≤ 7 + 49 * a ∧
  ∃ a3 a4 a7 a8 a9, r = [some (.tup (pl.map Lk.d)), some (.tup (ws.map encW)), some (dm p s f), a3, a4, some (.int pl.length), some (.ref st.length), a7, a8, a9]
def EN (p s f : Int) (pl : List Lk) (ws : List (Int × Int)) (st : Sto) (B mask i : Nat) (r : Env) (s' : Sto) : Prop := ∃ m : Tb, s' = st ++ [dT m] ∧ (sysE p s f pl ws).Snd m ∧ (sysE p s f pl ws).Cmp ((sysE p s f pl ws).Dn mask (List.range i) i 0) m ∧ m.length ≤ B + 7 * i ∧
  ∃ a3 a7 a8 a9, r = [some (.tup (pl.map Lk.d)), some (.tup (ws.map encW)), some (dm p s f), a3, some (.int (mask : Int)), some (.int pl.length), some (.ref st.length), a7, a8, a9]
def EK (p s f : Int) (pl : List Lk) (ws : List (Int × Int)) (st : Sto) (B mask i k : Nat) (r : Env) (s' : Sto) : Prop := ∃ m : Tb, s' = st ++ [dT m] ∧ (sysE p s f pl ws).Snd m ∧ (sysE p s f pl ws).Cmp ((sysE p s f pl ws).Dn mask (List.range i) i k) m ∧ (∃ v, look m (mask, i) = some v) ∧ m.length ≤ B + 7 * i + k ∧
  ∃ a7 a8 a9, r = [some (.tup (pl.map Lk.d)), some (.tup (ws.map encW)), some (dm p s f), some (.int i), some (.int (mask : Int)), some (.int pl.length), some (.ref st.length), a7, a8, a9]
theorem new_at {st : Sto} {c : Cell} : (st ++ [c])[st.length]? = some c := by simp
theorem set_at {st : Sto} {c c' : Cell} : (st ++ [c]).set st.length c' = st ++ [c'] := by simp
theorem kII_e (a b : Nat) : D.tup [.int (a : Int), .int (b : Int)] = kII.e (a, b) := rfl
theorem lends_W (g : Good p s f pl) (hn : pl.length ≤ 7) (hw : ws.length = pl.length) (hlo : ∀ k, k < pl.length → 0 ≤ (wi ws k).1) (q : ∀ m : Tb, (sysE p s f pl ws).Snd m → (sysE p s f pl ws).Cmp (fun _ => True) m → m.length < 10000 → Q (.ref st.length) (st ++ [dT m])) : W (s__law_ends [.tup (pl.map Lk.d), .tup (ws.map encW), dm p s f] st) Q := by
  have ok := sysE_ok (p := p) (s := s) (f := f) (pl := pl) (ws := ws)
  have hN : ∀ k, k < pl.length → k < ws.length := fun k hk => by omega
  refine fDef_W rfl ?_
  simp [b__law_ends, begin_]
  refine ⟨by simp [LIM], rng_ok (by omega), ?_⟩
  rw [rng_nat]
  simp only [forGo]
  refine for_ix (EI p s f pl ws st) ⟨[], rfl, fun k v e => by simp [look] at e, fun k t hk => absurd hk (Nat.not_lt_zero k), fun k v e => by simp [look] at e, Nat.le_refl _, _, rfl⟩ (fun i hi r s' H => ?_) (fun r s' H => ?_)
  · obtain ⟨m, rfl, h1, h2, h3, h4, a3, rfl⟩ := H
    have hi : i < pl.length := by simpa using hi
    have hE := E_one (p := p) (s := s) (f := f) (pl := pl) (hlo i hi)
    have hoth : ∀ k, k < i → ¬ ((1 <<< k, k) : Nat × Nat) = (1 <<< i, i) := fun k hk e => by injection e with _ e; omega
    simp [wi_at (hN i hi), lk_at hi, encW]
    split
    · rename_i hc
      rw [if_neg (by omega)] at hE
      rw [vShl_n]
      refine ⟨by omega, by simp [LIM], ?_⟩
      rw [kII_e, vSetA new_at]
      refine ⟨by simp only [LIM]; omega, put m (1 <<< i, i) _, by rw [set_at], ?_, ?_, ?_, by have := put_len (m := m) (k := (1 <<< i, i)) (v := (wi ws i).1 + (lk pl i).c); omega, _, rfl⟩
      · intro key v e
        rw [look_put] at e
        by_cases z : key = (1 <<< i, i)
        · rw [if_pos z] at e
          cases e
          refine ⟨[i], ⟨by simp, by simp, by simpa using hi⟩, ?_, hE⟩
          rw [z]
          show _ = (0 ||| 1 <<< i, i)
          rw [Nat.zero_or]
        · rw [if_neg z] at e
          exact h1 key v e
      · intro k t hk e
        rw [look_put]
        by_cases z : k = i
        · subst z
          rw [if_pos rfl, ← e, hE]
        · rw [if_neg (hoth k (by omega))]
          exact h2 k t (by omega) e
      · intro key v e
        rw [look_put] at e
        by_cases z : key = (1 <<< i, i)
        · exact ⟨i, by omega, z⟩
        · rw [if_neg z] at e
          obtain ⟨k, hk, e2⟩ := h3 key v e
          exact ⟨k, by omega, e2⟩
    · rename_i hc
      rw [if_pos (by omega)] at hE
      refine ⟨m, rfl, h1, fun k t hk e => ?_, fun key v e => ?_, by omega, _, rfl⟩
      · by_cases z : k = i
        · subst z; rw [hE] at e; cases e
        · exact h2 k t (by omega) e
      · obtain ⟨k, hk, e2⟩ := h3 key v e
        exact ⟨k, by omega, e2⟩
  · obtain ⟨m, rfl, h1, h2, h3, h4, a3, rfl⟩ := H
    simp at h2 h3 h4
    simp
    rw [vShl_n]
    have hpw : (1 : Nat) <<< pl.length ≤ 128 := by
      rw [Nat.one_shiftLeft]
      exact Nat.le_trans (Nat.pow_le_pow_right (by omega) hn) (by decide)
    have hp1 : 1 ≤ (1 : Nat) <<< pl.length := by rw [Nat.one_shiftLeft]; exact Nat.one_le_two_pow
    obtain ⟨M, hM⟩ : ∃ M, 1 <<< pl.length = M + 1 := ⟨(1 <<< pl.length) - 1, by omega⟩
    refine ⟨by omega, _, rfl, ⟨by decide, by decide, by omega, by omega⟩, ?_⟩
    have er : rng 1 (((1 <<< pl.length : Nat)) : Int) = (List.range M).map fun a : Nat => D.int (((1 + a : Nat)) : Int) := by
      rw [hM, Int.natCast_add]
      rw [show ((1 : Nat) : Int) = 1 from rfl, rng_1]
      refine List.map_congr_left fun a _ => ?_
      rw [Int.natCast_add]; rfl
    rw [er]
    refine for_ix (EM p s f pl ws st) ⟨m, rfl, h1, ?_, by omega, _, _, _, _, _, rfl⟩ (fun a ha r s' H => ?_) (fun r s' H => ?_)
    · intro r t hr hF hD
      rcases hD with hb | ⟨r1, k1, rfl, g1, g2⟩
      · obtain ⟨k, rfl⟩ := List.length_eq_one_iff.mp hb
        have hk : k < pl.length := hr.2.2 k (by simp)
        refine ⟨t, ?_, Int.le_refl _⟩
        show look m (0 ||| 1 <<< k, k) = some t
        rw [Nat.zero_or]
        exact h2 k t hk hF
      · exfalso
        rcases g2 with g2 | ⟨_, g2 | ⟨_, g2⟩⟩
        · obtain ⟨r2, k2, rfl⟩ := snoc_of g1.1
          have := bit_mask (r2 ++ [k2]) k2
          rw [show maskOf (r2 ++ [k2]) = 0 by omega] at this
          simp at this
        · cases g2
        · omega
    · obtain ⟨m, rfl, h1, h2, h4, a3, a4, a7, a8, a9, rfl⟩ := H
      have ha : a < M := by simpa using ha
      simp
      refine ⟨rng_ok (by omega), ?_⟩
      obtain ⟨mask, hm⟩ : ∃ mask : Nat, mask = 1 + a := ⟨_, rfl⟩
      have em : (1 : Int) + (a : Int) = (mask : Int) := by omega
      rw [em, rng_nat]
      rw [← hm] at h2
      refine for_ix (EN p s f pl ws st (7 + 49 * a) mask) ⟨m, rfl, h1, h2, by omega, _, _, _, _, rfl⟩ (fun i hi r s' H => ?_) (fun r s' H => ?_)
      · obtain ⟨m, rfl, h1, h2, h4, a3, a7, a8, a9, rfl⟩ := H
        have hi : i < pl.length := by simpa using hi
        simp [LIM]
        rw [kII_e, vInA new_at, vbv]
        cases hv : look m (mask, i) with
        | none =>
          simp
          have := skip_node ok hv h2 (i + 1)
          rw [← List.range_succ] at this
          exact ⟨m, rfl, h1, this, by omega, _, _, _, _, rfl⟩
        | some v =>
          simp
          refine ⟨rng_ok (by omega), ?_⟩
          rw [rng_nat]
          refine for_ix (EK p s f pl ws st (7 + 49 * a) mask i) ⟨m, rfl, h1, h2, ⟨v, hv⟩, by omega, _, _, _, rfl⟩ (fun k hk r s' H => ?_) (fun r s' H => ?_)
          · clear hv
            obtain ⟨m, rfl, h1, h2, ⟨v, hv⟩, h4, a7, a8, a9, rfl⟩ := H
            have hk : k < pl.length := by simpa using hk
            simp
            rw [vShr_n, vAnd1_n, bit_at, vEq_ii, vbv]
            cases hb : mask.testBit k with
            | true =>
              simp
              exact ⟨m, rfl, h1, next_in ok hb h2, ⟨v, hv⟩, by omega, _, _, _, rfl⟩
            | false =>
              have hk' := hN k hk
              simp [wi_at hk', lk_at hk, lk_at hi, encW, LIM]
              rw [kII_e, vIdxA new_at, hv]
              simp
              rw [lturn_W (by have := g.p1; omega) (by have := g.s1; omega) g.s2 g.f1]
              simp [wi_at hk', encW]
              have hst : wstep p s f pl ws i v k = if (wi ws k).2 < (if (wi ws k).1 < v + tt p s f (lk pl i) (lk pl k) then v + tt p s f (lk pl i) (lk pl k) else (wi ws k).1) then none else some ((if (wi ws k).1 < v + tt p s f (lk pl i) (lk pl k) then v + tt p s f (lk pl i) (lk pl k) else (wi ws k).1) + (lk pl k).c) := rfl
              generalize (if (wi ws k).1 < v + tt p s f (lk pl i) (lk pl k) then v + tt p s f (lk pl i) (lk pl k) else (wi ws k).1) = b at *
              by_cases hc : (wi ws k).2 < b
              · rw [if_pos hc] at hst
                rw [if_neg (by omega)]
                exact ⟨m, rfl, h1, next_no ok hv hst h2, ⟨v, hv⟩, by omega, _, _, _, rfl⟩
              · rw [if_neg hc] at hst
                rw [if_pos (by omega), vShl_n]
                refine ⟨by omega, ?_⟩
                rw [vOr_n, kII_e, wGet2]
                simp only [wVar, slotS, slot0, V1_some, wOp, wC]
                rw [vIdx_t, lk_at hk]
                simp only [V1_some, Lk_2, vAdd_ii]
                refine ⟨_, _, asD_at new_at, asD_at new_at, keyOk_enc _ _ _ _, ?_⟩
                rw [dGet_enc]
                have eg : ((look m (mask ||| 1 <<< k, k)).map D.int).getD (.int (b + (lk pl k).c)) = .int ((look m (mask ||| 1 <<< k, k)).getD (b + (lk pl k).c)) := by cases look m (mask ||| 1 <<< k, k) <;> rfl
                rw [eg, vMin_ii, vSetA new_at]
                have ny := next_yes ok h1 hv hb hk hst (key := (mask ||| 1 <<< k, k)) rfl (fun r _ => lastN_snoc r k) h2
                refine ⟨by simp only [LIM]; omega, upd m (mask ||| 1 <<< k, k) (b + (lk pl k).c), by rw [set_at]; rfl, ny.1, ny.2, ?_, ?_, _, _, _, rfl⟩
                · unfold upd
                  rw [look_put]
                  split
                  · exact ⟨_, rfl⟩
                  · exact ⟨v, hv⟩
                · have := upd_len (m := m) (k := (mask ||| 1 <<< k, k)) (x := b + (lk pl k).c)
                  omega
          · obtain ⟨m, rfl, h1, h2, _, h4, a7, a8, a9, rfl⟩ := H
            simp at h2 h4
            simp
            have := end_node ok h2 (i + 1)
            rw [← List.range_succ] at this
            exact ⟨m, rfl, h1, this, by omega, _, _, _, _, rfl⟩
      · obtain ⟨m, rfl, h1, h2, h4, a3, a7, a8, a9, rfl⟩ := H
        simp at h2 h4
        simp
        have := end_mask ok (cur := pl.length) h2 0
        rw [hm] at this
        exact ⟨m, rfl, h1, this, by omega, _, _, _, _, _, rfl⟩
    · obtain ⟨m, rfl, h1, h2, h4, a3, a4, a7, a8, a9, rfl⟩ := H
      simp at h2 h4
      have hM2 : 1 + M = 2 ^ (sysE p s f pl ws).L := by
        show 1 + M = 2 ^ pl.length
        rw [← Nat.one_shiftLeft]; omega
      rw [hM2] at h2
      simp
      have hl : leave st.length (.ref st.length) (st ++ [dT m]) = (.ref st.length, st ++ [dT m]) := by
        unfold leave
        rw [if_neg]
        rintro ⟨z, _⟩
        simp [D.blw] at z
      rw [hl]
      exact q m h1 (all_done ok h2) (by omega)
end
end K06
namespace K06
open PySem (Str PyData)
open EV DPR
/-! the least of ints -/
theorem int_shp (i : Int) : (D.int i).shp = true := by
  simp [D.shp, D.dat, D.py, PySem.SeqAt.shaped, PyData.canLay0, PyData.depth]
theorem alk_ints (l : List Int) : Alk (l.map D.int) := fun a ha => by
  obtain ⟨i, _, rfl⟩ := List.mem_map.mp ha
  rw [Bool.and_eq_true, Bool.and_eq_true, List.all_eq_true]
  refine ⟨⟨int_shp i, rfl⟩, fun b hb => ?_⟩
  obtain ⟨j, _, rfl⟩ := List.mem_map.mp hb
  simp [D.py, PySem.W.alike]
theorem least_ints : ∀ (l : List Int) (a : Int), least (.int a) (l.map D.int) = .int (l.foldl mn a)
  | [], a => rfl
  | b :: l, a => by
    rw [List.map_cons, List.foldl_cons, ← least_ints l]
    show least (if dLt (.int b) (.int a) = true then .int b else .int a) (l.map D.int) = _
    have : dLt (.int b) (.int a) = decide (b < a) := by
      unfold dLt
      rw [D.py, D.py, PySem.W.dataLt_int]
    rw [this]
    unfold mn
    by_cases h : b < a <;> simp [h]
theorem fold_mn : ∀ (l : List Int) (a : Int), l.foldl mn a ∈ a :: l ∧ ∀ b ∈ a :: l, l.foldl mn a ≤ b
  | [], a => by simp
  | c :: l, a => by
    obtain ⟨h1, h2⟩ := fold_mn l (mn a c)
    rw [List.foldl_cons]
    have h3 := h2 (mn a c) List.mem_cons_self
    have h4 := mn_le (a := a) (b := c)
    refine ⟨?_, fun b hb => ?_⟩
    · rcases List.mem_cons.mp h1 with z | z
      · rw [z]
        rcases mn_or a c with y | y
        · rw [y]; exact List.mem_cons_self
        · rw [y]; exact List.mem_cons_of_mem _ List.mem_cons_self
      · exact List.mem_cons_of_mem _ (List.mem_cons_of_mem _ z)
    · rcases List.mem_cons.mp hb with rfl | hb
      · omega
      · rcases List.mem_cons.mp hb with rfl | hb
        · omega
        · exact h2 b (List.mem_cons_of_mem _ hb)
theorem vMin_ints {st : Sto} {Q : D → Prop} {l : List Int} (hne : l ≠ []) (h : ∀ R, R ∈ l → (∀ b ∈ l, R ≤ b) → Q (.int R)) : V1 (bMin st [.lst (l.map D.int)]) Q := by
  cases l with
  | nil => exact absurd rfl hne
  | cons a l =>
    rw [List.map_cons, vMin_l]
    refine ⟨by rw [← List.map_cons]; exact alk_ints _, ?_⟩
    rw [least_ints]
    obtain ⟨h1, h2⟩ := fold_mn l a
    exact h _ h1 h2
section
variable {p s f : Int} {pl : List Lk} {st : Sto} {Q : D → Sto → Prop}
/-- what is added by going on -/
def cst (p s f : Int) (pl : List Lk) : Nat → List Nat → Int
  | _, [] => 0
  | i, x :: xs => tt p s f (lk pl i) (lk pl x) + (lk pl x).c + cst p s f pl x xs
def endN (i : Nat) : List Nat → Nat
  | [] => i
  | x :: xs => endN x xs
theorem endN_snoc (k : Nat) : ∀ (xs : List Nat) (i : Nat), endN i (xs ++ [k]) = k
  | [], _ => rfl
  | x :: xs, i => endN_snoc k xs x
theorem endN_mem : ∀ (xs : List Nat) (i : Nat), endN i xs = i ∨ endN i xs ∈ xs
  | [], i => .inl rfl
  | x :: xs, i => by
    rcases endN_mem xs x with h | h
    · exact .inr (by show endN x xs ∈ _; rw [h]; exact List.mem_cons_self)
    · exact .inr (List.mem_cons_of_mem _ h)
theorem cst_snoc (k : Nat) : ∀ (xs : List Nat) (i : Nat), cst p s f pl i (xs ++ [k]) = cst p s f pl i xs + tt p s f (lk pl (endN i xs)) (lk pl k) + (lk pl k).c
  | [], i => by simp [cst, endN]
  | x :: xs, i => by
    show _ + cst p s f pl x (xs ++ [k]) = _
    rw [cst_snoc k xs x]
    show _ = _ + cst p s f pl x xs + tt p s f (lk pl (endN x xs)) (lk pl k) + _
    omega
def nds (left r : List Nat) : List Nat := r.map (ro left)
def sysR (p s f : Int) (pl : List Lk) (last : Nat) (left : List Nat) : Sys where
  L := left.length
  nd := fun r => endN last (nds left r)
  F := fun r => some (cst p s f pl last (nds left r))
  V := fun r => r.Nodup ∧ ∀ i ∈ r, i < left.length
  base := fun r => r = []
  step := fun i t k => some (t + tt p s f (lk pl i) (lk pl (ro left k)) + (lk pl (ro left k)).c)
  nodes := last :: left
theorem nds_snoc (left r : List Nat) (k : Nat) : nds left (r ++ [k]) = nds left r ++ [ro left k] := by simp [nds]
theorem sysR_ok {last : Nat} {left : List Nat} : (sysR p s f pl last left).ok where
  nodup := fun r h => h.1
  lt := fun r h => h.2
  split := fun r h => by
    by_cases e : r = []
    · exact .inl e
    · obtain ⟨r1, k, rfl⟩ := snoc_of e
      exact .inr ⟨r1, k, rfl, (nodup_snoc.mp h.1).1, fun i hi => h.2 i (List.mem_append_left _ hi)⟩
  snoc := fun r k h hk hn => ⟨nodup_snoc.mpr ⟨h.1, hn⟩, fun i hi => by
    rcases List.mem_append.mp hi with hi | hi
    · exact h.2 i hi
    · rw [List.mem_singleton.mp hi]; exact hk⟩
  run := fun r k h _ => by
    show some (cst p s f pl last (nds left (r ++ [k]))) = _
    rw [nds_snoc, cst_snoc]; rfl
  mono := fun i t t' k y h e => by
    cases e
    exact ⟨_, rfl, by omega⟩
  node := fun r h => by
    show endN last (nds left r) ∈ last :: left
    rcases endN_mem (nds left r) last with e | e
    · rw [e]; exact List.mem_cons_self
    · obtain ⟨k, hk, e2⟩ := List.mem_map.mp e
      rw [← e2]
      refine List.mem_cons_of_mem _ ?_
      rw [← ro_get (h.2 k hk)]
      exact List.getElem_mem _
def leftOf (n : Nat) (o : List Nat) : List Nat := (List.range n).filter fun i => !o.contains i
def RM (p s f : Int) (pl : List Lk) (o : List Nat) (last : Nat) (left : List Nat) (st : Sto) (mask : Nat) (r : Env) (s' : Sto) : Prop := ∃ m : Tb, s' = st ++ [dT m] ∧ (sysR p s f pl last left).Snd m ∧ (sysR p s f pl last left).Cmp ((sysR p s f pl last left).Dn mask [] 0 0) m ∧ m.length ≤ 1 + 64 * mask ∧
  ∃ a5 a7 a8 a9 a10, r = [some (.tup (pl.map Lk.d)), some (eo o), some (dm p s f), some (.lst (left.map nD)), some (.ref st.length), a5, none, a7, a8, a9, a10]
def RN (p s f : Int) (pl : List Lk) (o : List Nat) (last : Nat) (left : List Nat) (st : Sto) (B mask i : Nat) (r : Env) (s' : Sto) : Prop := ∃ m : Tb, s' = st ++ [dT m] ∧ (sysR p s f pl last left).Snd m ∧ (sysR p s f pl last left).Cmp ((sysR p s f pl last left).Dn mask ((last :: left).take i) (ro (last :: left) i) 0) m ∧ m.length ≤ B + 8 * i ∧
  ∃ a7 a8 a9 a10, r = [some (.tup (pl.map Lk.d)), some (eo o), some (dm p s f), some (.lst (left.map nD)), some (.ref st.length), some (.int (mask : Int)), none, a7, a8, a9, a10]
def RK (p s f : Int) (pl : List Lk) (o : List Nat) (last : Nat) (left : List Nat) (st : Sto) (B mask i k : Nat) (r : Env) (s' : Sto) : Prop := ∃ m : Tb, s' = st ++ [dT m] ∧ (sysR p s f pl last left).Snd m ∧ (sysR p s f pl last left).Cmp ((sysR p s f pl last left).Dn mask ((last :: left).take i) (ro (last :: left) i) k) m ∧ (∃ v, look m (mask, ro (last :: left) i) = some v) ∧ m.length ≤ B + 8 * i + k ∧
  ∃ a8 a9 a10, r = [some (.tup (pl.map Lk.d)), some (eo o), some (dm p s f), some (.lst (left.map nD)), some (.ref st.length), some (.int (mask : Int)), none, some (.int (ro (last :: left) i : Nat)), a8, a9, a10]
theorem at_m1 {o : List Nat} (h : o ≠ []) : L2.atI (o.map nD) (-1) = some (nD (lastN o)) := by
  have hl := List.length_pos_iff.mpr h
  unfold L2.atI L2.ixN
  rw [if_neg (by decide), List.length_map, if_pos (by omega)]
  rw [lastN_ro h]
  have e : ((-1 : Int) + (o.length : Nat)).toNat = o.length - 1 := by omega
  rw [Option.bind_some, e, List.getElem?_map, List.getElem?_eq_getElem (show o.length - 1 < o.length by omega)]
  simp [ro, show o.length - 1 < o.length by omega]
theorem lrest_W {o : List Nat} {last : Nat} (g : Good p s f pl) (hn : pl.length ≤ 7) (hs : okSt st) (ho : ∀ i ∈ o, i < pl.length) (hne : o ≠ []) (hl : lastN o = last)
    (q : ∀ R, (∃ r, (sysR p s f pl last (leftOf pl.length o)).V r ∧ maskOf r = 2 ^ (leftOf pl.length o).length - 1 ∧ cst p s f pl last (nds (leftOf pl.length o) r) = R) → (∀ r, (sysR p s f pl last (leftOf pl.length o)).V r → maskOf r = 2 ^ (leftOf pl.length o).length - 1 → R ≤ cst p s f pl last (nds (leftOf pl.length o) r)) → Q (.int R) st) :
    W (s__law_rest [.tup (pl.map Lk.d), eo o, dm p s f] st) Q := by
  have ok := sysR_ok (p := p) (s := s) (f := f) (pl := pl) (last := last) (left := leftOf pl.length o)
  have ll : (leftOf pl.length o).length ≤ 7 := by
    unfold leftOf
    refine Nat.le_trans (List.length_filter_le _ _) ?_
    simpa using hn
  have hlast : last < pl.length := by
    obtain ⟨o1, k, rfl⟩ := snoc_of hne
    rw [lastN_snoc] at hl
    rw [← hl]
    exact ho k (by simp)
  have hleft : ∀ i ∈ leftOf pl.length o, i < pl.length := fun i hi => List.mem_range.mp (List.mem_filter.mp hi).1
  refine fDef_W rfl ?_
  simp [b__law_rest, begin_, wLc, wipeE, lcGo]
  refine ⟨rng_ok (by omega), ?_⟩
  rw [rng_nat]
  refine lc_pure (List.range pl.length) nD (fun i => !o.contains i) nD (fun i hi => ?_) ?_
  · simp
    rw [show eo o = .tup (o.map fun a : Nat => D.int (a : Int)) from rfl, vNotIn_m, any_nat]
    simp
  · have e1 : (List.range pl.length).filter (fun i => !o.contains i) = leftOf pl.length o := rfl
    rw [e1]
    generalize hle : leftOf pl.length o = left at *
    refine ⟨by simp [LIM]; omega, ?_⟩
    rw [show eo o = .tup (o.map nD) from rfl, vIdx_t, at_m1 hne, hl]
    simp only [V1_some]
    have hkey : keyOk [] (D.tup [.int 0, nD last]) = true := keyOk_enc kII D.int [] (0, last)
    refine ⟨by simp [LIM], hkey, ?_⟩
    rw [List.length_map, vShl_n]
    have hpw : (1 : Nat) <<< left.length ≤ 128 := by
      rw [Nat.one_shiftLeft]
      exact Nat.le_trans (Nat.pow_le_pow_right (by omega) ll) (by decide)
    refine ⟨by omega, _, rfl, rng_ok (by omega), ?_⟩
    rw [rng_nat]
    have hc0 : Cell.dct [(D.tup [.int 0, nD last], D.int 0)] = dT [((0, last), 0)] := rfl
    rw [hc0]
    simp only [forGo]
    have hL : ∀ k, k < left.length → ro left k < pl.length := fun k hk => hleft _ (by rw [← ro_get hk]; exact List.getElem_mem hk)
    refine for_ix (RM p s f pl o last left st) ⟨_, rfl, ?_, ?_, by simp, _, _, _, _, _, rfl⟩ (fun mask hm r s' H => ?_) (fun r s' H => ?_)
    · intro key v e
      rw [look_cons, look_nil] at e
      split at e
      · rename_i z
        cases e
        exact ⟨[], ⟨List.nodup_nil, by simp⟩, z.symm, rfl⟩
      · cases e
    · intro r t hr hF hD
      rcases hD with hb | ⟨r1, k1, rfl, g1, g2⟩
      · have hb : r = [] := hb
        subst hb
        cases hF
        exact ⟨0, by show look [((0, last), (0 : Int))] (0, last) = some 0; simp [look], Int.le_refl _⟩
      · exfalso
        rcases g2 with g2 | ⟨_, g2 | ⟨_, g2⟩⟩
        · omega
        · cases g2
        · omega
    · obtain ⟨m, rfl, h1, h2, h4, a5, a7, a8, a9, a10, rfl⟩ := H
      have hm : mask < 1 <<< left.length := by simpa using hm
      simp
      rw [show eo o = .tup (o.map nD) from rfl, vIdx_t, at_m1 hne, hl]
      simp [LIM]
      refine ⟨by omega, ?_⟩
      have esrc : D.int (last : Int) :: left.map nD = (last :: left).map nD := rfl
      rw [esrc]
      have hnode : ∀ i, i < (last :: left).length → ro (last :: left) i < pl.length := fun i hi => by
        rw [← ro_get hi]
        rcases List.mem_cons.mp (List.getElem_mem hi) with e | e
        · rw [e]; exact hlast
        · exact hleft _ e
      refine for_ix (RN p s f pl o last left st (1 + 64 * mask) mask) ⟨m, rfl, h1, cur_any h2 _, by omega, _, _, _, _, rfl⟩ (fun i hi r s' H => ?_) (fun r s' H => ?_)
      · obtain ⟨m, rfl, h1, h2, h4, a7, a8, a9, a10, rfl⟩ := H
        have hi : i < (last :: left).length := by simpa using hi
        have hi8 : i < 8 := by rw [List.length_cons] at hi; omega
        have hm128 : mask < 128 := by omega
        have hx : ((last :: left).map nD)[i]'(by simpa using hi) = nD (ro (last :: left) i) := by rw [List.getElem_map, ro_get hi]
        rw [hx]
        simp [LIM]
        rw [kII_e, vInA new_at, vbv]
        have tk : (last :: left).take i ++ [ro (last :: left) i] = (last :: left).take (i + 1) := by rw [List.take_succ_eq_append_getElem hi, ro_get hi]
        have hix := hnode i hi
        cases hv : look m (mask, ro (last :: left) i) with
        | none =>
          simp
          have := skip_node ok hv h2 (ro (last :: left) (i + 1))
          rw [tk] at this
          exact ⟨m, rfl, h1, this, by omega, _, _, _, _, rfl⟩
        | some v =>
          simp
          refine ⟨rng_ok (by omega), ?_⟩
          rw [rng_nat]
          refine for_ix (RK p s f pl o last left st (1 + 64 * mask) mask i) ⟨m, rfl, h1, h2, ⟨v, hv⟩, by omega, _, _, _, rfl⟩ (fun k hk r s' H => ?_) (fun r s' H => ?_)
          · clear hv
            obtain ⟨m, rfl, h1, h2, ⟨v, hv⟩, h4, a8, a9, a10, rfl⟩ := H
            have hk : k < left.length := by simpa using hk
            have hlk := hL k hk
            simp
            rw [vShr_n, vAnd1_n, bit_at, vEq_ii, vbv]
            cases hb : mask.testBit k with
            | true =>
              simp
              exact ⟨m, rfl, h1, next_in ok hb h2, ⟨v, hv⟩, by omega, _, _, _, rfl⟩
            | false =>
              simp [lk_at hix, LIM]
              rw [kII_e, vIdxA new_at, hv]
              simp [lk_at hix, ro_at hk, lk_at hlk]
              rw [lturn_W (by have := g.p1; omega) (by have := g.s1; omega) g.s2 g.f1]
              try simp [ro_at hk, lk_at hlk]
              have hst : (sysR p s f pl last left).step (ro (last :: left) i) v k = some (v + tt p s f (lk pl (ro (last :: left) i)) (lk pl (ro left k)) + (lk pl (ro left k)).c) := rfl
              generalize v + tt p s f (lk pl (ro (last :: left) i)) (lk pl (ro left k)) + (lk pl (ro left k)).c = x at *
              rw [vShl_n]
              refine ⟨by omega, ?_⟩
              rw [vOr_n]
              rw [kII_e, wGet2]
              simp only [wVar, slotS, slot0, V1_some]
              refine ⟨_, _, asD_at new_at, asD_at new_at, keyOk_enc _ _ _ _, ?_⟩
              rw [dGet_enc]
              have eg : ((look m (mask ||| 1 <<< k, ro left k)).map D.int).getD (.int x) = .int ((look m (mask ||| 1 <<< k, ro left k)).getD x) := by cases look m (mask ||| 1 <<< k, ro left k) <;> rfl
              rw [eg, vMin_ii, vSetA new_at]
              have ny := next_yes ok h1 hv hb hk hst (key := (mask ||| 1 <<< k, ro left k)) rfl (fun r _ => by show endN last (nds left (r ++ [k])) = _; rw [nds_snoc, endN_snoc]) h2
              refine ⟨by simp only [LIM]; omega, upd m (mask ||| 1 <<< k, ro left k) x, by rw [set_at]; rfl, ny.1, ny.2, ?_, ?_, _, _, _, rfl⟩
              · unfold upd
                rw [look_put]
                split
                · exact ⟨_, rfl⟩
                · exact ⟨v, hv⟩
              · have := upd_len (m := m) (k := (mask ||| 1 <<< k, ro left k)) (x := x)
                omega
          · obtain ⟨m, rfl, h1, h2, _, h4, a8, a9, a10, rfl⟩ := H
            simp at h2 h4
            simp
            have := end_node ok h2 (ro (last :: left) (i + 1))
            rw [tk] at this
            exact ⟨m, rfl, h1, this, by omega, _, _, _, _, rfl⟩
      · obtain ⟨m, rfl, h1, h2, h4, a7, a8, a9, a10, rfl⟩ := H
        rw [List.length_map, List.take_length] at h2
        simp at h4
        simp
        have := end_mask ok h2 0
        exact ⟨m, rfl, h1, this, by omega, _, _, _, _, _, rfl⟩
    · obtain ⟨m, rfl, h1, h2, h4, a5, a7, a8, a9, a10, rfl⟩ := H
      simp at h2 h4
      have hM : 1 <<< left.length = 2 ^ (sysR p s f pl last left).L := by rw [Nat.one_shiftLeft]; rfl
      rw [hM] at h2
      have h2 := all_done ok h2
      simp
      obtain ⟨fl, hfl⟩ : ∃ fl : Nat, fl = 2 ^ left.length - 1 := ⟨_, rfl⟩
      have efl : ((1 <<< left.length : Nat) : Int) - 1 = (fl : Int) := by
        rw [hfl, Nat.one_shiftLeft]
        have := Nat.two_pow_pos left.length
        omega
      rw [vShl_n, vSub_ii, efl]
      refine ⟨by omega, ?_⟩
      rw [wLc]
      simp [LIM]
      rw [show eo o = .tup (o.map nD) from rfl, vIdx_t, at_m1 hne, hl]
      simp [LIM, wipeE]
      refine ⟨by omega, ?_⟩
      have esrc : D.int (last : Int) :: left.map nD = (last :: left).map nD := rfl
      rw [esrc]
      simp only [lcGo]
      refine lc_pure (last :: left) nD (fun x => (look m (fl, x)).isSome) (fun x => .int ((look m (fl, x)).getD 0)) (fun x hx => ?_) ?_
      · simp [LIM]
        rw [kII_e, vInA new_at]
        cases hv : look m (fl, x) with
        | none => simp
        | some v =>
          simp
          rw [vIdxA new_at, hv]
          simp
      · have hlen : (((last :: left).filter fun x => (look m (fl, x)).isSome).map fun x => D.int ((look m (fl, x)).getD 0)).length ≤ 8 := by
          rw [List.length_map]
          refine Nat.le_trans (List.length_filter_le _ _) ?_
          rw [List.length_cons]; omega
        refine ⟨by omega, ?_⟩
        have hmm : (((last :: left).filter fun x => (look m (fl, x)).isSome).map fun x => D.int ((look m (fl, x)).getD 0)) = (((last :: left).filter fun x => (look m (fl, x)).isSome).map fun x => (look m (fl, x)).getD 0).map D.int := by rw [List.map_map]; rfl
        rw [hmm]
        have full : ∀ r, (sysR p s f pl last left).V r → maskOf r = fl → ∃ v, v ≤ cst p s f pl last (nds left r) ∧ v ∈ (((last :: left).filter fun x => (look m (fl, x)).isSome).map fun x => (look m (fl, x)).getD 0) := fun r hr hmr => by
          obtain ⟨v, e1, e2⟩ := h2 r _ hr rfl trivial
          rw [hmr] at e1
          refine ⟨v, e2, List.mem_map.mpr ⟨(sysR p s f pl last left).nd r, List.mem_filter.mpr ⟨ok.node r hr, by rw [e1]; rfl⟩, by rw [e1]; rfl⟩⟩
        refine vMin_ints (fun e => ?_) fun R hR hmin => ?_
        · have hr0 : (sysR p s f pl last left).V (List.range left.length) := ⟨List.nodup_range, fun i hi => List.mem_range.mp hi⟩
          have hf0 : maskOf (List.range left.length) = fl := by rw [hfl]; exact full_mask (fun i hi => List.mem_range.mp hi) fun k hk => List.mem_range.mpr hk
          obtain ⟨v, _, hv⟩ := full _ hr0 hf0
          rw [e] at hv
          cases hv
        · rw [leave_add hs (by simp [D.blw])]
          obtain ⟨x, hx, ex⟩ := List.mem_map.mp hR
          have hx2 := (List.mem_filter.mp hx).2
          cases hv : look m (fl, x) with
          | none => rw [hv] at hx2; cases hx2
          | some v =>
            rw [hv, Option.getD_some] at ex
            subst ex
            obtain ⟨r, hr, ek, hF⟩ := h1 _ _ hv
            injection ek with ek1 ek2
            rw [hfl] at ek1
            refine q v ⟨r, hr, ek1.symm, Option.some.inj hF⟩ fun r' hr' hm' => ?_
            rw [← hfl] at hm'
            obtain ⟨v', e1, e2⟩ := full r' hr' hm'
            have := hmin v' e2
            omega
end
end K06
namespace K06
open PySem (Str PyData)
open EV DPR
section
variable {p s f : Int} {pl : List Lk}
/-! ### the first of the least ones -/
theorem bst_first {κ : List Nat → Option Int} {rows : List (List Nat)} (h : rows.Pairwise fun a b => iz a < iz b) : ∀ i, i ≤ rows.length → match (rows.take i).foldl (bst κ) none with
    | none => ∀ r ∈ rows.take i, κ r = none
    | some a => a.2 ∈ rows.take i ∧ κ a.2 = some a.1 ∧ ∀ r ∈ rows.take i, ∀ t, κ r = some t → a.1 ≤ t ∧ (t = a.1 → ¬ iz r < iz a.2)
  | 0, _ => by simp
  | i + 1, hi => by
    have ih := bst_first (κ := κ) h i (by omega)
    have hl : i < rows.length := by omega
    have hx : ∀ r ∈ rows.take i, iz r < iz rows[i] := fun r hr => by
      obtain ⟨j, hj, rfl⟩ := List.mem_take_iff_getElem.mp hr
      exact List.pairwise_iff_getElem.mp h j i (by omega) hl (by omega)
    rw [List.take_succ_eq_append_getElem hl, List.foldl_append, List.foldl_cons, List.foldl_nil]
    generalize (rows.take i).foldl (bst κ) none = acc at *
    unfold bst
    cases hk : κ rows[i] with
    | none =>
      cases acc with
      | none =>
        intro r hr
        rcases List.mem_append.mp hr with hr | hr
        · exact ih r hr
        · rw [List.mem_singleton.mp hr]; exact hk
      | some a =>
        obtain ⟨h1, h2, h3⟩ := ih
        refine ⟨List.mem_append_left _ h1, h2, fun r hr t e => ?_⟩
        rcases List.mem_append.mp hr with hr | hr
        · exact h3 r hr t e
        · rw [List.mem_singleton.mp hr, hk] at e; cases e
    | some tx =>
      cases acc with
      | none =>
        refine ⟨List.mem_append_right _ (List.mem_singleton.mpr rfl), hk, fun r hr t e => ?_⟩
        rcases List.mem_append.mp hr with hr | hr
        · rw [ih r hr] at e; cases e
        · rw [List.mem_singleton.mp hr, hk] at e
          cases e
          rw [List.mem_singleton.mp hr]
          exact ⟨Int.le_refl _, fun _ => List.lt_irrefl _⟩
      | some a =>
        obtain ⟨h1, h2, h3⟩ := ih
        by_cases hc : tx < a.1
        · simp only [hc, if_true]
          refine ⟨List.mem_append_right _ (List.mem_singleton.mpr rfl), hk, fun r hr t e => ?_⟩
          rcases List.mem_append.mp hr with hr | hr
          · have := (h3 r hr t e).1
            exact ⟨by omega, fun z => by omega⟩
          · rw [List.mem_singleton.mp hr, hk] at e
            cases e
            rw [List.mem_singleton.mp hr]
            exact ⟨Int.le_refl _, fun _ => List.lt_irrefl _⟩
        · simp only [hc, if_false]
          refine ⟨List.mem_append_left _ h1, h2, fun r hr t e => ?_⟩
          rcases List.mem_append.mp hr with hr | hr
          · exact h3 r hr t e
          · rw [List.mem_singleton.mp hr, hk] at e
            cases e
            rw [List.mem_singleton.mp hr]
            exact ⟨by omega, fun _ => List.lt_asymm (hx _ h1)⟩
theorem best_first {κ : List Nat → Option Int} {rows : List (List Nat)} (h : rows.Pairwise fun a b => iz a < iz b) : match rows.foldl (bst κ) none with
    | none => ∀ r ∈ rows, κ r = none
    | some a => a.2 ∈ rows ∧ κ a.2 = some a.1 ∧ ∀ r ∈ rows, ∀ t, κ r = some t → a.1 ≤ t ∧ (t = a.1 → ¬ iz r < iz a.2) := by
  have := bst_first (κ := κ) h rows.length (Nat.le_refl _)
  rwa [List.take_length] at this
/-! ### all orders -/
theorem ords_all {n : Nat} : ∀ {k : Nat} {row : List Nat}, row.length = k → (∀ i ∈ row, i < n) → row.Nodup → row ∈ ords n k
  | 0, row, hl, _, _ => by
    rw [List.eq_nil_of_length_eq_zero hl]
    simp [ords]
  | k + 1, row, hl, hlt, hn => by
    obtain ⟨r1, i, rfl⟩ := snoc_of (r := row) (fun e => by rw [e] at hl; simp at hl)
    have h1 := ords_all (n := n) (k := k) (row := r1) (by simpa using hl) (fun j hj => hlt j (List.mem_append_left _ hj)) (nodup_snoc.mp hn).1
    show r1 ++ [i] ∈ ostep n (ords n k)
    unfold ostep
    refine List.mem_flatMap.mpr ⟨r1, h1, List.mem_map.mpr ⟨i, List.mem_filter.mpr ⟨List.mem_range.mpr (hlt i (by simp)), ?_⟩, rfl⟩⟩
    have := (nodup_snoc.mp hn).2
    simpa using this
theorem perm_range {r : List Nat} {n : Nat} (hn : r.Nodup) (hlt : ∀ i ∈ r, i < n) (ha : ∀ k, k < n → k ∈ r) : r.Perm (List.range n) := by
  refine Res.perm_of r (List.range n) hn (fun i hi => List.mem_range.mpr (hlt i hi)) ?_
  have := (Res.perm_of (List.range n) (List.range n ++ []) List.nodup_range (by simp) (by simp)).length_eq
  have h2 : (List.range n).length ≤ r.length := by
    refine Nat.le_of_not_lt fun hc => ?_
    -- a list without doubles, no longer than r, all of whose members are in r
    have key : ∀ (l m : List Nat), l.Nodup → (∀ a ∈ l, a ∈ m) → l.length ≤ m.length := by
      intro l
      induction l with
      | nil => intro m _ _; simp
      | cons a l ih =>
        intro m hl hm
        have hp := List.perm_cons_erase (hm a List.mem_cons_self)
        rw [hp.length_eq, List.length_cons, List.length_cons]
        have := ih (m.erase a) (List.nodup_cons.mp hl).2 fun b hb => (List.mem_erase_of_ne (fun e : b = a => (List.nodup_cons.mp hl).1 (by rw [← e]; exact hb))).mpr (hm b (List.mem_cons_of_mem _ hb))
        omega
    have := key (List.range n) r List.nodup_range fun k hk => ha k (List.mem_range.mp hk)
    omega
  exact h2
theorem perms_iff {r : List Nat} : r ∈ perms pl ↔ r.Nodup ∧ (∀ i ∈ r, i < pl.length) ∧ ∀ k, k < pl.length → k ∈ r := by
  constructor
  · intro h
    obtain ⟨h1, h2, h3⟩ := ords_mem h
    refine ⟨h3, h2, fun k hk => ?_⟩
    have := Res.perm_of r (List.range pl.length) h3 (fun i hi => List.mem_range.mpr (h2 i hi)) (by simp [h1])
    exact this.mem_iff.mpr (List.mem_range.mpr hk)
  · rintro ⟨h1, h2, h3⟩
    exact ords_all (by have := (perm_range h1 h2 h3).length_eq; simpa using this) h2 h1
/-! ### without windows -/
abbrev S0 (p s f : Int) (pl : List Lk) (r : List Nat) : Int := wS p s f pl r r.length
theorem S0_snoc {r : List Nat} {k : Nat} (h : r ≠ []) : S0 p s f pl (r ++ [k]) = S0 p s f pl r + tt p s f (lk pl (lastN r)) (lk pl k) + (lk pl k).c := by
  have hl := List.length_pos_iff.mpr h
  have wapp : ∀ i, i ≤ r.length → wS p s f pl (r ++ [k]) i = wS p s f pl r i := by
    intro i
    induction i with
    | zero => intro _; rfl
    | succ i ih =>
      intro hi
      show wS p s f pl (r ++ [k]) i + _ + _ = wS p s f pl r i + _ + _
      rw [ih (by omega), ro_app (by omega : i < r.length)]
      by_cases h0 : 0 < i
      · rw [ro_app (by omega : i - 1 < r.length)]
      · simp [h0]
  show wS p s f pl (r ++ [k]) (r ++ [k]).length = _
  rw [List.length_append, List.length_singleton]
  show wS p s f pl (r ++ [k]) r.length + _ + _ = _
  rw [wapp _ (Nat.le_refl _), lastN_ro h, if_pos hl]
  have e1 : ro (r ++ [k]) r.length = k := by simp [ro]
  have e2 : ro (r ++ [k]) (r.length - 1) = ro r (r.length - 1) := ro_app (by omega)
  rw [e1, e2]
theorem S0_app : ∀ (q : List Nat) {r : List Nat}, r ≠ [] → S0 p s f pl (r ++ q) = S0 p s f pl r + cst p s f pl (lastN r) q
  | [], r, h => by simp [cst]
  | x :: q, r, h => by
    have e : r ++ x :: q = (r ++ [x]) ++ q := by simp
    rw [e, S0_app q (by simp), S0_snoc h, lastN_snoc]
    show _ = _ + (_ + _ + cst p s f pl x q)
    omega
theorem ceil_le {w s : Int} (hs : 1 ≤ s) (hw : 0 ≤ w) : (w + s - 1) / s ≤ w := by
  refine Int.le_of_lt_add_one ((Int.ediv_lt_iff_lt_mul (by omega)).mpr ?_)
  rw [Int.add_mul, Int.one_mul]
  have : w * 1 ≤ w * s := Int.mul_le_mul_of_nonneg_left hs hw
  omega
theorem tt_500 (g : Good p s f pl) (hf : f ≤ 500) {u v : Lk} : 0 ≤ tt p s f u v ∧ tt p s f u v ≤ 500 := by
  have hp : 0 < p := by have := g.p1; omega
  have hs : 0 < s := by have := g.s1; omega
  refine ⟨tt_nn hp hs, ?_⟩
  have h2 := way_nn hp (u := u) (v := v)
  have h4 := ceil_le g.s1 h2
  have h5 : 2 * way p u v ≤ p := by
    unfold way
    split <;> omega
  have := g.p2; have := g.f1
  unfold tt
  generalize (way p u v + s - 1) / s = A at *
  by_cases e : u.b = v.b <;> simp only [e, if_true, if_false] <;> split <;> omega
theorem wS_540 (g : Good p s f pl) (hf : f ≤ 500) (hc : ∀ l ∈ pl, l.c ≤ 40) {row : List Nat} (hr : RowOk pl row) : ∀ i, i ≤ row.length → 0 ≤ wS p s f pl row i ∧ wS p s f pl row i ≤ 540 * i
  | 0, _ => by simp [wS]
  | i + 1, h => by
    have ih := wS_540 g hf hc hr i (by omega)
    have hk := hr.at (show i < row.length by omega)
    have h1 : (lk pl (ro row i)).c ≤ 40 := by
      have : lk pl (ro row i) = pl[ro row i] := by simp [lk, hk]
      rw [this]
      exact hc _ (List.getElem_mem hk)
    have h2 := (g.at hk).2.2.1
    have h3 := tt_500 g hf (u := lk pl (ro row (i - 1))) (v := lk pl (ro row i))
    show 0 ≤ wS p s f pl row i + _ + _ ∧ wS p s f pl row i + _ + _ ≤ _
    split <;> omega
/-- wide windows do nothing -/
theorem eS_wide (g : Good p s f pl) (hf : f ≤ 500) (hc : ∀ l ∈ pl, l.c ≤ 40) {row : List Nat} (hr : RowOk pl row) (hl : row.length ≤ 7) {ws : List (Int × Int)} {W : Int} (hW : 5000 ≤ W) (hw : ∀ k, k < pl.length → wi ws k = (0, W)) : ∀ i, i ≤ row.length → eS p s f pl ws row i = some (wS p s f pl row i)
  | 0, _ => rfl
  | i + 1, h => by
    have ih := eS_wide g hf hc hr hl hW hw i (by omega)
    have hk := hr.at (show i < row.length by omega)
    have h2 := wS_540 g hf hc hr i (by omega)
    have h3 := tt_500 g hf (u := lk pl (ro row (i - 1))) (v := lk pl (ro row i))
    show (eS p s f pl ws row i).bind _ = some (wS p s f pl row i + _ + _)
    rw [ih, Option.bind_some]
    simp only [hw _ hk]
    have e1 : ∀ z : Int, 0 ≤ z → z ≤ 500 → (if W < (if wS p s f pl row i + z < 0 then 0 else wS p s f pl row i + z) then (none : Option Int) else some ((if wS p s f pl row i + z < 0 then 0 else wS p s f pl row i + z) + (lk pl (ro row i)).c)) = some (wS p s f pl row i + z + (lk pl (ro row i)).c) := fun z z0 z1 => by
      rw [if_neg (show ¬ wS p s f pl row i + z < 0 by omega), if_neg (by omega)]
    exact e1 _ (by split <;> omega) (by split <;> omega)
end
end K06
namespace K06
open PySem (Str PyData)
open EV DPR
structure Nice (p s f : Int) (pl : List Lk) : Prop where
  g : Good p s f pl
  f5 : f ≤ 500
  c4 : ∀ l ∈ pl, l.c ≤ 40
  n1 : 1 ≤ pl.length
  n7 : pl.length ≤ 7
section
variable {p s f : Int} {pl : List Lk}
def wideW (pl : List Lk) (W : Int) : List (Int × Int) := List.replicate pl.length (0, W)
theorem wi_wide {W : Int} {k : Nat} (hk : k < pl.length) : wi (wideW pl W) k = (0, W) := by
  unfold wi wideW
  rw [List.getD_eq_getElem?_getD, List.getElem?_replicate, if_pos hk]; rfl
theorem E_wide (N : Nice p s f pl) {W : Int} (hW : 5000 ≤ W) {r : List Nat} (hr : RowOk pl r) (hl : r.length ≤ 7) : E p s f pl (wideW pl W) r = some (S0 p s f pl r) :=
  eS_wide N.g N.f5 N.c4 hr hl hW (fun k hk => wi_wide hk) _ (Nat.le_refl _)
theorem rep_enc {W : Int} : ∀ n : Nat, (List.replicate n [D.tup [.int 0, .int W]]).flatten = (List.replicate n ((0 : Int), W)).map encW
  | 0 => rfl
  | n + 1 => by rw [List.replicate_succ, List.flatten_cons, rep_enc n, List.replicate_succ]; rfl
/-- the best one, the first of the best ones -/
structure Best (p s f : Int) (pl : List Lk) (t : Int) (r : List Nat) : Prop where
  mem : r ∈ perms pl
  at_ : S0 p s f pl r = t
  le : ∀ q ∈ perms pl, t ≤ S0 p s f pl q
  first : ∀ q ∈ perms pl, S0 p s f pl q = t → ¬ iz q < iz r
theorem best_of (N : Nice p s f pl) : ∃ t r, (perms pl).foldl (bst (κ0 p s f pl)) none = some (t, r) ∧ Best p s f pl t r := by
  have h := best_first (κ := κ0 p s f pl) (rows := perms pl) (ords_up _ _)
  cases e : (perms pl).foldl (bst (κ0 p s f pl)) none with
  | none =>
    rw [e] at h
    have := h (List.range pl.length) (ords_range (Nat.le_refl _))
    cases this
  | some a =>
    rw [e] at h
    obtain ⟨h1, h2, h3⟩ := h
    refine ⟨a.1, a.2, rfl, h1, Option.some.inj h2, fun q hq => (h3 q hq _ rfl).1, fun q hq z => (h3 q hq _ rfl).2 z⟩
theorem full_perm {r : List Nat} (hn : r.Nodup) (hlt : ∀ i ∈ r, i < pl.length) : maskOf r = 2 ^ pl.length - 1 ↔ r ∈ perms pl := by
  rw [perms_iff]
  exact ⟨fun h => ⟨hn, hlt, mask_full hlt h⟩, fun h => full_mask hlt h.2.2⟩
/-! what is left behind the first ones of an order -/
theorem left_mem {n i : Nat} {o : List Nat} : i ∈ leftOf n o ↔ i < n ∧ i ∉ o := by
  unfold leftOf
  rw [List.mem_filter, List.mem_range]
  simp
theorem left_nodup {n : Nat} {o : List Nat} : (leftOf n o).Nodup := List.nodup_range.sublist List.filter_sublist
theorem nds_get {left r : List Nat} (h : ∀ i ∈ r, i < left.length) : ∀ x ∈ nds left r, x ∈ left := fun x hx => by
  obtain ⟨k, hk, rfl⟩ := List.mem_map.mp hx
  rw [← ro_get (h k hk)]
  exact List.getElem_mem _
theorem join_perm {o r : List Nat} (ho : o.Nodup) (hlt : ∀ i ∈ o, i < pl.length) (hr : r.Nodup) (hrl : ∀ i ∈ r, i < (leftOf pl.length o).length) (hm : maskOf r = 2 ^ (leftOf pl.length o).length - 1) : o ++ nds (leftOf pl.length o) r ∈ perms pl := by
  have hall := mask_full hrl hm
  have hget := nds_get hrl
  rw [perms_iff]
  refine ⟨?_, fun i hi => ?_, fun k hk => ?_⟩
  · rw [List.nodup_append]
    refine ⟨ho, ?_, fun a ha b hb e => ?_⟩
    · unfold nds
      refine List.nodup_iff_pairwise_ne.mpr (List.pairwise_map.mpr ((List.nodup_iff_pairwise_ne.mp hr).imp_of_mem fun {a b} ha hb hne e => ?_))
      rw [← ro_get (hrl a ha), ← ro_get (hrl b hb)] at e
      exact hne ((List.getElem_inj left_nodup).mp e)
    · subst e
      exact (left_mem.mp (hget a hb)).2 ha
  · rcases List.mem_append.mp hi with hi | hi
    · exact hlt i hi
    · exact (left_mem.mp (hget i hi)).1
  · by_cases z : k ∈ o
    · exact List.mem_append_left _ z
    · refine List.mem_append_right _ ?_
      obtain ⟨j, hj, ej⟩ := List.mem_iff_getElem.mp (left_mem.mpr ⟨hk, z⟩)
      refine List.mem_map.mpr ⟨j, hall j hj, ?_⟩
      rw [← ro_get hj]; exact ej
theorem split_perm {r : List Nat} {k : Nat} (hr : r ∈ perms pl) (hk : k ≤ r.length) : ∃ q : List Nat, q.Nodup ∧ (∀ i ∈ q, i < (leftOf pl.length (r.take k)).length) ∧ maskOf q = 2 ^ (leftOf pl.length (r.take k)).length - 1 ∧ nds (leftOf pl.length (r.take k)) q = r.drop k := by
  obtain ⟨h1, h2, h3⟩ := perms_iff.mp hr
  have hd : ∀ x ∈ r.drop k, x ∈ leftOf pl.length (r.take k) := fun x hx => by
    refine left_mem.mpr ⟨h2 x (List.mem_of_mem_drop hx), fun z => ?_⟩
    have h4 : (r.take k ++ r.drop k).Nodup := by rw [List.take_append_drop]; exact h1
    rw [List.nodup_append] at h4
    exact h4.2.2 x z x hx rfl
  have hdn : (r.drop k).Nodup := by
    have h4 : (r.take k ++ r.drop k).Nodup := by rw [List.take_append_drop]; exact h1
    exact (List.nodup_append.mp h4).2.1
  have hlm : ∀ x ∈ leftOf pl.length (r.take k), x < pl.length ∧ x ∉ r.take k := fun x hx => left_mem.mp hx
  generalize hL : leftOf pl.length (r.take k) = left at *
  have hln : left.Nodup := by rw [← hL]; exact left_nodup
  have gi : ∀ x, (hx : x ∈ left) → left.idxOf x < left.length := fun x hx => List.idxOf_lt_length_of_mem hx
  have ge : ∀ x, x ∈ left → ro left (left.idxOf x) = x := fun x hx => by
    rw [← ro_get (gi x hx)]
    exact List.getElem_idxOf _
  refine ⟨(r.drop k).map left.idxOf, ?_, fun i hi => ?_, ?_, ?_⟩
  · refine List.nodup_iff_pairwise_ne.mpr (List.pairwise_map.mpr ((List.nodup_iff_pairwise_ne.mp hdn).imp_of_mem fun {a b} ha hb hne e => hne ?_))
    rw [← ge a (hd a ha), ← ge b (hd b hb), e]
  · obtain ⟨x, hx, rfl⟩ := List.mem_map.mp hi
    exact gi x (hd x hx)
  · refine full_mask (fun i hi => ?_) fun j hj => ?_
    · obtain ⟨x, hx, rfl⟩ := List.mem_map.mp hi
      exact gi x (hd x hx)
    · have hm : left[j] ∈ left := List.getElem_mem hj
      obtain ⟨m1, m2⟩ := hlm _ hm
      have m3 : left[j] ∈ r.drop k := by
        have := h3 _ m1
        rw [← List.take_append_drop k r] at this
        rcases List.mem_append.mp this with z | z
        · exact absurd z m2
        · exact z
      refine List.mem_map.mpr ⟨left[j], m3, ?_⟩
      exact (List.getElem_inj (h₀ := gi _ hm) (h₁ := hj) hln).mp (List.getElem_idxOf _)
  · unfold nds
    rw [List.map_map]
    have : ∀ x ∈ r.drop k, (ro left ∘ left.idxOf) x = id x := fun x hx => ge x (hd x hx)
    rw [List.map_congr_left this, List.map_id]
/-- the total that is found with more as the first ones -/
theorem rest_gt {t : Int} {r o : List Nat} (B : Best p s f pl t r) {k i : Nat} (hk : k < r.length) (ho : o = r.take k) (hi : i < ro r k) (hio : i ∉ o) {R : Int} (h1 : ∃ q, (q.Nodup ∧ ∀ j ∈ q, j < (leftOf pl.length (o ++ [i])).length) ∧ maskOf q = 2 ^ (leftOf pl.length (o ++ [i])).length - 1 ∧ cst p s f pl i (nds (leftOf pl.length (o ++ [i])) q) = R) : S0 p s f pl (o ++ [i]) + R ≠ t := by
  intro e
  obtain ⟨q, ⟨q1, q2⟩, q3, q4⟩ := h1
  obtain ⟨b1, b2, b3⟩ := perms_iff.mp B.mem
  have hk' := b2 (ro r k) (by rw [← ro_get hk]; exact List.getElem_mem hk)
  have hm := join_perm (pl := pl) (o := o ++ [i]) (nodup_snoc.mpr ⟨by rw [ho]; exact b1.sublist (List.take_sublist k r), hio⟩) (fun j hj => by
    rcases List.mem_append.mp hj with hj | hj
    · rw [ho] at hj; exact b2 j (List.mem_of_mem_take hj)
    · rw [List.mem_singleton.mp hj]; omega) q1 q2 q3
  have e2 : S0 p s f pl ((o ++ [i]) ++ nds (leftOf pl.length (o ++ [i])) q) = t := by
    rw [S0_app _ (by simp), lastN_snoc, q4]; exact e
  refine B.first _ hm e2 ?_
  -- smaller at the place k
  have er : r = o ++ [ro r k] ++ r.drop (k + 1) := by
    rw [ho, ← ro_get hk, ← List.take_succ_eq_append_getElem hk, List.take_append_drop]
  rw [er]
  unfold iz
  rw [List.map_append, List.map_append, List.map_append, List.map_append]
  refine app_lt (by simp) ?_
  rw [List.map_cons, List.map_nil, List.map_cons, List.map_nil]
  exact same_lt (by omega)
theorem rest_eq {t : Int} {r : List Nat} (B : Best p s f pl t r) {k : Nat} (hk : k < r.length) {R : Int} (h1 : ∃ q, (q.Nodup ∧ ∀ j ∈ q, j < (leftOf pl.length (r.take k ++ [ro r k])).length) ∧ maskOf q = 2 ^ (leftOf pl.length (r.take k ++ [ro r k])).length - 1 ∧ cst p s f pl (ro r k) (nds (leftOf pl.length (r.take k ++ [ro r k])) q) = R)
    (h2 : ∀ q, (q.Nodup ∧ ∀ j ∈ q, j < (leftOf pl.length (r.take k ++ [ro r k])).length) → maskOf q = 2 ^ (leftOf pl.length (r.take k ++ [ro r k])).length - 1 → R ≤ cst p s f pl (ro r k) (nds (leftOf pl.length (r.take k ++ [ro r k])) q)) : S0 p s f pl (r.take k ++ [ro r k]) + R = t := by
  have et : r.take k ++ [ro r k] = r.take (k + 1) := by rw [List.take_succ_eq_append_getElem hk, ro_get hk]
  obtain ⟨b1, b2, b3⟩ := perms_iff.mp B.mem
  have hnd : (r.take k ++ [ro r k]).Nodup := by rw [et]; exact b1.sublist (List.take_sublist _ r)
  have hlt : ∀ j ∈ r.take k ++ [ro r k], j < pl.length := fun j hj => by rw [et] at hj; exact b2 j (List.mem_of_mem_take hj)
  refine Int.le_antisymm ?_ ?_
  · obtain ⟨q, q1, q2, q3, q4⟩ := split_perm B.mem (k := k + 1) (by omega)
    rw [← et] at q2 q3 q4
    have := h2 q ⟨q1, q2⟩ q3
    rw [q4] at this
    have e := S0_app (p := p) (s := s) (f := f) (pl := pl) (r.drop (k + 1)) (r := r.take k ++ [ro r k]) (by simp)
    rw [lastN_snoc] at e
    rw [et, List.take_append_drop, B.at_, ← et] at e
    omega
  · obtain ⟨q, ⟨q1, q2⟩, q3, q4⟩ := h1
    have hm := join_perm hnd hlt q1 q2 q3
    have := B.le _ hm
    rw [S0_app _ (by simp), lastN_snoc, q4] at this
    exact this
end
end K06
namespace K06
open PySem (Str PyData)
open EV DPR
section
variable {p s f : Int} {pl : List Lk}
def LWi (p s f : Int) (pl : List Lk) (t : Int) (rs : List Nat) (x y : Int) (m : Tb) (n : Nat) (r : Env) (s' : Sto) : Prop := s' = [Bx x y, dT m] ∧ ∃ k o, k ≤ rs.length ∧ n = rs.length - k ∧ o = rs.take k ∧ ∃ a3 a9 a10, r = [some (.tup (pl.map Lk.d)), some (dm p s f), some (.ref 1), a3, some (.int t), some (.int pl.length), some (.tup ((wideW pl 10000000).map encW)), some (eo o), some (.int (k : Int)), a9, a10]
def LFo (p s f : Int) (pl : List Lk) (t : Int) (rs : List Nat) (x y : Int) (m : Tb) (o : List Nat) (k : Nat) (i : Nat) (r : Env) (s' : Sto) : Prop := s' = [Bx x y, dT m] ∧ i ≤ ro rs k ∧ ∃ a3 a9 a10, r = [some (.tup (pl.map Lk.d)), some (dm p s f), some (.ref 1), a3, some (.int t), some (.int pl.length), some (.tup ((wideW pl 10000000).map encW)), some (eo o), some (.int (k : Int)), a9, a10]
theorem ok_dt (x y : Int) (m : Tb) : okSt [Bx x y, dT m] := by
  unfold okSt
  simp [Cell.blw, blwAll, D.blw, encD, kII]
theorem least_W {x y t : Int} {rs : List Nat} {Q : D → Sto → Prop} (N : Nice p s f pl) (B : Best p s f pl t rs) (q : Q (.tup [.int t, eo rs]) [Bx x y]) : W (s__law_least [.tup (pl.map Lk.d), dm p s f] [Bx x y]) Q := by
  have g := N.g
  have hn := N.n7
  have hn1 := N.n1
  obtain ⟨b1, b2, b3⟩ := perms_iff.mp B.mem
  have hrl : rs.length = pl.length := (ords_mem B.mem).1
  refine fDef_W rfl ?_
  simp [b__law_least, begin_, LIM]
  refine ⟨by omega, ?_⟩
  have hwd : D.tup (List.replicate pl.length (D.tup [.int 0, .int 10000000])) = .tup ((wideW pl 10000000).map encW) := by
    unfold wideW
    rw [List.map_replicate]; rfl
  rw [hwd]
  refine lends_W g hn (by simp [wideW]) (fun k hk => by rw [wi_wide hk]; exact Int.le_refl 0) fun m h1 h2 hml => ?_
  simp
  rw [vShl_n, vSub_ii]
  obtain ⟨fl, hfl⟩ : ∃ fl : Nat, fl = 2 ^ pl.length - 1 := ⟨_, rfl⟩
  have efl : ((1 <<< pl.length : Nat) : Int) - 1 = (fl : Int) := by
    rw [hfl, Nat.one_shiftLeft]
    have := Nat.two_pow_pos pl.length
    omega
  rw [efl]
  refine ⟨by omega, ?_⟩
  rw [wLc]
  simp [wipeE, lcGo, LIM]
  refine ⟨rng_ok (by omega), ?_⟩
  rw [rng_nat]
  -- rows of all
  have hE : ∀ r, r ∈ perms pl → E p s f pl (wideW pl 10000000) r = some (S0 p s f pl r) := fun r hr => E_wide N (by omega) (rowOk hr) (by rw [(ords_mem hr).1]; exact hn)
  have hV : ∀ r, r ∈ perms pl → (sysE p s f pl (wideW pl 10000000)).V r := fun r hr => by
    obtain ⟨c1, c2, c3⟩ := perms_iff.mp hr
    exact ⟨(fun e => by have := c3 0 (by omega); rw [e] at this; cases this), c1, c2⟩
  have hent : ∀ r, r ∈ perms pl → ∃ v, look m (fl, lastN r) = some v ∧ v ≤ S0 p s f pl r := fun r hr => by
    obtain ⟨v, e1, e2⟩ := h2 r _ (hV r hr) (hE r hr) trivial
    have hm := (full_perm (pl := pl) (perms_iff.mp hr).1 (perms_iff.mp hr).2.1).mpr hr
    exact ⟨v, by rw [hm, ← hfl] at e1; exact e1, e2⟩
  have hrow : ∀ i v, look m (fl, i) = some v → ∃ r, r ∈ perms pl ∧ S0 p s f pl r = v := fun i v e => by
    obtain ⟨r, ⟨r1, r2, r3⟩, r4, r5⟩ := h1 _ _ e
    injection r4 with r6 _
    rw [hfl] at r6
    have hp := (full_perm r2 r3).mp r6.symm
    have r5' : E p s f pl (wideW pl 10000000) r = some v := r5
    rw [hE r hp] at r5'
    exact ⟨r, hp, Option.some.inj r5'⟩
  have hall : ∀ i, i < pl.length → ∃ v, look m (fl, i) = some v := fun i hi => by
    have hp : ((List.range pl.length).filter fun j => decide (j ≠ i)) ++ [i] ∈ perms pl := by
      rw [perms_iff]
      refine ⟨nodup_snoc.mpr ⟨List.nodup_range.sublist List.filter_sublist, fun z => ?_⟩, fun j hj => ?_, fun k hk => ?_⟩
      · have := (List.mem_filter.mp z).2
        simp at this
      · rcases List.mem_append.mp hj with hj | hj
        · exact List.mem_range.mp (List.mem_filter.mp hj).1
        · rw [List.mem_singleton.mp hj]; exact hi
      · by_cases z : k = i
        · subst z; simp
        · exact List.mem_append_left _ (List.mem_filter.mpr ⟨List.mem_range.mpr hk, by simpa using z⟩)
    obtain ⟨v, e1, _⟩ := hent _ hp
    rw [lastN_snoc] at e1
    exact ⟨v, e1⟩
  refine lc_pureA (List.range pl.length) nD (fun i => .int ((look m (fl, i)).getD 0)) (fun i hi => ?_) ?_
  · obtain ⟨v, hv⟩ := hall i (List.mem_range.mp hi)
    simp [LIM]
    rw [kII_e, vIdxA (by rfl), hv]
    simp
  · have hmm : (List.range pl.length).map (fun i => D.int ((look m (fl, i)).getD 0)) = ((List.range pl.length).map fun i => (look m (fl, i)).getD 0).map D.int := by rw [List.map_map]; rfl
    refine ⟨by simp; omega, ?_⟩
    rw [hmm]
    refine vMin_ints (fun e => by have e2 := congrArg List.length e; rw [List.length_map, List.length_range, List.length_nil] at e2; omega) fun R hR hmin => ?_
    have hRt : R = t := by
      refine Int.le_antisymm ?_ ?_
      · obtain ⟨v, e1, e2⟩ := hent rs B.mem
        have hlast : lastN rs < pl.length := by
          rw [lastN_ro (hV rs B.mem).1]
          exact (rowOk B.mem).at (by omega)
        have := hmin v (List.mem_map.mpr ⟨lastN rs, List.mem_range.mpr hlast, by rw [e1]; rfl⟩)
        have := B.at_
        omega
      · obtain ⟨i, hi, ei⟩ := List.mem_map.mp hR
        obtain ⟨v, hv⟩ := hall i (List.mem_range.mp hi)
        rw [hv, Option.getD_some] at ei
        obtain ⟨r, r1, r2⟩ := hrow i v hv
        have := B.le r r1
        omega
    subst hRt
    try simp
    refine while_ix (LWi p s f pl R rs x y m) (n := rs.length) ⟨rfl, 0, [], Nat.zero_le _, rfl, rfl, _, _, _, rfl⟩ fun n r s' H => ?_
    obtain ⟨rfl, k, o, hk, rfl, ho, a3, a9, a10, rfl⟩ := H
    have ol : o.length = k := by rw [ho, List.length_take]; omega
    by_cases hkl : k < rs.length
    · simp [eo, ol, show k < pl.length by omega]
      refine ⟨rng_ok (by omega), ?_⟩
      rw [rng_nat]
      have hon : o.Nodup := by rw [ho]; exact b1.sublist (List.take_sublist k rs)
      have holt : ∀ j ∈ o, j < pl.length := fun j hj => by rw [ho] at hj; exact b2 j (List.mem_of_mem_take hj)
      have hrk : ro rs k < pl.length := b2 _ (by rw [← ro_get hkl]; exact List.getElem_mem hkl)
      have hrko : ro rs k ∉ o := fun z => by
        have h4 : (rs.take (k + 1)).Nodup := b1.sublist (List.take_sublist _ rs)
        rw [List.take_succ_eq_append_getElem hkl, nodup_snoc, ro_get hkl, ← ho] at h4
        exact h4.2 z
      refine for_ix (LFo p s f pl R rs x y m o k) ⟨rfl, Nat.zero_le _, _, _, _, rfl⟩ (fun i hi r s' H => ?_) (fun r s' H => ?_)
      · obtain ⟨rfl, hik, a3, a9, a10, rfl⟩ := H
        have hi : i < pl.length := by simpa using hi
        simp
        rw [show eo o = .tup (o.map fun a : Nat => D.int (a : Int)) from rfl, vNotIn_m, any_nat, vbv]
        cases hio : o.contains i with
        | true =>
          simp
          have hne : i ≠ ro rs k := fun e => by
            rw [e] at hio
            exact hrko (by simpa using hio)
          exact ⟨rfl, by omega, _, _, _, rfl⟩
        | false =>
          have hin : i ∉ o := by simpa using hio
          simp [LIM]
          have eoi : D.tup (o.map (fun a : Nat => D.int (a : Int)) ++ [.int (i : Int)]) = eo (o ++ [i]) := by simp [eo]
          rw [eoi]
          have hrow : RowOk pl (o ++ [i]) := fun j hj => by
            rcases List.mem_append.mp hj with hj | hj
            · exact holt j hj
            · rw [List.mem_singleton.mp hj]; exact hi
          have hol : (o ++ [i]).length ≤ 7 := by simp; omega
          refine ⟨by omega, ?_⟩
          rw [lend_W g hrow (by simp [wideW]) (by omega)]
          rw [show eS p s f pl (wideW pl 10000000) (o ++ [i]) (o ++ [i]).length = some (S0 p s f pl (o ++ [i])) from E_wide N (by omega) hrow hol]
          refine lrest_W g hn (ok_dt x y m) hrow (by simp) (lastN_snoc o i) fun T hT1 hT2 => ?_
          show V1 (oAdd _ (.int (S0 p s f pl (o ++ [i]))) (.int T)) _
          rw [vAdd_ii, vEq_ii, vbv]
          by_cases hie : i = ro rs k
          · subst hie
            rw [ho] at hT1 hT2
            have := rest_eq B hkl hT1 hT2
            rw [← ho] at this
            rw [this]
            obtain ⟨o', ho'⟩ : ∃ o', o' = o ++ [ro rs k] := ⟨_, rfl⟩
            rw [← ho']
            simp
            rw [if_neg (by omega)]
            refine ⟨rs.length - (k + 1), by omega, rfl, k + 1, o', by omega, rfl, ?_, _, _, _, rfl⟩
            rw [ho', ho, List.take_succ_eq_append_getElem hkl, ro_get hkl]
          · have := rest_gt B hkl ho (by omega) hin hT1
            simp [this]
            exact ⟨rfl, by omega, _, _, _, rfl⟩
      · obtain ⟨rfl, hik, a3, a9, a10, rfl⟩ := H
        simp at hik
        omega
    · have hke : k = rs.length := by omega
      simp [eo, ol, show ¬ k < pl.length by omega, LIM]
      have eor : o = rs := by rw [ho, hke, List.take_length]
      rw [eor]
      have hlv : leave 1 (.tup [.int R, .tup (rs.map nD)]) [Bx x y, dT m] = (.tup [.int R, .tup (rs.map nD)], [Bx x y]) := leave_add (st := [Bx x y]) (ext := [dT m]) (ok_clean (by simp [Cell.clean, datAll, D.dat])) (blw_dat _ _ (by simp [D.dat, datAll]; exact dat_map fun _ _ => rfl))
      rw [hlv]
      exact q
end
end K06
namespace K06
open PySem (Str PyData)
open EV DPR
theorem leave_fst {n : Nat} {d : D} {st : Sto} : (leave n d st).1 = d := by
  unfold leave; split <;> rfl
theorem read_eq : ∀ m, s__law_read m = readN m
  | 0 => rfl
  | m + 1 => by
    show fDef 1 2 (b__law_read (s__law_read m)) = fDef 1 2 (readB (readN m))
    rw [read_eq m]; rfl
theorem nd_plain (l : List Nat) : plainAll (l.map nD) = true := plain_map fun a _ => rfl
theorem nd_good (l : List Nat) : goodAll (l.map nD) = true := good_map fun a _ => rfl
theorem nd_dp (l : List Nat) : dpAll (l.map nD) ≤ 1 := dp_map fun a _ => by simp [D.dp]
theorem nd_dq (l : List Nat) : dqAll (l.map nD) ≤ 0 := dq_map fun a _ => by simp [D.dq]
theorem nd_small (l : List Nat) : smallAll (l.map nD) = true := small_map fun a _ => rfl
def PlI (p : Int) (i : Nat) (acc : List D) (st : Sto) : Prop := ∃ (x y : Int) (pl : List Lk), BOk x y ∧ st = [Bx x y] ∧ acc = pl.map Lk.d ∧ pl.length = i ∧ ∀ l ∈ pl, l.ok p ∧ l.c ≤ 40
def TI (ns : List Int) (p s f : Int) (pl : List Lk) (x y : Int) (_ : Nat) (r : Env) (st : Sto) : Prop := st = [Bx x y] ∧ ∃ a6, r = [some (.scr ns), some (.ref 0), some (.int p), some (dm p s f), some (.tup (pl.map Lk.d)), some (.int pl.length), a6, none, none, none, none, none, none, none]
theorem fold_same {κ κ' : List Nat → Option Int} : ∀ (rows : List (List Nat)) (acc : Option (Int × List Nat)), (∀ r ∈ rows, κ r = κ' r) → rows.foldl (bst κ) acc = rows.foldl (bst κ') acc
  | [], _, _ => rfl
  | r :: rows, acc, h => by
    rw [List.foldl_cons, List.foldl_cons]
    have : bst κ acc r = bst κ' acc r := by
      unfold bst
      rw [h r List.mem_cons_self]
    rw [this]
    exact fold_same rows _ fun q hq => h q (List.mem_cons_of_mem _ hq)
def LoI (i : Nat) (acc : List D) (st : Sto) : Prop := ∃ (x y : Int) (ls : List Int), BOk x y ∧ st = [Bx x y] ∧ acc = ls.map D.int ∧ ls.length = i ∧ ∀ l ∈ ls, 0 ≤ l ∧ l < 120
def WnI (i : Nat) (acc : List D) (st : Sto) : Prop := ∃ (x y : Int) (ws : List (Int × Int)), BOk x y ∧ st = [Bx x y] ∧ acc = ws.map encW ∧ ws.length = i ∧ WOk ws
theorem dLe_nat (a b : Nat) : dLe (nD a) (nD b) = decide (a ≤ b) := by
  unfold dLe dLt
  rw [D.py, D.py, PySem.W.dataLt_int]
  by_cases h : a ≤ b
  · simp [h]
  · simp [h]; omega
theorem sort_nats {r l : List Nat} (h : r.Perm l) (hs : l.Pairwise (· ≤ ·)) : (r.map nD).mergeSort dLe = l.map nD := by
  have e := List.map_mergeSort (r := fun a b : Nat => decide (a ≤ b)) (s := dLe) (f := nD) (l := r) (fun a _ b _ => (dLe_nat a b).symm)
  rw [← e]
  congr 1
  have p1 := List.mergeSort_perm r (fun a b : Nat => decide (a ≤ b))
  have p2 := List.pairwise_mergeSort (le := fun a b : Nat => decide (a ≤ b)) (fun a b c h1 h2 => by simp at *; omega) (fun a b => by simp; omega) r
  exact (p1.trans h).eq_of_pairwise (fun a b _ _ h1 h2 => by simp at h1 h2; omega) p2 (hs.imp fun h => decide_eq_true h)
theorem vSorted_nats {r l : List Nat} {st : Sto} {Q : D → Prop} (h : r.Perm l) (hs : l.Pairwise (· ≤ ·)) (hl : r.length ≤ 1000) : V1 (bSorted st [.lst (r.map nD)]) Q ↔ Q (.lst (l.map nD)) := by
  have em : r.map nD = (r.map fun (i : Nat) => (i : Int)).map D.int := by rw [List.map_map]; rfl
  have e : bSorted st [.lst (r.map nD)] = some (.lst ((r.map nD).mergeSort dLe)) := by
    show (if Alk (r.map nD) ∧ ((r.map nD).all tupled = true ∨ (r.map nD).all untupled = true) ∧ (r.map nD).length ≤ LIM then some (D.lst ((r.map nD).mergeSort dLe)) else none) = _
    rw [if_pos ⟨by rw [em]; exact alk_ints _, .inr (by rw [List.all_map]; simp [untupled]), by simp [LIM]; omega⟩]
  rw [e, V1_some, sort_nats h hs]
theorem law_holds : ∀ ns : List Int, ns.length ≤ 63 → ∃ st, s_law [.scr ns] [] = some (.bl true, st) := fun ns _ => by
  have : W (s_law [.scr ns] []) fun d _ => d = .bl true := by
    refine fDef_W rfl ?_
    simp [b_law, begin_]
    refine stream_W fun x y hb => ?_
    try simp
    refine draw_W hb (by decide) (by decide) fun p0 x y p00 p01 hb => ?_
    try simp
    refine draw_W hb (by decide) (by decide) fun s0 x y s00 s01 hb => ?_
    try simp
    refine draw_W hb (by decide) (by decide) fun f x y f0 f1 hb => ?_
    simp [LIM, wLc, wipeE]
    refine draw_W hb (by decide) (by decide) fun n0 x y n00 n01 hb => ?_
    generalize hp : 1 + p0 = p at *
    generalize hs : 1 + s0 = s at *
    have en : 1 + n0 = ((n0.toNat + 1 : Nat) : Int) := by omega
    simp
    rw [en, rng_nat]
    refine ⟨rng_ok (by omega), ?_⟩
    simp only [lcGo]
    refine lc_ix (PlI p) ⟨x, y, [], hb, rfl, rfl, rfl, by simp⟩ (fun i hi acc st h => ?_) (fun acc st h => ?_)
    · obtain ⟨x, y, pl, hb, rfl, rfl, hl, hok⟩ := h
      simp
      refine draw_W hb (by omega) (by omega) fun l1 x1 y1 b1 b2 hb1 => ?_
      refine draw_W hb1 (by decide) (by decide) fun l2 x2 y2 b3 b4 hb2 => ?_
      simp
      refine draw_W hb2 (by decide) (by decide) fun l3 x3 y3 b5 b6 hb3 => ?_
      simp [LIM]
      refine ⟨x3, y3, pl ++ [⟨l1, l2 - 1, 1 + l3⟩], hb3, rfl, by simp [Lk.d], by simp [hl], fun l hl => ?_⟩
      rcases List.mem_append.mp hl with hl | hl
      · exact hok l hl
      · rw [List.mem_singleton.mp hl]
        exact ⟨⟨b1, b2, by show 1 ≤ 1 + l3; omega, by show 1 + l3 ≤ 10000; omega⟩, by show 1 + l3 ≤ 40; omega⟩
    · obtain ⟨x, y, pl, hb, rfl, rfl, hl, hok⟩ := h
      simp at hl
      have g : Good p s f pl := ⟨by omega, by omega, by omega, by omega, by omega, by omega, fun l h => (hok l h).1⟩
      have N : Nice p s f pl := ⟨g, by omega, fun l h => (hok l h).2, by omega, by omega⟩
      have n1 := N.n1
      have n7 := N.n7
      have hp0 : 0 < p := by omega
      have hs0 : 0 < s := by omega
      simp
      refine ⟨by omega, rng_ok (by omega), ?_⟩
      rw [rng_nat]
      simp only [forGo]
      refine for_ix (TI ns p s f pl x y) ⟨rfl, _, rfl⟩ (fun i hi r st H => ?_) (fun r st H => ?_)
      · obtain ⟨rfl, a6, rfl⟩ := H
        have hi : i < pl.length := by simpa using hi
        have h0 : (0 : Nat) < pl.length := by omega
        have at0 : L2.atI (pl.map Lk.d) 0 = some (lk pl 0).d := lk_at (i := 0) h0
        simp [wTold, lk_at hi, at0]
        rw [turn_W (g.at hi) (g.at h0) g.p1 g.p2 g.s1 g.s2 g.f1 g.f2, read_eq, read_W 6 (by rfl) (by simp [D.dp]) (by rfl), lturn_W hp0 hs0 g.s2 g.f1]
        refine ⟨by simp [LIM], ?_⟩
        rw [vNe_self (by rfl) (by simp [D.dq, dqAll])]
        simp
        exact ⟨rfl, _, rfl⟩
      · obtain ⟨rfl, a6, rfl⟩ := H
        obtain ⟨t, rs, hf, B⟩ := best_of N
        have hrl := (ords_mem B.mem).1
        simp
        refine least_W N B ?_
        simp [wTold, read_eq]
        have ep := nd_plain rs
        have ed := nd_dp rs
        have es := nd_small rs
        have eg := nd_good rs
        have eq := nd_dq rs
        rw [quick_W g n1 n7, hf]
        show W (readN 6 [.tup [.int t, eo rs]] _) _
        rw [read_W 6 (by simp [D.plain, plainAll, eo, ep]) (by simp [D.dp, dpAll, eo]; omega) (by simp [D.small, smallAll, eo, es, LIM]; omega)]
        refine ⟨by simp [LIM], ?_⟩
        rw [vNe_self (by simp [D.good, goodAll, eo, eg]) (by simp [D.dq, dqAll, eo]; omega)]
        simp only [vbv, Bool.false_eq_true, if_false]
        have hwd : D.tup (List.replicate pl.length (D.tup [.int 0, .int 10000])) = .tup ((wideW pl 10000).map encW) := by
          unfold wideW
          rw [List.map_replicate]; rfl
        have hwl : (wideW pl 10000).length = pl.length := by simp [wideW]
        have hwo : WOk (wideW pl 10000) := fun w hw => by
          rw [List.eq_of_mem_replicate hw]
          exact ⟨by decide, by decide, by decide, by decide⟩
        have hsame : (perms pl).foldl (bst (κ1 p s f pl (wideW pl 10000))) none = some (t, rs) := by
          rw [← hf]
          refine fold_same _ _ fun r hr => ?_
          exact E_wide N (by omega) (rowOk hr) (by rw [(ords_mem hr).1]; exact n7)
        rw [hwd, right_W g n1 n7 hwl hwo, hsame]
        show 2 ≤ LIM ∧ 1 ≤ LIM ∧ _ ∧ W (readN 6 [eo rs] _) _
        rw [read_W 6 (by simp [D.plain, eo, ep]) (by simp [D.dp, eo]; omega) (by simp [D.small, eo, es, LIM]; omega)]
        refine ⟨by simp [LIM], by simp [LIM], by omega, by simp [LIM], ?_⟩
        rw [vNe_self (by simp [D.good, goodAll, eo, eg]) (by simp [D.dq, dqAll, eo]; omega)]
        simp only [vbv, Bool.false_eq_true, if_false]
        rw [wLc]
        simp [wipeE]
        refine ⟨rng_ok (by omega), ?_⟩
        rw [rng_nat]
        simp only [lcGo]
        refine lc_ix LoI ⟨x, y, [], hb, rfl, rfl, rfl, by simp⟩ (fun i hi acc st h => ?_) (fun acc st h => ?_)
        · obtain ⟨x, y, ls, hb, rfl, rfl, hl, hok⟩ := h
          simp
          refine draw_W hb (by decide) (by decide) fun l1 x1 y1 b1 b2 hb1 => ?_
          refine ⟨x1, y1, ls ++ [l1], hb1, rfl, by simp, by simp [hl], fun l hl => ?_⟩
          rcases List.mem_append.mp hl with hl | hl
          · exact hok l hl
          · rw [List.mem_singleton.mp hl]; omega
        · obtain ⟨x, y, ls, hb, rfl, rfl, hl, hlo⟩ := h
          simp at hl
          refine ⟨by simp [LIM]; omega, ?_⟩
          rw [wLc]
          simp [wipeE, lcGo]
          refine lc_ix WnI ⟨x, y, [], hb, rfl, rfl, rfl, by intro w hw; cases hw⟩ (fun i hi acc st h => ?_) (fun acc st h => ?_)
          · obtain ⟨x, y, ws, hb, rfl, rfl, hwl, hok⟩ := h
            have hi : i < ls.length := by simpa using hi
            have hli := hlo _ (List.getElem_mem hi)
            simp
            refine draw_W hb (by decide) (by decide) fun l1 x1 y1 b1 b2 hb1 => ?_
            simp [LIM]
            refine ⟨x1, y1, ws ++ [(ls[i], ls[i] + l1)], hb1, rfl, by simp [encW], by simp [hwl], fun l hl => ?_⟩
            rcases List.mem_append.mp hl with hl | hl
            · exact hok l hl
            · rw [List.mem_singleton.mp hl]
              exact ⟨by show 0 ≤ ls[i]; omega, by show ls[i] ≤ 10000; omega, by show 0 ≤ ls[i] + l1; omega, by show ls[i] + l1 ≤ 10000; omega⟩
          · obtain ⟨x, y, ws, hb, rfl, rfl, hwl, hwo⟩ := h
            simp at hwl
            have hw : ws.length = pl.length := by omega
            have hwi : ∀ k, k < pl.length → 0 ≤ (wi ws k).1 := fun k hk => by
              have : wi ws k = ws[k]'(by omega) := by
                unfold wi
                simp [show k < ws.length by omega]
              rw [this]
              exact (hwo _ (List.getElem_mem _)).1
            refine ⟨by simp [LIM]; omega, ?_⟩
            try simp
            refine lends_W g n7 hw hwi fun m h1 h2 hml => ?_
            obtain ⟨fl, hfl⟩ : ∃ fl : Nat, fl = 2 ^ pl.length - 1 := ⟨_, rfl⟩
            have efl : ((1 <<< pl.length : Nat) : Int) - 1 = (fl : Int) := by
              rw [hfl, Nat.one_shiftLeft]
              have := Nat.two_pow_pos pl.length
              omega
            have hV : ∀ r, r ∈ perms pl → (sysE p s f pl ws).V r := fun r hr => by
              obtain ⟨c1, c2, c3⟩ := perms_iff.mp hr
              exact ⟨(fun e => by have := c3 0 (by omega); rw [e] at this; cases this), c1, c2⟩
            have hent : ∀ r v, r ∈ perms pl → κ1 p s f pl ws r = some v → ∃ w, look m (fl, lastN r) = some w ∧ w ≤ v := fun r v hr e => by
              obtain ⟨w, e1, e2⟩ := h2 r v (hV r hr) e trivial
              have hm := (full_perm (pl := pl) (perms_iff.mp hr).1 (perms_iff.mp hr).2.1).mpr hr
              exact ⟨w, by rw [hm, ← hfl] at e1; exact e1, e2⟩
            have hrow : ∀ i v, look m (fl, i) = some v → ∃ r, r ∈ perms pl ∧ κ1 p s f pl ws r = some v := fun i v e => by
              obtain ⟨r, ⟨r1, r2, r3⟩, r4, r5⟩ := h1 _ _ e
              injection r4 with r6 _
              rw [hfl] at r6
              exact ⟨r, (full_perm r2 r3).mp r6.symm, r5⟩
            rw [wLc]
            simp [wipeE]
            refine ⟨rng_ok (by omega), ?_⟩
            rw [rng_nat]
            simp only [lcGo]
            refine lc_pure (List.range pl.length) nD (fun i => (look m (fl, i)).isSome) (fun i => .int ((look m (fl, i)).getD 0)) (fun i hi => ?_) ?_
            · simp
              rw [vShl_n, vSub_ii, efl]
              refine ⟨by omega, by simp [LIM], ?_⟩
              rw [kII_e, vInA (by rfl)]
              cases hv : look m (fl, i) with
              | none => simp
              | some v =>
                simp
                rw [vShl_n, vSub_ii, efl]
                refine ⟨by omega, by simp [LIM], ?_⟩
                rw [kII_e, vIdxA (by rfl), hv]
                simp
            · generalize hvl : ((List.range pl.length).filter fun i => (look m (fl, i)).isSome) = is
              have his : ∀ i, i ∈ is ↔ i < pl.length ∧ (look m (fl, i)).isSome = true := fun i => by rw [← hvl, List.mem_filter, List.mem_range]
              have hisl : is.length ≤ 7 := by
                rw [← hvl]
                refine Nat.le_trans (List.length_filter_le _ _) ?_
                simpa using n7
              have hmm : is.map (fun i => D.int ((look m (fl, i)).getD 0)) = (is.map fun i => (look m (fl, i)).getD 0).map D.int := by rw [List.map_map]; rfl
              rw [hmm]
              generalize hvs : (is.map fun i => (look m (fl, i)).getD 0) = vs
              have hvsl : vs.length ≤ 7 := by rw [← hvs]; simpa using hisl
              refine ⟨by simp [LIM]; omega, ?_⟩
              have bf := best_first (κ := κ1 p s f pl ws) (rows := perms pl) (ords_up _ _)
              rw [right_W g n1 n7 hw hwo]
              have eql : ∀ (st : Sto) (Q : D → Prop), V1 (oEq st (.lst (vs.map D.int)) (.lst [])) Q ↔ Q (.bl vs.isEmpty) := fun st Q => by
                rw [vEq_d (by simp only [D.good]; exact good_map fun _ _ => rfl) (by rfl) (by simp [D.dq]) (by decide)]
                cases vs <;> simp [D.py, pyAll, PyData.eqv, PyData.eqvAll]
              cases hb : (perms pl).foldl (bst (κ1 p s f pl ws)) none with
              | none =>
                rw [hb] at bf
                have hnil : vs = [] := by
                  rw [← hvs]
                  have : is = [] := List.eq_nil_iff_forall_not_mem.mpr fun i hi => by
                    have := ((his i).mp hi).2
                    cases hv : look m (fl, i) with
                    | none => rw [hv] at this; cases this
                    | some v =>
                      obtain ⟨r, r1, r2⟩ := hrow i v hv
                      rw [bf r r1] at r2
                      cases r2
                  rw [this]; rfl
                simp only
                rw [read_W 6 (by rfl) (by decide) (by rfl), eql, hnil]
                simp
                refine ⟨by simp [LIM], ?_⟩
                rw [vEq_self (by rfl) (by decide)]
                exact leave_fst
              | some a =>
                rw [hb] at bf
                obtain ⟨a1, a2, a3⟩ := bf
                simp only
                have ap := nd_plain a.2
                have ad := nd_dp a.2
                have as := nd_small a.2
                have hal := (ords_mem a1).1
                rw [read_W 6 (by simp [D.plain, eo, ap]) (by simp [D.dp, eo]; omega) (by simp [D.small, eo, as, LIM]; omega), eql]
                obtain ⟨w, w1, w2⟩ := hent a.2 a.1 a1 a2
                have hlast : lastN a.2 < pl.length := by
                  rw [lastN_ro (hV _ a1).1]
                  exact (rowOk a1).at (by omega)
                have hwv : w ∈ vs := by
                  rw [← hvs]
                  exact List.mem_map.mpr ⟨lastN a.2, (his _).mpr ⟨hlast, by rw [w1]; rfl⟩, by rw [w1]; rfl⟩
                have hne : vs.isEmpty = false := by
                  rw [List.isEmpty_eq_false_iff]
                  intro z
                  rw [z] at hwv
                  cases hwv
                rw [hne]
                simp [eo]
                have hpr := perms_iff.mp a1
                rw [vSortedA_t, vSorted_nats (perm_range hpr.1 hpr.2.1 hpr.2.2) (List.pairwise_lt_range.imp fun h => Nat.le_of_lt h) (by omega)]
                refine ⟨rng_ok (by omega), by simp [LIM]; omega, ?_⟩
                rw [vEq_self (by simp only [D.good]; exact nd_good _) (by have := nd_dq (List.range pl.length); simp [D.dq]; omega)]
                simp
                rw [show D.tup (a.2.map nD) = eo a.2 from rfl, lend_W g (rowOk a1) hw (by omega)]
                rw [show eS p s f pl ws a.2 a.2.length = some a.1 from a2]
                refine vMin_ints (fun z => by rw [z] at hwv; cases hwv) fun R hR hmin => ?_
                have hRa : R = a.1 := by
                  refine Int.le_antisymm ?_ ?_
                  · have := hmin w hwv; omega
                  · rw [← hvs] at hR
                    obtain ⟨i, hi, ei⟩ := List.mem_map.mp hR
                    have h5 := ((his i).mp hi).2
                    cases hv : look m (fl, i) with
                    | none => rw [hv] at h5; cases h5
                    | some v =>
                      rw [hv, Option.getD_some] at ei
                      obtain ⟨r, r1, r2⟩ := hrow i v hv
                      have := (a3 r r1 v r2).1
                      omega
                rw [hRa]
                show V1 (oEq _ (.int a.1) (.int a.1)) _
                rw [vEq_ii]
                simp [leave_fst]
  obtain ⟨d, st, e, rfl⟩ := this
  exact ⟨st, e⟩
end K06
open PySem PySem.W PyProof.Rows
set_option maxHeartbeats 0 in
theorem PySem.Challenge.cw_everysky_k06_orders_by_sets_holds : PySem.Challenge.rw_everysky_k06_orders_by_sets.Holds := by
  w_on; o_law; k_head; (case hw => w_witness2)
  k_fill
  refine EV.walk_gT (l := PySem.Challenge.rw_everysky_k06_orders_by_sets) (n := 63) (k := 8) (x := "script") rfl (by decide) rfl ⟨⟨rfl, by decide, by decide⟩, rfl⟩ (fun w h Y => PySem.W.km_in_of Y) ?F
  case F =>
    intro w mg fa h KX G hmg
    refine' K06.all_mk K06.law_holds KX G hmg ?a0 ?l0 ?c0 ?k0 ?a1 ?l1 ?c1 ?k1 ?a2 ?l2 ?c2 ?k2 ?a3 ?l3 ?c3 ?k3 ?a4 ?l4 ?c4 ?k4 ?a5 ?l5 ?c5 ?k5 ?a6 ?l6 ?c6 ?k6 ?a7 ?l7 ?c7 ?k7 ?a8 ?l8 ?c8 ?k8 ?a9 ?l9 ?c9 ?k9 ?a10 ?l10 ?c10 ?k10 ?a11 ?l11 ?c11 ?k11 ?a12 ?l12 ?c12 ?k12 ?a13 ?l13 ?c13 ?k13 ?a14 ?l14 ?c14 ?k14 ?a15 ?l15 ?c15 ?k15 ?a16 ?l16 ?c16 ?k16 ?a17 ?l17 ?c17 ?k17 ?a18 ?l18 ?c18 ?k18 ?a19 ?l19 ?c19 ?k19 ?a20 ?l20 ?c20 ?k20 ?a21 ?l21 ?c21 ?k21 ?a22 ?l22 ?c22 ?k22 ?a23 ?l23 ?c23 ?k23 ?a24 ?l24 ?c24 ?k24 ?y24 ?v24 ?n24 ?r24 ?dist ?z_abs ?z_all ?z_bool ?z_enumerate ?z_int ?z_isinstance ?z_len ?z_list ?z_max ?z_min ?z_range ?z_sorted ?z_str ?z_tuple ?g_MOST_LOOKS ?g_MOST_NUMBER ?g_MOST_STEPS
    (case a0 => k_is); (case l0 => k_is); (case c0 => k_is); (case k0 => k_is); (case a1 => k_is); (case l1 => k_is); (case c1 => k_is); (case k1 => k_is); (case a2 => k_is); (case l2 => k_is); (case c2 => k_is); (case k2 => k_is); (case a3 => k_is); (case l3 => k_is); (case c3 => k_is); (case k3 => k_is); (case a4 => k_is); (case l4 => k_is); (case c4 => k_is); (case k4 => k_is); (case a5 => k_is); (case l5 => k_is); (case c5 => k_is); (case k5 => k_is); (case a6 => k_is); (case l6 => k_is); (case c6 => k_is); (case k6 => k_is); (case a7 => k_is); (case l7 => k_is); (case c7 => k_is); (case k7 => k_is); (case a8 => k_is); (case l8 => k_is); (case c8 => k_is); (case k8 => k_is); (case a9 => k_is); (case l9 => k_is); (case c9 => k_is); (case k9 => k_is); (case a10 => k_is); (case l10 => k_is); (case c10 => k_is); (case k10 => k_is); (case a11 => k_is); (case l11 => k_is); (case c11 => k_is); (case k11 => k_is); (case a12 => k_is); (case l12 => k_is); (case c12 => k_is); (case k12 => k_is); (case a13 => k_is); (case l13 => k_is); (case c13 => k_is); (case k13 => k_is); (case a14 => k_is); (case l14 => k_is); (case c14 => k_is); (case k14 => k_is); (case a15 => k_is); (case l15 => k_is); (case c15 => k_is); (case k15 => k_is); (case a16 => k_is); (case l16 => k_is); (case c16 => k_is); (case k16 => k_is); (case a17 => k_is); (case l17 => k_is); (case c17 => k_is); (case k17 => k_is); (case a18 => k_is); (case l18 => k_is); (case c18 => k_is); (case k18 => k_is); (case a19 => k_is); (case l19 => k_is); (case c19 => k_is); (case k19 => k_is); (case a20 => k_is); (case l20 => k_is); (case c20 => k_is); (case k20 => k_is); (case a21 => k_is); (case l21 => k_is); (case c21 => k_is); (case k21 => k_is); (case a22 => k_is); (case l22 => k_is); (case c22 => k_is); (case k22 => k_is); (case a23 => k_is); (case l23 => k_is); (case c23 => k_is); (case k23 => k_is); (case a24 => k_is); (case l24 => k_is); (case c24 => k_is); (case k24 => k_is); (case y24 => k_is); (case v24 => exact rfl); (case n24 => kernel_rfl); (case r24 => exact rfl); (case dist => decide); (case z_abs => k_is); (case z_all => k_is); (case z_bool => k_is); (case z_enumerate => k_is); (case z_int => k_is); (case z_isinstance => k_is); (case z_len => k_is); (case z_list => k_is); (case z_max => k_is); (case z_min => k_is); (case z_range => k_is); (case z_sorted => k_is); (case z_str => k_is); (case z_tuple => k_is); (case g_MOST_LOOKS => k_is); (case g_MOST_NUMBER => k_is); (case g_MOST_STEPS => k_is)
