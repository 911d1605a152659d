import PyProof.Rows.All
import Wide.All
import OpenK.AllK
import Wide.FinOn
import HandS.ForMost
import HandS.NoneIn
import HandS.Walk
import HandS.Zip
import HandS.WideBits
import HandS.Wide
import HandS.TupAny
import HandS.Rev
import HandS.RevRange
import HandS.Style
import HandS.SortInts
import HandS.IsInst
import HandS.Exc
import HandS.WordsExc
import PyProof.LongRange
import KE.GoesMore
import HandS.Words
import HandS.Defaults
import HandS.SortOrd
import HandS.SortRule
import HandS.Conv
import HandS.Dict
import PyProof.MaxThree
import HandS.ExcOwn
import HandS.EndBits
import PySem.Challenge.RW_driftwood_k18_a_thing_made
set_option Elab.async false
set_option linter.all false
set_option maxRecDepth 100000
/-! An interpreter of the Python subset over plain data. -/
namespace Dw
open PySem

inductive D where
  | non
  | bl (b : Bool)
  | int (i : Int)
  | str (s : Str)
  | tup (xs : List D)
  | lst (xs : List D)
  | ins (c : Nat) (fs : List D)
  | dcK (ks : List L2.Key) (vs : List D)
  | dcT (ks : List (List L2.Key)) (vs : List D)

/-- what an evaluation ends in: no word, a value, an exception of a class -/
inductive M (α : Type) where
  | no
  | ok (a : α)
  | ex (c : Nat)
def M.bind {α β : Type} : M α → (α → M β) → M β
  | .no, _ => .no
  | .ok a, f => f a
  | .ex c, _ => .ex c

/-- a slot: without a value, a value that may be shared, a list of one's own -/
inductive Sl where
  | no
  | sh (d : D)
  | ow (ds : List D)
  | od (d : D)

inductive Bop where
  | add | sub | mul | rep | div | mod | pow | shl | shr | band | bor | bxor
inductive Cop where
  | eq | ne | lt | le | gt | ge | isn | nisn | isb | nisb | inn | nin
/-- what is walked -/
inductive Ik where
  | seq | rng1 | rng2 | rng3 | enm | zip | rev | rvr1 | rvr2
/-- built-ins by name -/
inductive Bi where
  | len | min2 | max2 | min3 | max3 | min1 | max1 | sum | abs | tup | lst | int | any | all | sor
inductive Ty where
  | int | bl | str | tup

inductive Ex where
  | var (i : Nat)
  | bor (i : Nat)
  | con (d : D)
  | glb (d : D)
  | bin (op : Bop) (a b : Ex)
  | neg (a : Ex)
  | nt (a : Ex)
  | cmp (op : Cop) (a b : Ex)
  | chain (o p : Cop) (a b c : Ex)
  | and (a b : Ex)
  | or (a b : Ex)
  | ite (c a b : Ex)
  | tup (es : List Ex)
  | lst (es : List Ex)
  | idx (a b : Ex)
  | slc (a : Ex) (lo hi : Option Ex)
  | call (f : Nat) (es : List Ex) (dfl : List D)
  | callk (f : Nat) (es ks : List Ex) (dfl : List D) (ord : List Nat)
  | bi (b : Bi) (es : List Ex)
  | isi (a : Ex) (t : Ty)
  | comp (elt : Ex) (tg : List Nat) (k : Ik) (es : List Ex) (cond : Option Ex)
  | rvs (l : Bool) (a : Ex)
  | lrg (a b : Ex)
  | fld (tbl : List (Nat × Nat)) (a : Ex)
  | mth (tbl : List (Nat × Nat)) (a : Ex) (es : List Ex)
  | mk (c n : Nat) (es : List Ex)

def bopOk : Bop → Operator → Bool
  | .add, .Add => true | .sub, .Sub => true | .mul, .Mult => true | .div, .FloorDiv => true | .mod, .Mod => true | .pow, .Pow => true | .shl, .LShift => true | .shr, .RShift => true
  | .band, .BitAnd => true | .bor, .BitOr => true | .bxor, .BitXor => true | _, _ => false
def copOk : Cop → CmpOp → Bool
  | .eq, .Eq => true | .ne, .NotEq => true | .lt, .Lt => true | .le, .LtE => true | .gt, .Gt => true | .ge, .GtE => true | .isn, .Is => true | .nisn, .IsNot => true
  | .isb, .Is => true | .nisb, .IsNot => true | .inn, .In => true | .nin, .NotIn => true | _, _ => false
/-! ### operations -/
def mulB : Nat := 2 ^ 2000
/-- beyond each cell of a script, by far -/
def cellB : Nat := 2 ^ 1100000
def mulOk (i j : Int) : Bool := (decide (i.natAbs < mulB) && decide (j.natAbs < mulB)) || decide (i.natAbs < 2 ^ 64) || decide (j.natAbs < 2 ^ 64) || (decide (i.natAbs < cellB) && decide (j.natAbs < cellB))
def divOk (j : Int) : Bool := !decide (j = 0) && decide (j.natAbs < mulB)
def powOk (i j : Int) : Bool := decide (0 ≤ j) && ((decide (j ≤ 1000000) && decide (i.natAbs < 2 ^ 64)) || (decide (j ≤ 60000) && decide (i.natAbs < mulB)))
def shlOk (i j : Int) : Bool := decide (0 ≤ j) && decide (j ≤ 1000000) && decide (i.natAbs < mulB)
def fits (n : Nat) : Bool := decide (n ≤ sizeLine)
def gd {α : Type} (b : Bool) (a : α) : M α := match b with
  | true => .ok a
  | false => .no

def binD : Bop → D → D → M D
  | .add, .int i, .int j => .ok (.int (i + j))
  | .add, .tup xs, .tup ys => gd (fits (xs.length + ys.length)) (.tup (xs ++ ys))
  | .add, .lst xs, .lst ys => gd (fits (xs.length + ys.length)) (.lst (xs ++ ys))
  | .add, .str x, .str y => gd (fits (x.length + y.length)) (.str (x ++ y))
  | .sub, .int i, .int j => .ok (.int (i - j))
  | .mul, .int i, .int j => gd (mulOk i j) (.int (i * j))
  | .rep, .lst xs, .int j => gd (decide (j < 2 ^ 40) && decide (-(2 ^ 40) < j) && fits (xs.length * j.toNat)) (.lst (List.replicate j.toNat xs).flatten)
  | .div, .int i, .int j => gd (divOk j) (.int (i.fdiv j))
  | .mod, .int i, .int j => gd (!decide (j = 0)) (.int (i.fmod j))
  | .pow, .int i, .int j => gd (powOk i j) (.int (i ^ j.toNat))
  | .shl, .int i, .int j => gd (shlOk i j) (.int (i * 2 ^ j.toNat))
  | .shr, .int i, .int j => gd (decide (0 ≤ j)) (.int (i / 2 ^ j.toNat))
  | .band, .int i, .int j => .ok (.int (Builtin.bitAnd i j))
  | .bor, .int i, .int j => .ok (.int (Builtin.bitOr i j))
  | .bxor, .int i, .int j => .ok (.int (Builtin.bitXor i j))
  | _, _, _ => .no

mutual
def eqD : D → D → Bool
  | .non, .non => true
  | .bl a, .bl b => a == b
  | .bl a, .int j => (if a then 1 else 0) == j
  | .int i, .bl b => i == (if b then 1 else 0)
  | .int i, .int j => i == j
  | .str x, .str y => x == y
  | .lst xs, .lst ys => eqDs xs ys
  | .tup xs, .tup ys => eqDs xs ys
  | _, _ => false
def eqDs : List D → List D → Bool
  | [], [] => true
  | x :: xs, y :: ys => eqD x y && eqDs xs ys
  | _, _ => false
end
mutual
def toPy : D → PyData
  | .non => .none
  | .bl b => .bool b
  | .int i => .int i
  | .str x => .str x
  | .tup xs => .tuple (toPys xs)
  | .lst xs => .list (toPys xs)
  | .ins _ _ => .none
  | .dcK _ _ => .none
  | .dcT _ _ => .none
def toPys : List D → List PyData
  | [] => []
  | x :: xs => toPy x :: toPys xs
end
/-- data that may be compared by ==, to a depth -/
def plainD : Nat → D → Bool
  | _, .non => true
  | _, .bl _ => true
  | _, .int _ => true
  | _, .str x => PyData.strOk x
  | 0, _ => false
  | n + 1, .tup xs => xs.all (plainD n)
  | n + 1, .lst xs => xs.all (plainD n)
  | _, .ins _ _ => false
  | _, .dcK _ _ => false
  | _, .dcT _ _ => false
def flatD : D → Bool
  | .non => true
  | .bl _ => true
  | .int _ => true
  | .str _ => true
  | _ => false
def intsOf : List D → Option (List Int)
  | [] => some []
  | .int i :: r => match intsOf r with
    | some l => some (i :: l)
    | none => none
  | _ :: _ => none
def blsOf : List D → Option (List Bool)
  | [] => some []
  | .bl i :: r => match blsOf r with
    | some l => some (i :: l)
    | none => none
  | _ :: _ => none
def seqOf : D → Option (List D)
  | .tup xs => some xs
  | .lst xs => some xs
  | _ => none
def inD (x : D) (xs : List D) : Bool := xs.any fun y => eqD y x
def isNon : D → Bool
  | .non => true
  | _ => false
/-! keys, dicts -/
def keyOf : D → Option L2.Key
  | .int i => some (.inl i)
  | .str x => some (.inr x)
  | _ => none
def keysOf : List D → Option (List L2.Key)
  | [] => some []
  | d :: r => match keyOf d, keysOf r with
    | some k, some l => some (k :: l)
    | _, _ => none
section
variable {κ : Type} [DecidableEq κ]
def getK : List κ → List D → κ → Option D
  | k' :: ks, v :: vs, k => if k' = k then some v else getK ks vs k
  | _, _, _ => none
def setK : List κ → List D → κ → D → List D
  | k' :: ks, v :: vs, k, d => (if k' = k then d else v) :: setK ks vs k d
  | _, vs, _, _ => vs
def putKs (ks : List κ) (k : κ) : List κ := if k ∈ ks then ks else ks ++ [k]
def putVs (ks : List κ) (vs : List D) (k : κ) (d : D) : List D := if k ∈ ks then setK ks vs k d else vs ++ [d]
end
def tkeyOf : D → Option (List L2.Key)
  | .tup xs => keysOf xs
  | _ => none
/-- is it in the dict? -/
def dinD (x : D) : D → M Bool
  | .dcK ks vs => match keyOf x with
    | some k => .ok (getK ks vs k).isSome
    | none => .no
  | .dcT ks vs => match tkeyOf x with
    | some k => .ok (getK ks vs k).isSome
    | none => .no
  | _ => .no
def optM {α : Type} : Option α → M α
  | some a => .ok a
  | none => .no
def dgetD : D → D → M D
  | .dcK ks vs, x => match keyOf x with
    | some k => optM (getK ks vs k)
    | none => .no
  | .dcT ks vs, x => match tkeyOf x with
    | some k => optM (getK ks vs k)
    | none => .no
  | _, _ => .no
def dputD : D → D → D → M D
  | .dcK ks vs, x, d => match keyOf x with
    | some k => gd (decide (ks.length < sizeLine)) (.dcK (putKs ks k) (putVs ks vs k d))
    | none => .no
  | .dcT ks vs, x, d => match tkeyOf x with
    | some k => gd (decide (ks.length < sizeLine)) (.dcT (putKs ks k) (putVs ks vs k d))
    | none => .no
  | _, _, _ => .no
def cmpD : Cop → D → D → M D
  | .eq, a, b => gd (plainD 60 a && plainD 60 b) (.bl (eqD a b))
  | .ne, a, b => gd (plainD 60 a && plainD 60 b) (.bl (!eqD a b))
  | .lt, .int i, .int j => .ok (.bl (decide (i < j)))
  | .lt, .tup xs, .tup ys => match intsOf xs, intsOf ys with
    | some ns, some ms => .ok (.bl (HT.lexLt ns ms))
    | _, _ => .no
  | .le, .int i, .int j => .ok (.bl (decide (i ≤ j)))
  | .gt, .int i, .int j => .ok (.bl (decide (j < i)))
  | .ge, .int i, .int j => .ok (.bl (decide (j ≤ i)))
  | .isn, a, .non => .ok (.bl (isNon a))
  | .nisn, a, .non => .ok (.bl (!isNon a))
  | .isb, .bl a, .bl b => .ok (.bl (decide (a = b)))
  | .nisb, .bl a, .bl b => .ok (.bl (!decide (a = b)))
  | .inn, x, y => match seqOf y with
    | some ys => gd (flatD x && ys.all flatD) (.bl (inD x ys))
    | none => (dinD x y).bind fun b => .ok (.bl b)
  | .nin, x, y => match seqOf y with
    | some ys => gd (flatD x && ys.all flatD) (.bl (!inD x ys))
    | none => (dinD x y).bind fun b => .ok (.bl (!b))
  | _, _, _ => .no
def idxD : D → D → M D
  | .tup xs, .int i => match L2.atI xs i with
    | some d => .ok d
    | none => .no
  | .lst xs, .int i => match L2.atI xs i with
    | some d => .ok d
    | none => .no
  | d, x => dgetD d x
def cutD (xs : List D) (lo hi : Option Int) : List D := (xs.drop (HT.sIx xs.length 0 lo)).take (HT.sIx xs.length xs.length hi - HT.sIx xs.length 0 lo)
def slcD : D → Option Int → Option Int → M D
  | .tup xs, lo, hi => .ok (.tup (cutD xs lo hi))
  | .lst xs, lo, hi => .ok (.lst (cutD xs lo hi))
  | _, _, _ => .no
def maxOf : List Int → Option Int
  | [] => none
  | i :: r => match maxOf r with
    | some m => some (if i < m then m else i)
    | none => some i
def minOf : List Int → Option Int
  | [] => none
  | i :: r => match minOf r with
    | some m => some (if m < i then m else i)
    | none => some i
def insI (x : Int) : List Int → List Int
  | [] => [x]
  | y :: r => if x ≤ y then x :: y :: r else y :: insI x r
def sortI : List Int → List Int
  | [] => []
  | x :: r => insI x (sortI r)
def insT (x : List Int) : List (List Int) → List (List Int)
  | [] => [x]
  | y :: r => if HT.lexLt y x = true then y :: insT x r else x :: y :: r
def sortT : List (List Int) → List (List Int)
  | [] => []
  | x :: r => insT x (sortT r)
/-- rows of whole numbers, none of them empty -/
def rowsOf : List D → Option (List (List Int))
  | [] => some []
  | .tup (x :: xs) :: r => match intsOf (x :: xs), rowsOf r with
    | some ns, some l => some (ns :: l)
    | _, _ => none
  | _ :: _ => none
/-- keys that are rows of whole numbers -/
def intsK : List L2.Key → Option (List Int)
  | [] => some []
  | .inl i :: r => match intsK r with
    | some l => some (i :: l)
    | none => none
  | .inr _ :: _ => none
def rowsK : List (List L2.Key) → Option (List (List Int))
  | [] => some []
  | k :: r => match intsK k, rowsK r with
    | some ns, some l => some (ns :: l)
    | _, _ => none
/-- the number that a tuple begins with -/
def headD : D → Option Int
  | .tup (.int k :: _) => some k
  | _ => none
def headsOf : List D → Option (List Int)
  | [] => some []
  | d :: r => match headD d, headsOf r with
    | some k, some l => some (k :: l)
    | _, _ => none
def pickH (xs : List D) (k : Int) : D := (xs.find? fun d => decide (headD d = some k)).getD .non
def rowD (ns : List Int) : D := .tup (ns.map D.int)
/-- xs[::-1], list(reversed(xs)) -/
def rvsD (l : Bool) : D → M D
  | .lst xs => .ok (.lst xs.reverse)
  | .tup xs => match l with
    | true => .no
    | false => .ok (.tup xs.reverse)
  | _ => .no
def tyD : Ty → D → Bool
  | .int, .int _ => true
  | .int, .bl _ => true
  | .bl, .bl _ => true
  | .str, .str _ => true
  | .tup, .tup _ => true
  | _, _ => false
def noIns : D → Bool
  | .ins _ _ => false
  | .dcK _ _ => false
  | .dcT _ _ => false
  | _ => true
def biD : Bi → List D → M D
  | .len, [.tup xs] => .ok (.int (xs.length : Nat))
  | .len, [.lst xs] => .ok (.int (xs.length : Nat))
  | .min2, [.int i, .int j] => .ok (.int (if j < i then j else i))
  | .max2, [.int i, .int j] => .ok (.int (if j > i then j else i))
  | .min3, [.int a, .int b, .int c] => .ok (.int (if b < a then (if c < b then c else b) else (if c < a then c else a)))
  | .max3, [.int a, .int b, .int c] => .ok (.int (if b > a then (if c > b then c else b) else (if c > a then c else a)))
  | .sum, [.lst xs] => match intsOf xs with
    | some ns => .ok (.int ns.sum)
    | none => .no
  | .min1, [.lst xs] => match intsOf xs with
    | some ns => match minOf ns with
      | some m => .ok (.int m)
      | none => .no
    | none => .no
  | .max1, [.lst xs] => match intsOf xs with
    | some ns => match maxOf ns with
      | some m => .ok (.int m)
      | none => .no
    | none => .no
  | .abs, [.int i] => .ok (.int (if i < 0 then -i else i))
  | .tup, [.tup xs] => .ok (.tup xs)
  | .tup, [.lst xs] => .ok (.tup xs)
  | .lst, [.tup xs] => .ok (.lst xs)
  | .lst, [.lst xs] => .ok (.lst xs)
  | .int, [.int i] => .ok (.int i)
  | .int, [.bl b] => .ok (.int (if b then 1 else 0))
  | .any, [.lst xs] => match blsOf xs with
    | some bs => .ok (.bl (bs.any id))
    | none => .no
  | .all, [.lst xs] => match blsOf xs with
    | some bs => .ok (.bl (bs.all id))
    | none => .no
  | .sor, [.lst xs] => match intsOf xs with
    | some ns => .ok (.lst ((sortI ns).map D.int))
    | none => match rowsOf xs with
      | some nss => .ok (.lst ((sortT nss).map rowD))
      | none => match headsOf xs with
        | some ks => gd (decide ks.Nodup) (.lst ((sortI ks).map (pickH xs)))
        | none => .no
  | .sor, [.tup xs] => match intsOf xs with
    | some ns => .ok (.lst ((sortI ns).map D.int))
    | none => .no
  | .sor, [.dcT ks _] => match rowsK ks with
    | some nss => gd (nss.all fun ns => !ns.isEmpty) (.lst ((sortT nss).map rowD))
    | none => .no
  | _, _ => .no
def rgOk (a b : Int) : Bool := decide (-(2 ^ 62) ≤ a) && decide (a < 2 ^ 62) && decide (-(2 ^ 62) ≤ b) && decide (b < 2 ^ 62)
def rgD (a : Int) : Nat → List D
  | 0 => []
  | n + 1 => .int a :: rgD (a + 1) n
/-- i, i + c, .. (n of them) -/
def rgS (i c : Int) : Nat → List D
  | 0 => []
  | n + 1 => .int i :: rgS (i + c) c n
def rgN (i j c : Int) : Nat := if i < j then ((j - i - 1) / c).toNat + 1 else 0
/-- the items that are walked -/
def itD : Ik → List D → M (List D)
  | .seq, [.tup xs] => .ok xs
  | .seq, [.lst xs] => .ok xs
  | .rng1, [.int j] => gd (rgOk 0 j) (rgD 0 j.toNat)
  | .rng2, [.int i, .int j] => .ok (rgD i (j - i).toNat)
  | .rng3, [.int i, .int j, .int c] => gd (rgOk i j && decide (0 < c) && decide (c < 1073741824)) (rgS i c (rgN i j c))
  | .zip, [.tup xs, .tup ys] => .ok ((xs.zip ys).map fun p => .tup [p.1, p.2])
  | .zip, [.lst xs, .lst ys] => .ok ((xs.zip ys).map fun p => .tup [p.1, p.2])
  | .zip, [.lst xs, .tup ys] => .ok ((xs.zip ys).map fun p => .tup [p.1, p.2])
  | .zip, [.tup xs, .lst ys] => .ok ((xs.zip ys).map fun p => .tup [p.1, p.2])
  | .enm, [.lst xs] => .ok ((xs.zip (rgD 0 xs.length)).map fun p => .tup [p.2, p.1])
  | .enm, [.tup xs] => .ok ((xs.zip (rgD 0 xs.length)).map fun p => .tup [p.2, p.1])
  | .rev, [.lst xs] => .ok xs.reverse
  | .rev, [.tup xs] => .ok xs.reverse
  | .rvr1, [.int j] => gd (rgOk 0 j) (rgD 0 j.toNat).reverse
  | .rvr2, [.int i, .int j] => gd (rgOk i j) (rgD i (j - i).toNat).reverse
  | _, _ => .no

/-- list(range(i, j)) -/
def lrgD : D → D → M D
  | .int i, .int j => gd (rgOk i j && decide ((j - i).toNat ≤ 16777216)) (.lst (rgD i (j - i).toNat))
  | _, _ => .no
/-! ### expressions -/
def getV (ρ : List Sl) (i : Nat) : M D := match ρ[i]? with
  | some (.sh d) => .ok d
  | _ => .no
def getB (ρ : List Sl) (i : Nat) : M D := match ρ[i]? with
  | some (.ow ds) => .ok (.lst ds)
  | some (.od d) => .ok d
  | _ => .no
def setV (ρ : List Sl) (i : Nat) (d : D) : List Sl := ρ.set i (.sh d)
/-- a target: one name, or names for the items of a tuple -/
def setVs : List Sl → List Nat → List D → M (List Sl)
  | ρ, [], [] => .ok ρ
  | ρ, i :: is, d :: ds => setVs (setV ρ i d) is ds
  | _, _, _ => .no
def tgD (ρ : List Sl) : List Nat → D → M (List Sl)
  | [i], d => .ok (setV ρ i d)
  | i :: j :: is, .tup ds => setVs ρ (i :: j :: is) ds
  | i :: j :: is, .lst ds => setVs ρ (i :: j :: is) ds
  | _, _ => .no
/-- a block's own names forgotten -/
def wipeD : List Sl → List Nat → List Sl
  | ρ, [] => ρ
  | ρ, v :: vs => (wipeD ρ vs).set v .no
def compD (f : D → M (Option D)) : List D → M (List D)
  | [] => .ok []
  | x :: xs => match f x with
    | .ok (some y) => (compD f xs).bind fun ys => .ok (y :: ys)
    | .ok none => compD f xs
    | _ => .no
def oInt : Option D → M (Option Int)
  | none => .ok none
  | some (.int i) => .ok (some i)
  | _ => .no
mutual
def noLst : D → Bool
  | .tup xs => noLsts xs
  | .lst _ => false
  | .ins _ _ => false
  | .dcK _ _ => false
  | .dcT _ _ => false
  | _ => true
def noLsts : List D → Bool
  | [] => true
  | x :: xs => noLst x && noLsts xs
end
abbrev Fs := Nat → List D → M D
/-- does an argument list lend a list of one's own? -/
def lends : List Ex → Bool
  | [] => false
  | .bor _ :: _ => true
  | _ :: r => lends r
def lent (b : Bool) : M D → M D
  | .ok d => gd (!b || noLst d) d
  | r => r
/-- a field by its class -/
def fldD (tbl : List (Nat × Nat)) : D → M D
  | .ins c fs => match tbl.lookup c with
    | some i => optM fs[i]?
    | none => .no
  | _ => .no
/-- a method by its class -/
def mthD (tbl : List (Nat × Nat)) : D → M Nat
  | .ins c _ => optM (tbl.lookup c)
  | _ => .no
mutual
def evE (F : Fs) : Ex → List Sl → M D
  | .var i, ρ => getV ρ i
  | .bor i, ρ => getB ρ i
  | .con d, _ => .ok d
  | .glb d, _ => .ok d
  | .bin op a b, ρ => (evE F a ρ).bind fun x => (evE F b ρ).bind fun y => binD op x y
  | .neg a, ρ => (evE F a ρ).bind fun x => match x with
    | .int i => .ok (.int (-i))
    | _ => .no
  | .nt a, ρ => (evE F a ρ).bind fun x => match x with
    | .bl b => .ok (.bl (!b))
    | _ => .no
  | .cmp op a b, ρ => (evE F a ρ).bind fun x => (evE F b ρ).bind fun y => cmpD op x y
  | .chain o p a b c, ρ => (evE F a ρ).bind fun x => (evE F b ρ).bind fun y => (cmpD o x y).bind fun r => match r with
    | .bl true => (evE F c ρ).bind fun z => cmpD p y z
    | .bl false => .ok (.bl false)
    | _ => .no
  | .and a b, ρ => (evE F a ρ).bind fun x => match x with
    | .bl true => evE F b ρ
    | .bl false => .ok (.bl false)
    | _ => .no
  | .or a b, ρ => (evE F a ρ).bind fun x => match x with
    | .bl false => evE F b ρ
    | .bl true => .ok (.bl true)
    | _ => .no
  | .ite c a b, ρ => (evE F c ρ).bind fun x => match x with
    | .bl true => evE F a ρ
    | .bl false => evE F b ρ
    | _ => .no
  | .tup es, ρ => (evL F es ρ).bind fun ds => .ok (.tup ds)
  | .lst es, ρ => (evL F es ρ).bind fun ds => .ok (.lst ds)
  | .idx a b, ρ => (evE F a ρ).bind fun x => (evE F b ρ).bind fun y => idxD x y
  | .slc a lo hi, ρ => (evE F a ρ).bind fun x => (evO F lo ρ).bind fun l => (evO F hi ρ).bind fun h => slcD x l h
  | .rvs l a, ρ => (evE F a ρ).bind fun x => rvsD l x
  | .lrg a b, ρ => (evE F a ρ).bind fun x => (evE F b ρ).bind fun y => lrgD x y
  | .call f es dfl, ρ => (evL F es ρ).bind fun ds => lent (lends es) (F f (ds ++ dfl))
  | .callk f es ks dfl ord, ρ => (evL F es ρ).bind fun ds => (evL F ks ρ).bind fun zs => F f (ord.map fun i => ((ds ++ zs) ++ dfl).getD i .non)
  | .bi b es, ρ => (evL F es ρ).bind fun ds => biD b ds
  | .isi a t, ρ => (evE F a ρ).bind fun x => gd (noIns x) (.bl (tyD t x))
  | .comp elt tg k es cond, ρ => ((evL F es ρ).bind fun ds => itD k ds).bind fun its => (gd (fits its.length) its).bind fun its =>
      (compD (fun d => (tgD (wipeD ρ tg) tg d).bind fun ρ' => match cond with
        | none => (evE F elt ρ').bind fun y => .ok (some y)
        | some c => (evE F c ρ').bind fun b => match b with
          | .bl true => (evE F elt ρ').bind fun y => .ok (some y)
          | .bl false => .ok none
          | _ => .no) its).bind fun r => .ok (.lst r)
  | .fld tbl a, ρ => (evE F a ρ).bind fun x => fldD tbl x
  | .mth tbl a es, ρ => (evE F a ρ).bind fun x => (mthD tbl x).bind fun f => (evL F es ρ).bind fun ds => F f (x :: ds)
  | .mk c n es, ρ => (evL F es ρ).bind fun ds => gd (decide (ds.length = n)) (.ins c ds)
def evL (F : Fs) : List Ex → List Sl → M (List D)
  | [], _ => .ok []
  | e :: es, ρ => (evE F e ρ).bind fun d => (evL F es ρ).bind fun ds => .ok (d :: ds)
def evO (F : Fs) : Option Ex → List Sl → M (Option Int)
  | none, _ => .ok none
  | some e, ρ => (evE F e ρ).bind fun d => match d with
    | .int i => .ok (some i)
    | _ => .no
end
end Dw

/-! Data in the abstract heap: views, what represents what. -/
namespace Dw
open PySem PySem.Spec PyProof.Rows L2

/-- what the text has written, by numbers: a class's address and its attributes, an exception's class -/
structure G where
  K : PySem.W.Frag
  ca : Nat → Addr
  fn : Nat → List Str
  xa : Nat → Addr

mutual
inductive Rep (g : G) (H : Hp) : V → D → Prop
  | non : Rep g H .non .non
  | bl (b : Bool) : Rep g H (.bl b) (.bl b)
  | int (i : Int) : Rep g H (.int i) (.int i)
  | str (x : Str) : Rep g H (.str x) (.str x)
  | tup {a : Addr} {vs : List V} {ds : List D} : H a = some (.tup vs) → Reps g H vs ds → Rep g H (.ref a) (.tup ds)
  | lst {a : Addr} {vs : List V} {ds : List D} : SqL g.K H a vs → Reps g H vs ds → Rep g H (.ref a) (.lst ds)
  | ins {a dx : Addr} {c : Nat} {vs : List V} {ds : List D} : H a = some (.ins (g.ca c) dx ((g.fn c).zip vs)) → vs.length = (g.fn c).length → Reps g H vs ds → Rep g H (.ref a) (.ins c ds)
  | dcK {a : Addr} {ks : List Key} {us : List V} {ds : List D} : H a = some (.dK (ks.zip us)) → us.length = ks.length → Reps g H us ds → Rep g H (.ref a) (.dcK ks ds)
  | dcT {a : Addr} {ks : List (List Key)} {us : List V} {ds : List D} : H a = some (.dT (ks.zip us)) → us.length = ks.length → Reps g H us ds → Rep g H (.ref a) (.dcT ks ds)
inductive Reps (g : G) (H : Hp) : List V → List D → Prop
  | nil : Reps g H [] []
  | cons {v : V} {vs : List V} {d : D} {ds : List D} : Rep g H v d → Reps g H vs ds → Reps g H (v :: vs) (d :: ds)
end

theorem Same.sqT {K : PySem.W.Frag} {H H' : Hp} {a : Addr} {xs : List V} (e : Same H H') (h : SqT K H a xs) : SqT K H' a xs := by
  rcases h with (h | ⟨o, h⟩) | h
  · exact .inl (.inl (e _ _ h))
  · exact .inl (.inr ⟨o, e _ _ h⟩)
  · exact .inr h

section
variable {g : G} {H H' Hs Hs' : Hp}
mutual
theorem Rep.mono (e : Same H H') : ∀ {v : V} {d : D}, Rep g H v d → Rep g H' v d
  | _, _, .non => .non
  | _, _, .bl b => .bl b
  | _, _, .int i => .int i
  | _, _, .str x => .str x
  | _, _, .tup s r => .tup (e _ _ s) (Reps.mono e r)
  | _, _, .lst s r => .lst (Same.seq e s) (Reps.mono e r)
  | _, _, .ins s l r => .ins (e _ _ s) l (Reps.mono e r)
  | _, _, .dcK s l r => .dcK (e _ _ s) l (Reps.mono e r)
  | _, _, .dcT s l r => .dcT (e _ _ s) l (Reps.mono e r)
theorem Reps.mono (e : Same H H') : ∀ {vs : List V} {ds : List D}, Reps g H vs ds → Reps g H' vs ds
  | _, _, .nil => .nil
  | _, _, .cons r t => .cons (Rep.mono e r) (Reps.mono e t)
end
theorem Reps.length : ∀ {vs : List V} {ds : List D}, Reps g H vs ds → vs.length = ds.length
  | _, _, .nil => rfl
  | _, _, .cons _ t => by rw [List.length_cons, List.length_cons, Reps.length t]
theorem Reps.append : ∀ {vs ws : List V} {ds es : List D}, Reps g H vs ds → Reps g H ws es → Reps g H (vs ++ ws) (ds ++ es)
  | _, _, _, _, .nil, s => s
  | _, _, _, _, .cons r t, s => .cons r (Reps.append t s)
theorem Reps.get : ∀ {vs : List V} {ds : List D} {i : Nat} {d : D}, Reps g H vs ds → ds[i]? = some d → ∃ v, vs[i]? = some v ∧ Rep g H v d
  | _, _, _, _, .nil, h => by simp at h
  | _, _, 0, _, .cons r _, h => by simp at h; subst h; exact ⟨_, by simp, r⟩
  | _, _, i + 1, _, .cons _ t, h => by
    obtain ⟨v, h1, h2⟩ := Reps.get (i := i) t (by simpa using h)
    exact ⟨v, by simpa using h1, h2⟩
theorem Reps.drop : ∀ {vs : List V} {ds : List D} (n : Nat), Reps g H vs ds → Reps g H (vs.drop n) (ds.drop n)
  | _, _, 0, r => r
  | _, _, _ + 1, .nil => .nil
  | _, _, n + 1, .cons _ t => Reps.drop n t
theorem Reps.take : ∀ {vs : List V} {ds : List D} (n : Nat), Reps g H vs ds → Reps g H (vs.take n) (ds.take n)
  | _, _, 0, _ => .nil
  | _, _, _ + 1, .nil => .nil
  | _, _, n + 1, .cons r t => .cons r (Reps.take n t)
theorem Reps.set : ∀ {vs : List V} {ds : List D} (i : Nat) {v : V} {d : D}, Reps g H vs ds → Rep g H v d → Reps g H (vs.set i v) (ds.set i d)
  | _, _, _, _, _, .nil, _ => .nil
  | _, _, 0, _, _, .cons _ t, q => .cons q t
  | _, _, i + 1, _, _, .cons r t, q => .cons r (Reps.set i t q)
theorem Reps.dropLast : ∀ {vs : List V} {ds : List D}, Reps g H vs ds → Reps g H vs.dropLast ds.dropLast
  | _, _, .nil => .nil
  | _, _, .cons _ .nil => .nil
  | _, _, .cons r (.cons q t) => .cons r (Reps.dropLast (.cons q t))
theorem Reps.eraseIdx : ∀ {vs : List V} {ds : List D} (i : Nat), Reps g H vs ds → Reps g H (vs.eraseIdx i) (ds.eraseIdx i)
  | _, _, _, .nil => .nil
  | _, _, 0, .cons _ t => t
  | _, _, i + 1, .cons r t => .cons r (Reps.eraseIdx i t)
theorem Reps.reverse {vs : List V} {ds : List D} (r : Reps g H vs ds) : Reps g H vs.reverse ds.reverse := by
  induction vs generalizing ds with
  | nil => cases r; exact .nil
  | cons v vs ih =>
    cases r with
    | cons q t => rw [List.reverse_cons, List.reverse_cons]; exact (ih t).append (.cons q .nil)
theorem Reps.rep {vs : List V} {ds : List D} (r : Reps g H vs ds) : ∀ n : Nat, Reps g H (List.replicate n vs).flatten (List.replicate n ds).flatten
  | 0 => .nil
  | n + 1 => by
    rw [List.replicate_succ, List.replicate_succ, List.flatten_cons, List.flatten_cons]
    exact r.append (Reps.rep r n)

/-- a tuple -/
def isTp : HO → Bool
  | .tup _ => true
  | _ => false
/-- the view Hs of H grows with H; what was in H and not in view stays out of it, but for tuples -/
structure Ext (Hs H Hs' H' : Hp) : Prop where
  all : Same H H'
  view : Same Hs Hs'
  sub : Same Hs' H'
  out : ∀ a o, H a = some o → isTp o = false → Hs a = none → Hs' a = none
theorem Ext.refl (e : Same Hs H) : Ext Hs H Hs H := ⟨Same.refl _, Same.refl _, e, fun _ _ _ _ n => n⟩
theorem Ext.trans {H1 H2 Hs1 Hs2 : Hp} (a : Ext Hs H Hs1 H1) (b : Ext Hs1 H1 Hs2 H2) : Ext Hs H Hs2 H2 :=
  ⟨a.all.trans b.all, a.view.trans b.view, b.sub, fun c o h t n => b.out c o (a.all c o h) t (a.out c o h t n)⟩
theorem same_upd {p : Addr} {o : HO} (n : H p = none) : Same H (upd H p o) := fun b x e => by
  rw [upd_ne (ne_of_none e n)]
  exact e
/-- a new object, in view -/
theorem Ext.new (e : Same Hs H) {p : Addr} {o : HO} (n : H p = none) : Ext Hs H (upd Hs p o) (upd H p o) := by
  have ns : Hs p = none := e.free n
  refine ⟨same_upd n, same_upd ns, fun a x h => ?_, fun a x h _ hn => ?_⟩
  · by_cases ha : a = p
    · subst ha; rw [upd_same] at h ⊢; exact h
    · rw [upd_ne ha] at h ⊢; exact e a x h
  · rw [upd_ne (ne_of_none h n)]; exact hn
/-- a new object, not in view -/
theorem Ext.newOut (e : Same Hs H) {p : Addr} {o : HO} (n : H p = none) : Ext Hs H Hs (upd H p o) :=
  ⟨same_upd n, Same.refl _, e.trans (same_upd n), fun _ _ _ _ hn => hn⟩
/-- an object that is not in view comes in view -/
theorem Ext.show_ (e : Ext Hs H Hs' H') {p : Addr} {o : HO} (h : H' p = some o) (n : H p = none) (ns : Hs' p = none) : Ext Hs H (upd Hs' p o) H' := by
  refine ⟨e.all, fun a x q => ?_, fun a x q => ?_, fun a x q t hn => ?_⟩
  · have := e.view a x q
    rw [upd_ne (ne_of_none this ns)]; exact this
  · by_cases ha : a = p
    · subst ha; rw [upd_same] at q; cases q; exact h
    · rw [upd_ne ha] at q; exact e.sub a x q
  · rw [upd_ne (ne_of_none q n)]; exact e.out a x q t hn
/-- the view with all tuples -/
def tupView (Hs H : Hp) : Hp := fun a => match Hs a, H a with
  | some o, _ => some o
  | none, some (.tup vs) => some (.tup vs)
  | none, _ => none
theorem tupView_at {Hs H : Hp} (e : Same Hs H) {a : Addr} {vs : List V} (h : H a = some (.tup vs)) : tupView Hs H a = some (.tup vs) := by
  unfold tupView
  cases q : Hs a with
  | some o =>
    have := e a o q
    rw [h] at this
    exact this.symm
  | none => simp only [h]
theorem Ext.tups {Hs H : Hp} (e : Same Hs H) : Ext Hs H (tupView Hs H) H := by
  refine ⟨Same.refl _, fun a o h => ?_, fun a o h => ?_, fun a o h t n => ?_⟩
  · unfold tupView
    rw [h]
  · unfold tupView at h
    split at h
    · rename_i o' q
      cases h
      exact e a _ q
    · rename_i q
      cases h
      exact q
    · cases h
  · unfold tupView
    rw [n, h]
    cases o <;> first | rfl | cases t

/-! ### the slots -/
/-- a dict by its object -/
def OwnD (g : G) (Hs : Hp) : D → HO → Prop
  | .dcK ks ds, o => ∃ us, o = .dK (ks.zip us) ∧ us.length = ks.length ∧ Reps g Hs us ds
  | .dcT ks ds, o => ∃ us, o = .dT (ks.zip us) ∧ us.length = ks.length ∧ Reps g Hs us ds
  | _, _ => False
def isOw : Sl → Bool
  | .ow _ => true
  | .od _ => true
  | _ => false
def OwS (g : G) (Hs : Hp) : Sl → HO → Prop
  | .ow ds, o => ∃ vs, o = .lst vs ∧ Reps g Hs vs ds
  | .od d, o => OwnD g Hs d o
  | _, _ => False
theorem OwnD.mono {d : D} {o : HO} (h : OwnD g Hs d o) (e : Same Hs Hs') : OwnD g Hs' d o := by
  cases d <;> first | exact h.elim | skip
  · obtain ⟨us, h1, h2, h3⟩ := h; exact ⟨us, h1, h2, h3.mono e⟩
  · obtain ⟨us, h1, h2, h3⟩ := h; exact ⟨us, h1, h2, h3.mono e⟩
theorem OwS.mono {s : Sl} {o : HO} (h : OwS g Hs s o) (e : Same Hs Hs') : OwS g Hs' s o := by
  cases s <;> first | exact h.elim | skip
  · obtain ⟨vs, h1, h2⟩ := h; exact ⟨vs, h1, h2.mono e⟩
  · exact OwnD.mono (show OwnD g Hs _ o from h) e
theorem OwnD.nt {d : D} {o : HO} (h : OwnD g Hs d o) : isTp o = false := by
  cases d <;> first | exact h.elim | skip
  · obtain ⟨us, rfl, _⟩ := h; rfl
  · obtain ⟨us, rfl, _⟩ := h; rfl
theorem OwS.nt {s : Sl} {o : HO} (h : OwS g Hs s o) : isTp o = false := by
  cases s <;> first | exact h.elim | skip
  · obtain ⟨vs, rfl, _⟩ := h; rfl
  · exact OwnD.nt (show OwnD g Hs _ o from h)
theorem OwnD.rep {d : D} {o : HO} {p : Addr} (h : OwnD g Hs d o) (e : Same Hs H) (hp : H p = some o) : Rep g H (.ref p) d := by
  cases d <;> first | exact h.elim | skip
  · obtain ⟨us, rfl, h2, h3⟩ := h; exact .dcK hp h2 (h3.mono e)
  · obtain ⟨us, rfl, h2, h3⟩ := h; exact .dcT hp h2 (h3.mono e)
structure RE (g : G) (H0 Hs H : Hp) (ρ : List Sl) (σ : L2.St) : Prop where
  sub : Same Hs H
  len : ρ.length = σ.length
  sh : ∀ (i : Nat) (d : D), ρ[i]? = some (.sh d) → ∃ v, σ[i]? = some (some v) ∧ Rep g Hs v d
  own : ∀ (i : Nat) (s : Sl), ρ[i]? = some s → isOw s = true → ∃ p o, σ[i]? = some (some (.ref p)) ∧ H p = some o ∧ Hs p = none ∧ H0 p = none ∧ OwS g Hs s o
  ap : ∀ (i j : Nat) (s t : Sl) (p : Addr), i ≠ j → ρ[i]? = some s → ρ[j]? = some t → isOw s = true → isOw t = true → σ[i]? = some (some (.ref p)) → σ[j]? = some (some (.ref p)) → False
theorem RE.ow {H0 : Hp} {ρ : List Sl} {σ : L2.St} (r : RE g H0 Hs H ρ σ) (i : Nat) (ds : List D) (h : ρ[i]? = some (.ow ds)) : ∃ p vs, σ[i]? = some (some (.ref p)) ∧ H p = some (.lst vs) ∧ Hs p = none ∧ H0 p = none ∧ Reps g Hs vs ds := by
  obtain ⟨p, o, h1, h2, h3, h4, vs, rfl, h5⟩ := r.own i _ h rfl
  exact ⟨p, vs, h1, h2, h3, h4, h5⟩
theorem RE.od {H0 : Hp} {ρ : List Sl} {σ : L2.St} (r : RE g H0 Hs H ρ σ) (i : Nat) (d : D) (h : ρ[i]? = some (.od d)) : ∃ p o, σ[i]? = some (some (.ref p)) ∧ H p = some o ∧ Hs p = none ∧ H0 p = none ∧ OwnD g Hs d o := r.own i _ h rfl
theorem RE.ext {H0 : Hp} {ρ : List Sl} {σ : L2.St} (r : RE g H0 Hs H ρ σ) (e : Ext Hs H Hs' H') : RE g H0 Hs' H' ρ σ where
  sub := e.sub
  len := r.len
  sh := fun i d h => let ⟨v, h1, h2⟩ := r.sh i d h; ⟨v, h1, h2.mono e.view⟩
  own := fun i s h hs => let ⟨p, o, h1, h2, h3, h4, h5⟩ := r.own i s h hs; ⟨p, o, h1, e.all _ _ h2, e.out _ _ h2 h5.nt h3, h4, h5.mono e.view⟩
  ap := r.ap
/-- a value that may be a lent list or dict: it stands in H itself, its items in view -/
def BRep (g : G) (Hs H : Hp) (v : V) (d : D) : Prop := Rep g Hs v d ∨ (∃ p vs ds, v = .ref p ∧ d = .lst ds ∧ H p = some (.lst vs) ∧ Reps g Hs vs ds) ∨ ∃ p o, v = .ref p ∧ H p = some o ∧ OwnD g Hs d o
inductive BReps (g : G) (Hs H : Hp) : List V → List D → Prop
  | nil : BReps g Hs H [] []
  | cons {v : V} {vs : List V} {d : D} {ds : List D} : BRep g Hs H v d → BReps g Hs H vs ds → BReps g Hs H (v :: vs) (d :: ds)
theorem BRep.ext {v : V} {d : D} (b : BRep g Hs H v d) (e : Ext Hs H Hs' H') : BRep g Hs' H' v d := by
  rcases b with b | ⟨p, vs, ds, h1, h2, h3, h4⟩ | ⟨p, o, h1, h2, h3⟩
  · exact .inl (b.mono e.view)
  · exact .inr (.inl ⟨p, vs, ds, h1, h2, e.all _ _ h3, h4.mono e.view⟩)
  · exact .inr (.inr ⟨p, o, h1, e.all _ _ h2, h3.mono e.view⟩)
theorem BReps.ext : ∀ {vs : List V} {ds : List D}, BReps g Hs H vs ds → Ext Hs H Hs' H' → BReps g Hs' H' vs ds
  | _, _, .nil, _ => .nil
  | _, _, .cons b t, e => .cons (b.ext e) (BReps.ext t e)
theorem BRep.rep {v : V} {d : D} (b : BRep g Hs H v d) (e : Same Hs H) : Rep g H v d := by
  rcases b with b | ⟨p, vs, ds, rfl, rfl, h3, h4⟩ | ⟨p, o, rfl, h2, h3⟩
  · exact b.mono e
  · exact .lst (.inl (.inl h3)) (h4.mono e)
  · exact h3.rep e h2
theorem BReps.reps : ∀ {vs : List V} {ds : List D}, BReps g Hs H vs ds → Same Hs H → Reps g H vs ds
  | _, _, .nil, _ => .nil
  | _, _, .cons b t, e => .cons (b.rep e) (BReps.reps t e)
theorem BReps.of : ∀ {vs : List V} {ds : List D}, Reps g Hs vs ds → BReps g Hs H vs ds
  | _, _, .nil => .nil
  | _, _, .cons b t => .cons (.inl b) (BReps.of t)
/-- a list operand: where it stands, its items -/
theorem BRep.list {v : V} {ds : List D} (b : BRep g Hs H v (.lst ds)) (e : Same Hs H) : ∃ p vs, v = .ref p ∧ SqL g.K H p vs ∧ Reps g Hs vs ds := by
  rcases b with b | ⟨p, vs, ds', h1, h2, h3, h4⟩ | ⟨p, o, _, _, h3⟩
  · cases b with
    | lst s r => exact ⟨_, _, rfl, Same.seq e s, r⟩
  · cases h2
    exact ⟨p, vs, h1, .inl (.inl h3), h4⟩
  · exact h3.elim
/-- no list, no dict -/
def bare : D → Bool
  | .lst _ => false
  | .dcK _ _ => false
  | .dcT _ _ => false
  | _ => true
theorem BRep.bare {v : V} {d : D} (b : BRep g Hs H v d) (h : bare d = true) : Rep g Hs v d := by
  rcases b with b | ⟨p, vs, ds', h1, h2, h3, h4⟩ | ⟨p, o, _, _, h3⟩
  · exact b
  · subst h2; cases h
  · cases d <;> first | exact h3.elim | cases h
theorem BRep.tuple {v : V} {ds : List D} (b : BRep g Hs H v (.tup ds)) (e : Same Hs H) : ∃ p vs, v = .ref p ∧ SqT g.K H p vs ∧ Reps g Hs vs ds := by
  cases b.bare rfl with
  | tup s r => exact ⟨_, _, rfl, .inl (.inl (e _ _ s)), r⟩
theorem BRep.tupleH {v : V} {ds : List D} (b : BRep g Hs H v (.tup ds)) (e : Same Hs H) : ∃ p vs, v = .ref p ∧ H p = some (.tup vs) ∧ Reps g Hs vs ds := by
  cases b.bare rfl with
  | tup s r => exact ⟨_, _, rfl, e _ _ s, r⟩
theorem BRep.dict {v : V} {d : D} (b : BRep g Hs H v d) (e : Same Hs H) (h : noIns d = false) (h2 : ∀ c fs, d ≠ .ins c fs) : ∃ p o, v = .ref p ∧ H p = some o ∧ OwnD g Hs d o := by
  rcases b with b | ⟨p, vs, ds', h1, h3, _⟩ | b
  · cases b with
    | ins _ _ _ => exact absurd rfl (h2 _ _)
    | dcK s l r => exact ⟨_, _, rfl, e _ _ s, _, rfl, l, r⟩
    | dcT s l r => exact ⟨_, _, rfl, e _ _ s, _, rfl, l, r⟩
    | _ => cases h
  · subst h3; cases h
  · exact b
theorem BRep.rint {v : V} {i : Int} (b : BRep g Hs H v (.int i)) : v = .int i := by
  cases b.bare rfl; rfl
theorem BRep.rbl {v : V} {i : Bool} (b : BRep g Hs H v (.bl i)) : v = .bl i := by
  cases b.bare rfl; rfl
theorem BRep.rstr {v : V} {i : Str} (b : BRep g Hs H v (.str i)) : v = .str i := by
  cases b.bare rfl; rfl
theorem BRep.rnon {v : V} (b : BRep g Hs H v .non) : v = .non := by
  cases b.bare rfl; rfl

/-! ### the end of an evaluation -/
def holds {α : Type} (r : M α) (ok : α → Prop) (ex : Nat → Prop) : Prop := match r with
  | .no => False
  | .ok a => ok a
  | .ex c => ex c
theorem holds_bind {α β : Type} {m : M α} {f : α → M β} {ok : β → Prop} {ex : Nat → Prop} (h : holds (m.bind f) ok ex) : holds m (fun a => holds (f a) ok ex) ex := by
  cases m with
  | no => exact h
  | ok a => exact h
  | ex c => exact h
theorem holds_mono {α : Type} {m : M α} {ok ok' : α → Prop} {ex ex' : Nat → Prop} (h : holds m ok ex) (h1 : ∀ a, m = .ok a → ok a → ok' a) (h2 : ∀ c, ex c → ex' c) : holds m ok' ex' := by
  cases m with
  | no => exact h
  | ok a => exact h1 a rfl h
  | ex c => exact h2 c h
theorem holds_gd {α : Type} {b : Bool} {a : α} {ok : α → Prop} {ex : Nat → Prop} (h : holds (gd b a) ok ex) : b = true ∧ ok a := by
  cases b with
  | true => exact ⟨rfl, h⟩
  | false => exact h.elim
end
end Dw

/-! Rules of the model that the library lacks. -/
namespace Dw
open PySem PySem.Spec PyProof.Rows L2
section
variable {prog : Program} {w : World} {A : Around} {E : Value → Shared → Prop} {s : Shared}
theorem adjust_rev (n : Nat) : Builtin.Slice.sliceAdjust none none (-1) (n : Int) = ((n : Int) - 1, -1) := by
  unfold Builtin.Slice.sliceAdjust
  simp
theorem places_rev (n : Nat) : Builtin.Slice.slicePlaces ((n : Int) - 1) (-1) (-1) = n := by
  unfold Builtin.Slice.slicePlaces
  have h1 : ¬ ((-1 : Int) > 0) := by omega
  simp only [h1, if_false]
  split
  · rw [show (- -1 : Int) = 1 by decide, Int.ediv_one]; omega
  · omega
theorem fm_congr {α β : Type} {f g : α → Option β} : ∀ {l : List α}, (∀ x ∈ l, f x = g x) → l.filterMap f = l.filterMap g
  | [], _ => rfl
  | x :: l, h => by
    rw [List.filterMap_cons, List.filterMap_cons, h x List.mem_cons_self, fm_congr fun y hy => h y (List.mem_cons_of_mem _ hy)]
theorem pick_rev (xs : Array Value) : ((List.range xs.size).filterMap fun (m : Nat) => xs[(((xs.size : Int) - 1) + (m : Int) * (-1)).toNat]?).toArray = xs.toList.reverse.toArray := by
  have e : (List.range xs.size).filterMap (fun (m : Nat) => xs[(((xs.size : Int) - 1) + (m : Int) * (-1)).toNat]?) = ((List.range xs.size).map fun k => xs.size - 1 - k).filterMap (xs[·]?) := by
    rw [List.filterMap_map]
    refine fm_congr fun m hm => ?_
    have hm := List.mem_range.1 hm
    have : (((xs.size : Int) - 1) + (m : Int) * (-1)).toNat = xs.size - 1 - m := by omega
    rw [this]; rfl
  rw [e, PySem.W.krv_range, List.filterMap_reverse, PySem.W.krv_all]
theorem slicePart_some {v : Value} {i : Int} {Q : Option Int → Shared → Prop} (p : IsPart v (some i)) (h : Q (some i) s) : wpAny (model prog w) A (Builtin.Slice.slicePartIndex v) Q E s := HT.slicePart_ p h
theorem sliceApplied_rev {sl : Addr} {vs : Value} {n : Nat} {Q : Int × Int × Nat → Shared → Prop} (hs : s.heap.IsSliceOf sl .none .none vs) (ps : IsPart vs (some (-1)))
    (h : Q ((n : Int) - 1, -1, n) s) : wpAny (model prog w) A (Builtin.Slice.sliceApplied (.ref sl) (pure (n : Int))) Q E s := by
  obtain ⟨os, hos, hcs, hds⟩ := id hs
  unfold Builtin.Slice.sliceApplied Builtin.Slice.sliceFields
  refine wpAny_bind (wpAny_bind (wpAny_field hos hds (x := .none) rfl (wpAny_bind (wpAny_field hos hds (x := .none) rfl (wpAny_bind (wpAny_field hos hds (x := vs) rfl (wpAny_pure ?_)))))))
  refine wpAny_bind (HT.slicePart_ ps ?_)
  show wpAny _ _ (if ((-1 : Int) == 0) = true then _ else _) _ _ s
  rw [if_neg (by decide)]
  refine wpAny_bind (slicePart_none (wpAny_bind (slicePart_none (wpAny_bind (wpAny_pure ?_)))))
  show wpAny _ _ (match Builtin.Slice.sliceAdjust none none (-1) (n : Int) with | (lo, hi) => pure (lo, (-1 : Int), Builtin.Slice.slicePlaces lo hi (-1))) _ _ s
  rw [adjust_rev n]
  show wpAny _ _ (pure ((n : Int) - 1, (-1 : Int), Builtin.Slice.slicePlaces ((n : Int) - 1) (-1) (-1))) _ _ s
  rw [places_rev]
  exact wpAny_pure h
theorem getItem_tuple_rev {t sl : Addr} {items : Array Value} {vs : Value} {Q : Value → Shared → Prop} (ht : IsTup s.heap t items) (hs : s.heap.IsSliceOf sl .none .none vs) (ps : IsPart vs (some (-1)))
    (h : Q (.ref s.heap.objs.size) { s with heap := s.heap.push { cls := .type "tuple", data := .seq items.toList.reverse.toArray } })
    (hsz : items.size ≤ sizeLine) : wpAny (model prog w) A (getItem (.ref t) (.ref sl)) Q E s := by
  have htake : sizeOk (.seq items.toList.reverse.toArray) := by
    show items.toList.reverse.toArray.size ≤ sizeLine
    rw [List.size_toArray, List.length_reverse, Array.length_toList]
    exact hsz
  obtain ⟨os, hos, hcs, hds⟩ := id hs
  have hTs : s.TypeIs (.ref sl) "slice" := ⟨os, hos, hcs⟩
  unfold getItem
  try with_reducible refine wpAny_holding ?_
  first | refine wpAny_bind (wpAny_pure ?_) | skip
  refine wpAny_bind (wpAny_sequenceKey ht.typeIs (by decide) ?_)
  refine wpAny_bind (wpAny_callSpecial?_slot (name := Str.ofString "__getitem__") ht.typeIs PyProof.Rows.slot_tuple_getitem
    (wpAny_call_entry PyProof.Rows.slot_tuple_getitem ht.typeIs entry_tuple_getitem ?_ (args_tuple_getitem _ _)))
  show wpAny _ _ (Builtin.Tuple.tupleItemsOf (.ref t) >>= _) _ _ s
  refine wpAny_bind (tupleItemsOf_ ht ?_)
  refine wpAny_bind (wpAny_typeOf hTs ?_)
  rw [if_pos (by decide)]
  refine wpAny_bind (sliceApplied_rev hs ps ?_)
  have hno : ¬ ((((items.size : Int) - 1) == 0 && (-1 : Int) == 1 && items.size == items.size) = true) := by
    rw [show ((-1 : Int) == 1) = false from rfl, Bool.and_false, Bool.false_and]
    exact Bool.false_ne_true
  show wpAny _ _ (if (((items.size : Int) - 1) == 0 && (-1 : Int) == 1 && items.size == items.size) = true then _ else _) _ _ s
  rw [if_neg hno, pick_rev]
  first
    | exact wpAny_bind (m := Builtin.Tuple.tupleExact _) (wpAny_newObj_type (wpAny_pure ⟨_, rfl, wpAny_pure h⟩) htake)
    | exact wpAny_bind (m := Builtin.Tuple.tupleExact _) (wpAny_newObj_type (wpAny_bind (wpAny_pure (wpAny_pure ⟨_, rfl, wpAny_pure h⟩))) htake)
    | exact wpAny_bind (wpAny_bind (m := Builtin.Tuple.tupleExact _) (wpAny_newObj_type (wpAny_pure (wpAny_pure ⟨_, rfl, wpAny_pure h⟩)) htake))
    | exact wpAny_bind (wpAny_bind (m := Builtin.Tuple.tupleExact _) (wpAny_newObj_type (wpAny_pure ⟨_, rfl, wpAny_pure h⟩) htake))
end
section
variable {X : Cx}
/-- xs[::-1], a list or a tuple -/
def tRevA (K : PySem.W.Frag) (te : TE) : TE := fun σ H Q => te σ H fun x H1 => ∃ a xs, x = .ref a ∧ ((SqL K H1 a xs ∧ ∀ p, H1 p = none → Q (.ref p) (upd H1 p (.lst xs.reverse))) ∨ (SqT K H1 a xs ∧ ∀ p, H1 p = none → Q (.ref p) (upd H1 p (.tup xs.reverse))))
theorem pe_revA {e : Expr} {te : TE} {k : Nat} {p1 p2 p3 pos : Pos} (he : PE X e te) : PE X (.Subscript e (.Slice none none (some (.UnaryOp .USub (.Constant (.int 1) k p1) p2)) p3) pos) (tRevA X.K te) := by
  refine ⟨fun pins s σ H Q I h => ?_⟩
  refine Subscript_ (thn (he.run pins s σ H _ I h) fun v s1 ⟨x, H1, I1, r1, q1⟩ => ?_)
  obtain ⟨a, xs, ex, hx⟩ := q1
  subst ex
  cases r1
  have hst : PO X (some (.UnaryOp .USub (.Constant (.int 1) k p1) p2)) (tPart (tUn (rU fun i => .int (-i)) (tC (.int 1)))) := po_some (pe_un un_neg pe_int)
  refine wpAny_Slice (thn (po_none.run pins s1 σ H1 (fun o H2 => o = none ∧ H2 = H1) I1 ⟨rfl, rfl⟩) fun vl s2 ⟨l, H2, I2, pl, el, e2⟩ => ?_)
  subst el e2
  refine thn (po_none.run pins s2 σ H2 (fun o H3 => o = none ∧ H3 = H2) I2 ⟨rfl, rfl⟩) fun vu s3 ⟨u, H3, I3, pu, eu, e3⟩ => ?_
  subst eu e3
  refine thn (hst.run pins s3 σ H3 (fun o H4 => o = some (-1) ∧ H4 = H3) I3 ⟨1, rfl, -1, rfl, rfl, rfl⟩) fun vs s4 ⟨o, H4, I4, ps, eo, e4⟩ => ?_
  subst eo e4
  have I5 : Inv X pins σ H4 { s4 with heap := s4.heap.push { cls := .type "slice", data := .fields #[vl, vu, vs] } } := I4.kept (t' := s4.toks) fun b ob q => Heap.get?_push_of_some _ q
  show wpAny (model X.prog X.w) X.A (subscriptTail e (.Slice none none (some (.UnaryOp .USub (.Constant (.int 1) k p1) p2)) p3) (.ref a) (.ref s4.heap.objs.size)) (EP X pins σ Q) X.xe { s4 with heap := s4.heap.push { cls := .type "slice", data := .fields #[vl, vu, vs] } }
  cases pl
  cases pu
  rcases hx with ⟨hx, q⟩ | ⟨hx, q⟩
  · obtain ⟨its, r, ht, hz⟩ := I5.list hx
    have hlen := r.length
    refine tail_any (ops := [.ref a, .ref s4.heap.objs.size]) ht.isList.typeIs (PySem.slot_list_getitem.lookup) ?_ (by with_unfolding_all rfl)
    refine wpAny_getItem_list_slice ht.isList (Heap.IsSliceOf.new _ .none .none vs) .none .none ps (by decide) ?_ (by rw [List.size_toArray]; omega)
    rw [PySem.W.krv_pick]
    refine ⟨.ref _, _, I5.laid (t' := s4.toks) (o := .lst xs.reverse) (fun b ob q => Heap.get?_push_of_some _ q) (Nat.le_refl _) ?_, rfl, q _ (I5.hok.fresh (Nat.le_refl _))⟩
    exact ⟨by rw [List.length_reverse]; exact hz, _, 0, r.reverse, Heap.get?_push_size _ rfl⟩
  · obtain ⟨its, r, ht, hz⟩ := I5.tuple hx
    have hlen := r.length
    refine tail_any (ops := [.ref a, .ref s4.heap.objs.size]) ht.typeIs (PyProof.Rows.slot_tuple_getitem.lookup) ?_ (by with_unfolding_all rfl)
    refine getItem_tuple_rev ht (Heap.IsSliceOf.new _ .none .none vs) ps ?_ (by rw [List.size_toArray]; omega)
    refine ⟨.ref _, _, I5.laid (t' := s4.toks) (o := .tup xs.reverse) (fun b ob q => Heap.get?_push_of_some _ q) (Nat.le_refl _) ?_, rfl, q _ (I5.hok.fresh (Nat.le_refl _))⟩
    exact ⟨by rw [List.length_reverse]; exact hz, _, r.reverse, IsTup.new _ _⟩
end
section
variable {prog : Program} {w : World} {A : Around} {E : Value → Shared → Prop} {s : Shared}
theorem extend_rev {R : Result → Shared → Prop} {it l : Addr} {items : Array Value} (hh : A.handled = none) (hit : s.heap.IsRevIter it l ((items.size : Int) - 1)) (hl : s.heap.IsList l items) (hne : l ≠ it) (hn : items.size ≤ sizeLine)
    (S : Addr) (res : Value) (c₀ : Nat) (hS : s.heap.get? S = some { cls := .type "list", data := .seq #[] c₀ }) (hSi : S ≠ it) (hSl : S ≠ l)
    (hR : ∀ h' tk acc' c', (∀ b o, b ≠ S → b ≠ it → s.heap.get? b = some o → h'.get? b = some o) → h'.get? S = some { cls := .type "list", dict := none, data := .seq acc' c', slots := #[] } →
      ItemsOf (fun i v => items[items.size - 1 - i]? = some v) acc' items.size → R (.ok (.ret res)) { s with heap := h', toks := tk }) :
    wpAny (model prog w) A.in1 (Builtin.List.listExtendWith (.ref S) (.ref it) res)
      (fun fin s' => match fin with | .done f => R (.ok f) s' | .again c' => c'.quiet = true ∧ codeAny (model prog w) A c' R s') (fun e s' => R (.error e) s') s := by
  have W := (Walks.listRev (prog := prog) (w := w) (A := A.in1) hh it l hne items).toS
  have hSf : S ∉ [it, l] := by simp only [List.mem_cons, List.not_mem_nil, or_false, not_or]; exact ⟨hSi, hSl⟩
  have hT : s.TypeIs (.ref it) "list_reverseiterator" := hit.typeIs
  have h1 : Builtin.List.listSameRef (.ref S) (.ref it) = false := by simp [Builtin.List.listSameRef, hSi]
  unfold Builtin.List.listExtendWith
  refine wpAny_bind (wpAny_typeOf hT ?_)
  rw [if_neg (by rw [h1]; decide)]
  refine wpAny_bind (wpAny_pyIter_revIter hit ?_)
  refine wpAny_bind (wpAny_holding ?_)
  unfold Builtin.List.listLengthHint
  refine wpAny_bind (wpAny_specialOf hT RT.nolen_lri ?_)
  show wpAny _ A.in1 (specialOf (Value.ref it) (Str.ofString "__length_hint__") >>= _) _ _ _
  refine wpAny_bind (wpAny_specialOf hT RT.hint_lri ?_)
  generalize hid : ("list_reverseiterator.__length_hint__" : String) = id0
  wp_delta
  rw [show splitId id0 = some ("list_reverseiterator", "__length_hint__") from by subst hid; decide +kernel]
  subst hid
  refine wpAny_bind (wpAny_isInstance (b := true) hT (by rw [isSubtype_type]; kernel_rfl) ?_)
  refine wpAny_pure ?_
  rw [if_neg (by decide)]
  have e0 : ((items.size : Nat) : Int) - 1 - ((0 : Nat) : Int) = (items.size : Int) - 1 := by omega
  refine wpAny_pure ⟨plainId_quiet F.plain_extend_loop _, codeAny_extend_loopS W hn S hSf res items.size 0 _ _ _ rfl (Nat.zero_le _) ⟨Nat.zero_le _, by rw [e0]; exact hit, hl⟩ hS (ItemsOf.nil _) fun s' acc' c' hm hS' hacc => ?_⟩
  rw [Moved.eq_with hm]
  refine hR s'.heap s'.toks acc' c' (fun b o hb hb2 e => hm.heap b o (fun hmem => ?_) e) hS' hacc
  rcases List.mem_cons.mp hmem with e' | hmem
  · exact hb e'
  · exact hb2 (List.mem_singleton.mp hmem)
theorem list_init_rev {R : Result → Shared → Prop} {it l : Addr} {items : Array Value} (hh : A.handled = none) (hit : s.heap.IsRevIter it l ((items.size : Int) - 1)) (hl : s.heap.IsList l items) (hne : l ≠ it) (hn : items.size ≤ sizeLine)
    (S : Addr) (hS : s.heap.get? S = some { cls := .type "list", data := .seq #[] }) (hSi : S ≠ it) (hSl : S ≠ l)
    (hR : ∀ h' tk acc' c', (∀ b o, b ≠ S → b ≠ it → s.heap.get? b = some o → h'.get? b = some o) → h'.get? S = some { cls := .type "list", dict := none, data := .seq acc' c', slots := #[] } →
      ItemsOf (fun i v => items[items.size - 1 - i]? = some v) acc' items.size → R (.ok (.ret .none)) { s with heap := h', toks := tk }) :
    wpAny (model prog w) A.in1 (Builtin.«list.__init__» ⟨[.ref S, .ref it], []⟩)
      (fun fin s' => match fin with | .done f => R (.ok f) s' | .again c' => c'.quiet = true ∧ codeAny (model prog w) A c' R s') (fun e s' => R (.error e) s') s := by
  show wpAny _ _ (do let old ← Builtin.List.listItems (.ref S); Builtin.List.listUpdate (.ref S) (fun _ => #[]); letGo old.toList.reverse; Builtin.List.listExtendWith (.ref S) (.ref it) .none) _ _ s
  refine wpAny_bind ?_
  unfold Builtin.List.listItems
  refine wpAny_bind (wpAny_seqItems hS rfl (wpAny_pure ?_))
  show wpAny _ _ (updateSeq S (fun _ => #[]) >>= fun _ => letGo (#[] : Array Value).toList.reverse >>= fun _ => Builtin.List.listExtendWith (.ref S) (.ref it) .none) _ _ s
  refine wpAny_bind (wpAny_updateSeq hS rfl ?_)
  have hS₂ := Heap.get?_update_self (Obj.mapSeq (fun _ => (#[] : Array Value))) hS rfl
  have oth : ∀ b o, b ≠ S → s.heap.get? b = some o → (s.heap.update S (Obj.mapSeq (fun _ => (#[] : Array Value)))).get? b = some o :=
    fun b o hb e => (Heap.get?_update_other _ _ (Ne.symm hb)).trans e
  refine wpAny_bind (wpAny_letGo ?_)
  obtain ⟨ol, hol, hcl, nl, hdl⟩ := id hl
  refine extend_rev (s := { s with heap := s.heap.update S (Obj.mapSeq (fun _ => (#[] : Array Value))) }) hh (hit.at fun o e => oth it o (Ne.symm hSi) e) ⟨ol, oth l ol (Ne.symm hSl) hol, hcl, nl, hdl⟩ hne hn S .none _ hS₂ hSi hSl fun h' tk acc' c' hk hS' hacc => ?_
  exact hR h' tk acc' c' (fun b o hb hb2 e => hk b o hb hb2 (oth b o hb e)) hS' hacc
theorem call_list_rev {Q : Value → Shared → Prop} {it l : Addr} {items : Array Value} (hh : A.handled = none) (hit : s.heap.IsRevIter it l ((items.size : Int) - 1)) (hl : s.heap.IsList l items) (hne : l ≠ it) (hn : items.size ≤ sizeLine)
    (hQ : ∀ h' tk acc' c', (∀ b o, b ≠ it → s.heap.get? b = some o → h'.get? b = some o) →
      h'.get? s.heap.objs.size = some { cls := .type "list", dict := none, data := .seq acc' c', slots := #[] } → ItemsOf (fun i v => items[items.size - 1 - i]? = some v) acc' items.size → Q (.ref s.heap.objs.size) { s with heap := h', toks := tk }) :
    wpAny (model prog w) A (call (.type "list") [.ref it]) Q E s := by
  refine callType_codes (Q₁ := fun obj s₁ => obj = .ref s.heap.objs.size ∧ s₁ = { s with heap := s.heap.push { cls := .type "list", data := .seq #[] } }) F.called_list (F.typeCall_list_1 _) F.entry_list_init
    (code_list_new _ ⟨rfl, rfl⟩) fun obj s₁ h₁ => ?_
  obtain ⟨rfl, rfl⟩ := h₁
  have hS : (s.heap.push { cls := .type "list", data := .seq #[] }).get? s.heap.objs.size = some { cls := .type "list", data := .seq #[] } := Heap.get?_push_size _ rfl
  obtain ⟨oi, hoi, _⟩ := id hit
  obtain ⟨ol, hol, _⟩ := id hl
  have hSi : s.heap.objs.size ≠ it := Nat.ne_of_gt (Heap.lt_size hoi)
  have hSl : s.heap.objs.size ≠ l := Nat.ne_of_gt (Heap.lt_size hol)
  refine ⟨⟨_, hS, rfl⟩, F.args_list_init_2 _ _, list_init_rev (A := A.in1) hh (hit.at fun o e => Heap.get?_push_of_some _ e) (hl.push _) hne hn _ hS hSi hSl fun h' tk acc' c' hk hS' hacc => ?_⟩
  exact ⟨rfl, hQ h' tk acc' c' (fun b o hb e => hk b o (Nat.ne_of_lt (Heap.lt_size e)) hb (Heap.get?_push_of_some _ e)) hS' hacc⟩
end
section
variable {X : Cx}
/-- list(reversed(x)), x a list: a new list -/
def tLstRev (K : PySem.W.Frag) (te : TE) : TE := fun σ H Q => te σ H fun v H1 => ∃ (a : Addr) (xs : List V), v = .ref a ∧ SqL K H1 a xs ∧ ∀ q, H1 q = none → Q (.ref q) (upd H1 q (.lst xs.reverse))
theorem pe_lstRev {e : Expr} {te : TE} {p p2 pos pos2 : Pos} (hc : X.calm = true) (hg : Gl X "list") (hm : X.mg "list" = none) (hg2 : Gl X "reversed") (hm2 : X.mg "reversed" = none) (he : PE X e te)
    (hs : starEach [e] X.env = (false, eval e X.env) :: starEach [] X.env := by rfl)
    (hs2 : starEach [.Call (.Name "reversed" p2) [e] [] pos2] X.env = (false, eval (.Call (.Name "reversed" p2) [e] [] pos2) X.env) :: starEach [] X.env := by rfl) :
    PE X (.Call (.Name "list" p) [.Call (.Name "reversed" p2) [e] [] pos2] [] pos) (tLstRev X.K te) := by
  refine ⟨fun pins s σ H Q I h => ?_⟩
  refine Call_ (ld_blt I hg hm boot_list (PyProof.Rows.callWith_type1 (args_cons (Call_ (ld_blt I hg2 hm2 PyProof.Rows.boot_reversed (PyProof.Rows.callWith_type1 (args_cons (thn (he.run pins s σ H _ I h) fun u s1 ⟨v, H1, I1, r1, q1⟩ => args_nil ?_) hs) hs rfl))) hs2) hs2 rfl))
  obtain ⟨a, xs, ev, hq, q⟩ := q1
  subst ev
  obtain rfl : u = Value.ref a := r1
  obtain ⟨its, rv, p', hz⟩ := I1.list hq
  refine call_reversed_list p'.isList (args_nil ?_)
  have k0 : ∀ b o, s1.heap.get? b = some o → (s1.heap.push (revObj a ((its.toArray.size : Int) - 1))).get? b = some o := fun b o e => Heap.get?_push_of_some _ e
  have I2 : Inv X pins σ H1 { s1 with heap := s1.heap.push (revObj a ((its.toArray.size : Int) - 1)) } := I1.kept (t' := s1.toks) k0
  obtain ⟨f0, f1, f2, f3, f4, f5⟩ := I1.fpOk (H' := H1) (b := s1.heap.objs.size) (Nat.le_refl _) (I1.hok.fresh (Nat.le_refl _))
  have hl := p'.isList
  obtain ⟨ol, hol, _⟩ := id hl
  have hne : a ≠ s1.heap.objs.size := Nat.ne_of_lt (Heap.lt_size hol)
  have hn : its.toArray.size ≤ sizeLine := by rw [List.size_toArray, ← rv.length]; exact hz
  refine call_list_rev (s := { s1 with heap := s1.heap.push (revObj a ((its.toArray.size : Int) - 1)) }) (I1.ok.hd hc) ⟨_, Heap.get?_push_size _ rfl, rfl, rfl⟩ (hl.push _) hne hn fun h' tk acc c' hk hS hi => ?_
  have hk' : ∀ b o, s1.heap.get? b = some o → h'.get? b = some o := fun b o e => hk b o (Nat.ne_of_lt (Heap.lt_size e)) (k0 b o e)
  have hsz : s1.heap.objs.size ≤ (s1.heap.push (revObj a ((its.toArray.size : Int) - 1))).objs.size := by
    have : s1.heap.objs.size < (s1.heap.push (revObj a ((its.toArray.size : Int) - 1))).objs.size := Heap.lt_size (Heap.get?_push_size _ rfl)
    omega
  refine ⟨.ref (s1.heap.push (revObj a ((its.toArray.size : Int) - 1))).objs.size, upd H1 (s1.heap.push (revObj a ((its.toArray.size : Int) - 1))).objs.size (.lst xs.reverse), I1.laid (t' := tk) hk' hsz (show ObjOk X.prog X.w _ _ _ (.lst xs.reverse) from ⟨by rw [List.length_reverse]; exact hz, acc.toList, c', RT.vals_rev rv hi, ?_⟩), rfl, q _ (I1.hok.fresh hsz)⟩
  rw [Array.toArray_toList]
  exact hS
end
end Dw

/-! enumerate of a tuple. -/
namespace Dw
open PySem PySem.Spec PyProof.Rows L2
theorem meets_enumerate_newTup (l : Addr) (items : Array Value) (n : Nat) (dct : Option Addr) (sl : Array (Option Value)) :
    Meets (Builtin.«enumerate.__new__» ⟨[.type "enumerate", .ref l], []⟩) (fun _ R s => s.heap.get? l = some { cls := .type "tuple", dict := dct, data := .seq items n, slots := sl } ∧
      R (.ok (.ret (.ref (s.heap.push { cls := .type "tuple_iterator", data := .fields #[.ref l, .int 0 0] }).objs.size)))
        { s with heap := (s.heap.push { cls := .type "tuple_iterator", data := .fields #[.ref l, .int 0 0] }).push { cls := .type "enumerate", data := .fields #[.none, .bool false, .ref s.heap.objs.size, rawInt 0, .none, .none] } }) :=
  .of_wp fun prog w A R s h => by
    obtain ⟨hp, g, d, tk, os⟩ := s; obtain ⟨hl, h⟩ := h
    have hsub := sub_enumerate
    have hL : Heap.IsTuple (Shared.heap ⟨hp, g, d, tk, os⟩) l items := ⟨_, hl, rfl, n, rfl⟩
    wp_walk using AutoSeq1.wpAny_loadPart' hl
    refine wpAny_stack_any fun st => wpAny_pure ?_
    split
    · rename_i c _ _ _ _ _
      cases (c == Value.type "enumerate")
      · wp_walk using AutoSeq1.wpAny_loadPart' hl, wpAny_pyIter_tuple hL
        exact ⟨_, rfl, h⟩
      · wp_walk using AutoSeq1.wpAny_loadPart' hl, wpAny_pyIter_tuple hL
        exact ⟨_, rfl, h⟩
    · wp_walk using AutoSeq1.wpAny_loadPart' hl, wpAny_pyIter_tuple hL
      exact ⟨_, rfl, h⟩
section
variable {prog : Program} {w : World} {A : Around} {E : Value → Shared → Prop} {s : Shared}
theorem call_enumerate_tup {l : Addr} {items : Array Value} {Q : Value → Shared → Prop} (hL : s.heap.IsTuple l items)
    (h : ∀ h', IsEnum h' (s.heap.objs.size + 1) s.heap.objs.size 0 .none → h'.IsTupleIter s.heap.objs.size l 0 → h'.objs.size = s.heap.objs.size + 2 →
      (∀ b o, s.heap.get? b = some o → h'.get? b = some o) → Q (.ref (s.heap.objs.size + 1)) { s with heap := h' }) :
    wpAny (model prog w) A (call (.type "enumerate") [.ref l]) Q E s := by
  obtain ⟨⟨c, dct, dt, sl⟩, hl, hc, n, hd⟩ := hL
  replace hc : c = .type "tuple" := hc
  replace hd : dt = .seq items n := hd
  subst hc hd
  refine callType_new F.called_enumerate (by decide) (F.typeCall_enumerate_1 _) (F.newCall_enumerate_1 _) (fun obj => F.args_object_init_2 obj _) F.entry_enumerate_new
    (meets_enumerate_newTup l items n dct sl) ⟨hl, ?_⟩
  have hz : (s.heap.push { cls := .type "tuple_iterator", data := .fields #[.ref l, .int 0 0] }).objs.size = s.heap.objs.size + 1 := Heap.size_push ..
  show _ ∧ _
  rw [hz]
  have he : IsEnum ((s.heap.push { cls := .type "tuple_iterator", data := .fields #[.ref l, .int 0 0] }).push
      { cls := .type "enumerate", data := .fields #[.none, .bool false, .ref s.heap.objs.size, rawInt 0, .none, .none] }) (s.heap.objs.size + 1) s.heap.objs.size 0 .none := by
    have := Heap.get?_push_size (s.heap.push { cls := .type "tuple_iterator", data := .fields #[.ref l, .int 0 0] })
      (o := { cls := .type "enumerate", data := .fields #[.none, .bool false, .ref s.heap.objs.size, rawInt 0, .none, .none] }) rfl
    rw [hz] at this; exact this
  refine ⟨⟨_, he, rfl⟩, h _ he ⟨_, Heap.get?_push_of_some _ (Heap.get?_push_size _ rfl), rfl, rfl⟩ (by rw [Heap.size_push, hz]) fun b o x => Heap.get?_push_of_some _ (Heap.get?_push_of_some _ x)⟩
end
/-- the tuple at a at each turn, each item in a new pair -/
def IteT (K : PySem.W.Frag) (a : Addr) : It :=
  ⟨fun i H => ∃ (xs : List V) (x : V), SqT K H a xs ∧ xs[i]? = some x, fun i H v H' => ∃ T x, v = .ref T ∧ H T = none ∧ H' = upd H T (.tup [.int (i : Nat), x]) ∧ ∀ xs, SqT K H a xs → xs[i]? = some x, fun i H => ∃ xs : List V, SqT K H a xs ∧ xs.length ≤ i⟩
theorem turn_enumT {P : Program} {w : World} {K : PySem.W.Frag} {elts : List Expr} {kk : Nat} {tpos : Pos} (a e it : Addr) :
    Turn P w K (.Tuple elts kk tpos) (IteT K a) [e, it] e (fun i h => (∃ old, IsEnum h e it ((i : Nat) : Int) old) ∧ h.IsTupleIter it a i ∧ e ≠ it ∧ a ≠ it ∧ e ≠ a) where
  mem := by simp
  obj := fun i h st b hb => by
    obtain ⟨⟨old, he⟩, ⟨o, ho, hc, hd⟩, _⟩ := st
    have e' : b = e ∨ b = it := by simpa using hb
    rcases e' with z | z
    · rw [z]; exact ⟨_, he, fun v q => nomatch q⟩
    · rw [z]; exact ⟨o, ho, fun v q => by rw [hd] at q; cases q⟩
  keep := fun i h h' st k => let ⟨⟨old, he⟩, hi, hne⟩ := st; ⟨⟨old, k e (by simp) _ he⟩, hi.at fun o q => k it (by simp) o q, hne⟩
  item := by
    intro X hP hw hK hc i pins s σ H E I hf st hg
    subst hP hw hK
    obtain ⟨⟨old, he⟩, hit, hne, hai, hea⟩ := st
    obtain ⟨xs, x, hq, hx⟩ := hg
    obtain ⟨its, rv, p, hz⟩ := I.tuple hq
    obtain ⟨u, hu, ru⟩ := rv.get hx
    have p : s.heap.IsTuple a its.toArray := p
    have hel : e < s.heap.objs.size := Heap.lt_size he
    have hil : it < s.heap.objs.size := by obtain ⟨_, q, _⟩ := hit; exact Heap.lt_size q
    have hlt : i < its.toArray.size := by
      have := (List.getElem?_eq_some_iff.mp hu).1
      simpa using this
    refine wpAny_pyNext_enum_itemD (Draws.tuple (A := X.A.in1) (I.ok.hd hc) it a hai its.toArray) he ⟨hit, p⟩ hlt hne (by simp; exact ⟨hne, hea⟩) fun u' h' tk hu' ho hit' hT hsz hk => ?_
    have hu2 : u' = u := by
      have z : its.toArray[i]? = some u := by simpa using hu
      rw [z] at hu'; cases hu'; rfl
    subst hu2
    refine ⟨_, rfl, wpAny_letOwnedTupleGo_enum (s := { s with heap := h', toks := tk + 1 }) ho fun h'' he' sb => ?_⟩
    have hT2 : h''.get? s.heap.objs.size = some { cls := .type "tuple", data := .seq #[.int i tk, u'] } := (sb.2 _ (Nat.ne_of_gt hel)).trans hT
    have new : ObjOk X.prog X.w (upd H s.heap.objs.size (.tup [.int (i : Nat), x])) h'' s.heap.objs.size (.tup [.int (i : Nat), x]) :=
      ⟨by show 2 ≤ sizeLine; decide, [.int i tk, u'], .cons ⟨_, rfl⟩ (.cons ru .nil), ⟨_, hT2, rfl, _, rfl⟩⟩
    have I1 : Inv X pins σ (upd H s.heap.objs.size (.tup [.int (i : Nat), x])) { s with heap := h'', toks := tk + 1 } :=
      I.turnedNew (ch := [e, it]) (fun b ob hb q => (sb.2 b (fun z => hb (by simp [z]))).trans (hk b ob (fun z => hb (by simp [z])) (fun z => hb (by simp [z])) q)) hf (Nat.le_refl _) new
    refine ⟨.ref s.heap.objs.size, _, I1, rfl, ⟨_, x, rfl, I.hok.fresh (Nat.le_refl _), rfl, fun ys hy => by rw [I.tuple_inj hy hq]; exact hx⟩, ⟨⟨u', ?_⟩, hit'.1.at fun o q => (sb.2 it (Ne.symm hne)).trans q, hne, hai, hea⟩, fun b hb => ?_⟩
    · have e1 : ((i + 1 : Nat) : Int) = (i : Int) + 1 := by omega
      rw [e1]; exact he'
    · have hb' : b < s.heap.objs.size := by
        have e' : b = e ∨ b = it := by simpa using hb
        rcases e' with z | z
        · rw [z]; exact hel
        · rw [z]; exact hil
      rw [upd_ne (Nat.ne_of_lt hb')]
      exact (hf b hb).1
  done := by
    intro X hP hw hK hc i pins s σ H E I hf st hg
    subst hP hw hK
    obtain ⟨⟨old, he⟩, hit, hne, hai, hea⟩ := st
    obtain ⟨xs, hq, hx⟩ := hg
    obtain ⟨its, rv, p, hz⟩ := I.tuple hq
    have p : s.heap.IsTuple a its.toArray := p
    obtain ⟨f0, f1, f2, f3, f4, f5⟩ := hf it (by simp)
    have hl := rv.length
    have hT : s.TypeIs (.ref e) "enumerate" := ⟨_, he, rfl⟩
    unfold pyNext
    refine wpAny_bind (wpAny_attempt (wpAny_callSpecial?_slot (name := Str.ofString "__next__") hT F.slot_enumerate_next
      (wpAny_call_entry F.slot_enumerate_next hT F.entry_enumerate_next ?_ (F.args_enumerate_next_1 _))))
    show wpAny _ _ (field (.ref e) 2 >>= _) _ _ _
    refine wpAny_bind (wpAny_field he rfl (x := .ref it) rfl ?_)
    refine wpAny_bind (wpAny_nextOf_tuple_end (I.ok.hd hc) hit p (by simp; omega) fun h' x he' hx' => ?_)
    obtain ⟨o, ho, hc⟩ := hx'
    refine wpAny_bind (wpAny_isInstance (T := "StopIteration") (b := true) ⟨o, ho, hc⟩ isSubtype_stop ?_)
    exact wpAny_pure ⟨rfl, I.turned (t' := s.toks) (fun b o hb q => he' b o hb q) f0 f1 f3 f4 f5⟩
  self := fun A i s Q E st h => let ⟨⟨_, he⟩, _⟩ := st; wpAny_pyIter_enum he h
theorem walk_enumT {K : PySem.W.Frag} {a : Addr} {xs : List V} : Walk (IteT K a) xs.length (fun H => SqT K H a xs) (YPair (fun i => some (.int (i : Nat))) (fun i => xs[i]?)) := by
  refine ⟨fun i _ hi q => ⟨xs, xs[i], q, by simp [hi]⟩, fun _ q => ⟨xs, q, Nat.le_refl _⟩, fun i H v H' _ q y => ?_⟩
  obtain ⟨T, x, h1, h2, h3, h4⟩ := y
  exact ⟨T, .int (i : Nat), x, h1, h2, h3, rfl, h4 xs q⟩
/-- enumerate(x), x a list or a tuple -/
def iEnumA (K : PySem.W.Frag) (ta : TA) : TI := fun σ H R => ta σ H fun vs H1 => ∃ a xs, vs = [.ref a] ∧ ((SqL K H1 a xs ∧ R (Ite K a) H1) ∨ (SqT K H1 a xs ∧ R (IteT K a) H1))
theorem pi_enumA {X : Cx} {e : Expr} {ta : TA} {p pos tpos : Pos} {elts : List Expr} {kk : Nat} (hg : Gl X "enumerate") (hm : X.mg "enumerate" = none) (ha : PA X [e] ta) (hs : starEach [e] X.env = [(false, eval e X.env)] := by rfl) :
    PI X (.Tuple elts kk tpos) (.Call (.Name "enumerate" p) [e] [] pos) (iEnumA X.K ta) := by
  refine ⟨fun pins s σ H R I h => ?_⟩
  refine Call_ (ld_blt I hg hm boot_enumerate (PyProof.Rows.callWith_type1 (thn (ha.run pos pins s σ H _ I h) fun us s1 ⟨vs, H1, I1, r1, q1⟩ => ?_) hs rfl))
  obtain ⟨a, xs, ex, q⟩ := q1
  subst ex
  cases r1 with
  | cons r rr =>
    cases rr
    cases r
    have fin : ∀ (h' : Heap), h'.objs.size = s1.heap.objs.size + 2 → ∀ b ∈ [s1.heap.objs.size + 1, s1.heap.objs.size], s1.heap.objs.size ≤ b := fun h' _ b hb => by
      have e' : b = s1.heap.objs.size + 1 ∨ b = s1.heap.objs.size := by simpa using hb
      rcases e' with z | z
      · rw [z]; exact Nat.le_add_right _ _
      · rw [z]; exact Nat.le_refl _
    rcases q with ⟨hq, q⟩ | ⟨hq, q⟩
    · obtain ⟨its, rv, p', hz⟩ := I1.list hq
      refine call_enumerate_list p'.isList fun h' he hit hsz hk => wpAny_pyIter_enum he ?_
      have I2 : Inv X pins σ H1 { s1 with heap := h' } := I1.kept (t' := s1.toks) hk
      refine ⟨s1.heap.objs.size + 1, [s1.heap.objs.size + 1, s1.heap.objs.size], _, _, H1, rfl, I2, turn_enum a (s1.heap.objs.size + 1) s1.heap.objs.size, ⟨⟨.none, he⟩, hit, Nat.succ_ne_self _⟩, fun b hb => ?_, q⟩
      exact I1.fpOk (fin h' hsz b hb) (I1.hok.fresh (fin h' hsz b hb))
    · obtain ⟨its, rv, p', hz⟩ := I1.tuple hq
      have p' : s1.heap.IsTuple a its.toArray := p'
      have hlt : a < s1.heap.objs.size := by obtain ⟨o, ho, _⟩ := p'; exact Heap.lt_size ho
      refine call_enumerate_tup p' fun h' he hit hsz hk => wpAny_pyIter_enum he ?_
      have I2 : Inv X pins σ H1 { s1 with heap := h' } := I1.kept (t' := s1.toks) hk
      refine ⟨s1.heap.objs.size + 1, [s1.heap.objs.size + 1, s1.heap.objs.size], _, _, H1, rfl, I2, turn_enumT a (s1.heap.objs.size + 1) s1.heap.objs.size, ⟨⟨.none, he⟩, hit, Nat.succ_ne_self _, Nat.ne_of_lt hlt, Nat.ne_of_gt (Nat.lt_succ_of_lt hlt)⟩, fun b hb => ?_, q⟩
      exact I1.fpOk (fin h' hsz b hb) (I1.hok.fresh (fin h' hsz b hb))
end Dw

set_option maxHeartbeats 1000000
/-! zip of a list and a tuple, either way round: k tells of each whether it is a tuple. -/
namespace Dw
open PySem PySem.Spec PyProof.Rows L2 RZ
def SI (k : Bool) (h : Heap) (i l : Addr) (n : Nat) : Prop := match k with
  | true => h.IsTupleIter i l n
  | false => h.IsListIter i l n
def SA (k : Bool) (h : Heap) (l : Addr) (xs : Array Value) : Prop := match k with
  | true => h.IsTuple l xs
  | false => h.IsList l xs
def itC (k : Bool) (l : Addr) : Obj := match k with
  | true => { cls := .type "tuple_iterator", data := .fields #[.ref l, .int 0 0] }
  | false => { cls := .type "list_iterator", data := .fields #[.ref l, .int 0 0] }
theorem SI.eb {k : Bool} {h h' : Heap} {b i l : Addr} {n : Nat} (x : SI k h i l n) (e : Heap.ExtBut b h h') (ne : i ≠ b) : SI k h' i l n := by
  cases k
  · exact Heap.IsListIter.extBut x e ne
  · exact Heap.IsTupleIter.extBut x e ne
theorem SA.eb {k : Bool} {h h' : Heap} {b l : Addr} {xs : Array Value} (x : SA k h l xs) (e : Heap.ExtBut b h h') (ne : l ≠ b) : SA k h' l xs := by
  cases k
  · exact Heap.IsList.extBut x e ne
  · exact Heap.IsTuple.extBut x e ne
theorem SI.see {k : Bool} {h h' : Heap} {i l : Addr} {n : Nat} (x : SI k h i l n) (e : ∀ o, h.get? i = some o → h'.get? i = some o) : SI k h' i l n := by
  cases k
  · exact Heap.IsListIter.at x e
  · exact Heap.IsTupleIter.at x e
theorem SI.obj {k : Bool} {h : Heap} {i l : Addr} {n : Nat} (x : SI k h i l n) : ∃ o, h.get? i = some o ∧ ∃ f, o.data = .fields f := by
  cases k
  · obtain ⟨o, e, _, d⟩ := x; exact ⟨o, e, _, d⟩
  · obtain ⟨o, e, _, d⟩ := x; exact ⟨o, e, _, d⟩
theorem SI.new {k : Bool} {h : Heap} {i l : Addr} (e : h.get? i = some (itC k l)) : SI k h i l 0 := by
  cases k
  · exact ⟨_, e, rfl, rfl⟩
  · exact ⟨_, e, rfl, rfl⟩
section
variable {prog : Program} {w : World} {A : Around} {E : Value → Shared → Prop} {s : Shared}
theorem k_item {k : Bool} {it l : Addr} {n : Nat} {xs : Array Value} {x : Value} {Q : Value → Shared → Prop} (hi : SI k s.heap it l n) (hl : SA k s.heap l xs) (hx : xs[n]? = some x)
    (q : ∀ h', SI k h' it l (n + 1) → Heap.SameBut it s.heap h' → Q x { s with heap := h' }) : wpAny (model prog w) A (Builtin.SmallTypes.nextOf (.ref it)) Q E s := by
  cases k
  · exact wpAny_nextOf_list_item hi hl hx q
  · exact nextOf_tuple_item hi hl hx q
theorem k_end {k : Bool} {it l : Addr} {n : Nat} {xs : Array Value} {Q : Value → Shared → Prop} (hh : A.handled = none) (hi : SI k s.heap it l n) (hl : SA k s.heap l xs) (hx : xs[n]? = none)
    (q : ∀ h' e, Heap.ExtBut it s.heap h' → (∃ o, h'.get? e = some o ∧ o.cls = .type "StopIteration") → E (.ref e) { s with heap := h' }) : wpAny (model prog w) A (Builtin.SmallTypes.nextOf (.ref it)) Q E s := by
  cases k
  · exact wpAny_nextOf_list_end hh hi hl hx q
  · exact nextOf_tuple_end hh hi hl hx q
/-- what stands around a zip -/
structure ZS (k m : Bool) (h : Heap) (z ti to i j a b : Addr) (n : Nat) (old : Value) (xs ys : Array Value) : Prop where
  dis : ZipApart z ti to i j a b
  zip : IsZip h z ti to .none
  its : IsPair h ti (.ref i) (.ref j)
  out : ∃ u v, IsPair h to u v
  one : SI k h i a n
  two : SI m h j b n
  fst : SA k h a xs
  snd : SA m h b ys
def ZQ (k m : Bool) (s : Shared) (z ti to i j a b : Addr) (n : Nat) (x y : Value) (Q : Value → Shared → Prop) : Prop :=
  ∀ h', IsZip h' z ti to (rawInt s.heap.objs.size) → IsPair h' to x y → SI k h' i a (n + 1) → SI m h' j b (n + 1) → IsPair h' s.heap.objs.size x y → h'.objs.size = s.heap.objs.size + 1 →
    (∀ c o, c ≠ z → c ≠ to → c ≠ i → c ≠ j → s.heap.get? c = some o → h'.get? c = some o) → Q (.ref s.heap.objs.size) { s with heap := h' }
theorem zk_item {k m : Bool} {z ti to i j a b : Addr} {n : Nat} {old x y : Value} {xs ys : Array Value} {Q : Value → Shared → Prop} (S : ZS k m s.heap z ti to i j a b n old xs ys) (hx : xs[n]? = some x) (hy : ys[n]? = some y) (q : ZQ k m s z ti to i j a b n x y Q) :
    wpAny (model prog w) A (Builtin.«zip.__next__» ⟨[.ref z], []⟩) (fun fin s' => ∃ v, fin = .done (.ret v) ∧ Q v s') E s := by
  obtain ⟨D, hz, hti, ⟨u, v, hto⟩, hi, hj, ha, hb⟩ := S
  show wpAny _ _ (field (.ref z) 2 >>= _) _ _ _
  refine wpAny_bind (wpAny_field hz rfl (x := .bool false) rfl ?_)
  show wpAny _ _ (field (.ref z) 3 >>= _) _ _ _
  refine wpAny_bind (wpAny_field hz rfl (x := .ref ti) rfl ?_)
  refine wpAny_bind (wpAny_seqItems hti rfl ?_)
  show wpAny _ _ (Builtin.SmallTypes.ownedTupleIsFree (.ref z) >>= _) _ _ _
  refine wpAny_bind ?_
  unfold Builtin.SmallTypes.ownedTupleIsFree
  refine wpAny_bind (wpAny_field hz rfl (x := .none) rfl (wpAny_pure ?_))
  simp only [if_true]
  refine wpAny_bind (wpAny_rule ?_)
  refine wpAny_bind (wpAny_field hz rfl (x := .ref to) rfl ?_)
  refine wpAny_bind (wpAny_setField_rec hz (by simp) fun g1 z1 s1 => ?_)
  replace z1 : IsZip g1 z ti to .ellipsis := z1
  refine wpAny_bind ?_
  simp only [List.zipIdx_cons, List.zipIdx_nil, List.forIn_cons, List.forIn_nil]
  refine wpAny_bind (wpAny_bind (wpAny_onRaise ?_))
  show wpAny _ _ (Builtin.SmallTypes.nextOf (.ref i) >>= _) _ _ _
  refine wpAny_bind (k_item (hi.eb s1.extBut D.i1z) (ha.eb s1.extBut D.l1z) hx fun g2 i2 s2 => wpAny_pure ?_)
  have to2 : IsPair g2 to u v := s2.extBut _ _ D.TOi1 (s1.extBut _ _ D.TOz hto)
  refine wpAny_bind (wpAny_seqItems to2 rfl ?_)
  refine wpAny_bind (wpAny_updateSeq_pair to2 fun g3 to3 s3 => ?_)
  replace to3 : IsPair g3 to x v := to3
  refine wpAny_bind (wpAny_letGo (wpAny_pure ?_))
  refine wpAny_bind (wpAny_bind (wpAny_onRaise ?_))
  show wpAny _ _ (Builtin.SmallTypes.nextOf (.ref j) >>= _) _ _ _
  refine wpAny_bind (k_item (((hj.eb s1.extBut D.i2z).eb s2.extBut D.i12.symm).eb s3.extBut D.TOi2.symm) (((hb.eb s1.extBut D.l2z).eb s2.extBut D.l2i1).eb s3.extBut D.l2TO) hy fun g4 j4 s4 => wpAny_pure ?_)
  have to4 : IsPair g4 to x v := s4.extBut _ _ D.TOi2 to3
  refine wpAny_bind (wpAny_seqItems to4 rfl ?_)
  refine wpAny_bind (wpAny_updateSeq_pair to4 fun g5 to5 s5 => ?_)
  replace to5 : IsPair g5 to x y := to5
  refine wpAny_bind (wpAny_letGo (wpAny_pure (wpAny_pure ?_)))
  refine wpAny_bind (wpAny_seqItems to5 rfl ?_)
  refine wpAny_bind (wpAny_newTuple ?_)
  have hsz : g5.objs.size = s.heap.objs.size := by rw [s5.1, s4.1, s3.1, s2.1, s1.1]
  have z5 : IsZip g5 z ti to .ellipsis := s5.extBut _ _ D.TOz.symm (s4.extBut _ _ D.i2z.symm (s3.extBut _ _ D.TOz.symm (s2.extBut _ _ D.i1z.symm z1)))
  have all5 : ∀ c o, c ≠ z → c ≠ to → c ≠ i → c ≠ j → s.heap.get? c = some o → g5.get? c = some o := fun c o c1 c2 c3 c4 e => s5.extBut _ _ c2 (s4.extBut _ _ c4 (s3.extBut _ _ c2 (s2.extBut _ _ c3 (s1.extBut _ _ c1 e))))
  have i5 : SI k g5 i a (n + 1) := ((i2.eb s3.extBut D.TOi1.symm).eb s4.extBut D.i12).eb s5.extBut D.TOi1.symm
  have j5 : SI m g5 j b (n + 1) := j4.eb s5.extBut D.TOi2.symm
  have zlt : z < g5.objs.size := Heap.lt_size z5
  show wpAny _ _ (Builtin.SmallTypes.ownedTupleHandOut (.ref z) (.ref g5.objs.size) >>= _) _ _ _
  refine wpAny_bind ?_
  unfold Builtin.SmallTypes.ownedTupleHandOut
  have z6 : IsZip (g5.push { cls := .type "tuple", data := .seq #[x, y] }) z ti to .ellipsis := Heap.get?_push_of_some _ z5
  refine wpAny_bind (wpAny_setField_rec z6 (by simp) fun g7 z7 s7 => ?_)
  replace z7 : IsZip g7 z ti to (rawInt g5.objs.size) := z7
  refine wpAny_setField_rec z7 (by simp) fun g8 z8 s8 => ?_
  replace z8 : IsZip g8 z ti to (rawInt g5.objs.size) := z8
  have up : ∀ c o, c ≠ z → g5.get? c = some o → g8.get? c = some o := fun c o c1 e => s8.extBut _ _ c1 (s7.extBut _ _ c1 (Heap.get?_push_of_some _ e))
  have t8 : IsPair g8 g5.objs.size x y := s8.extBut _ _ (Nat.ne_of_gt zlt) (s7.extBut _ _ (Nat.ne_of_gt zlt) (Heap.get?_push_size _ rfl))
  have n8 : g8.objs.size = g5.objs.size + 1 := by rw [s8.1, s7.1, Heap.size_push]
  rw [hsz] at z8 t8 n8
  refine wpAny_pure ⟨_, rfl, ?_⟩
  show Q (.ref g5.objs.size) _
  rw [hsz]
  exact q g8 z8 (up _ _ D.TOz to5) (i5.see fun o e => up _ o D.i1z e) (j5.see fun o e => up _ o D.i2z e) t8 n8 fun c o c1 c2 c3 c4 e => up c o c1 (all5 c o c1 c2 c3 c4 e)
theorem zk_end {k m : Bool} {z ti to i j a b : Addr} {n : Nat} {old : Value} {xs ys : Array Value} {Q : Fin → Shared → Prop} (hh : A.handled = none) (S : ZS k m s.heap z ti to i j a b n old xs ys) (hend : xs[n]? = none ∨ ys[n]? = none)
    (q : ∀ h' e, (∀ c o, c ≠ z → c ≠ to → c ≠ i → c ≠ j → s.heap.get? c = some o → h'.get? c = some o) → (∃ o, h'.get? e = some o ∧ o.cls = .type "StopIteration") → E (.ref e) { s with heap := h' }) :
    wpAny (model prog w) A (Builtin.«zip.__next__» ⟨[.ref z], []⟩) Q E s := by
  obtain ⟨D, hz, hti, ⟨u, v, hto⟩, hi, hj, ha, hb⟩ := S
  show wpAny _ _ (field (.ref z) 2 >>= _) _ _ _
  refine wpAny_bind (wpAny_field hz rfl (x := .bool false) rfl ?_)
  show wpAny _ _ (field (.ref z) 3 >>= _) _ _ _
  refine wpAny_bind (wpAny_field hz rfl (x := .ref ti) rfl ?_)
  refine wpAny_bind (wpAny_seqItems hti rfl ?_)
  show wpAny _ _ (Builtin.SmallTypes.ownedTupleIsFree (.ref z) >>= _) _ _ _
  refine wpAny_bind ?_
  unfold Builtin.SmallTypes.ownedTupleIsFree
  refine wpAny_bind (wpAny_field hz rfl (x := .none) rfl (wpAny_pure ?_))
  simp only [if_true]
  refine wpAny_bind (wpAny_rule ?_)
  refine wpAny_bind (wpAny_field hz rfl (x := .ref to) rfl ?_)
  refine wpAny_bind (wpAny_setField_rec hz (by simp) fun g1 z1 s1 => ?_)
  replace z1 : IsZip g1 z ti to .ellipsis := z1
  refine wpAny_bind ?_
  simp only [List.zipIdx_cons, List.zipIdx_nil, List.forIn_cons, List.forIn_nil]
  refine wpAny_bind (wpAny_bind (wpAny_onRaise ?_))
  show wpAny _ _ (Builtin.SmallTypes.nextOf (.ref i) >>= _) _ _ _
  cases hx : xs[n]? with
  | none =>
    refine wpAny_bind (k_end hh (hi.eb s1.extBut D.i1z) (ha.eb s1.extBut D.l1z) hx fun g2 e s2 he => ?_)
    obtain ⟨oe, hoe, hce⟩ := he
    have z2 : IsZip g2 z ti to .ellipsis := s2 _ _ D.i1z.symm z1
    have hez : e ≠ z := fun x => by subst x; rw [z2] at hoe; cases hoe; simp at hce
    refine wpAny_setField_rec z2 (by simp) fun g3 _ s3 => q g3 e (fun c o c1 _ c3 _ x => s3.extBut _ _ c1 (s2 _ _ c3 (s1.extBut _ _ c1 x))) ⟨oe, s3.extBut _ _ hez hoe, hce⟩
  | some x =>
    have hy : ys[n]? = none := by
      rcases hend with h | h
      · rw [hx] at h; cases h
      · exact h
    refine wpAny_bind (k_item (hi.eb s1.extBut D.i1z) (ha.eb s1.extBut D.l1z) hx fun g2 i2 s2 => wpAny_pure ?_)
    have to2 : IsPair g2 to u v := s2.extBut _ _ D.TOi1 (s1.extBut _ _ D.TOz hto)
    refine wpAny_bind (wpAny_seqItems to2 rfl ?_)
    refine wpAny_bind (wpAny_updateSeq_pair to2 fun g3 to3 s3 => ?_)
    refine wpAny_bind (wpAny_letGo (wpAny_pure ?_))
    refine wpAny_bind (wpAny_bind (wpAny_onRaise ?_))
    show wpAny _ _ (Builtin.SmallTypes.nextOf (.ref j) >>= _) _ _ _
    refine wpAny_bind (k_end hh (((hj.eb s1.extBut D.i2z).eb s2.extBut D.i12.symm).eb s3.extBut D.TOi2.symm) (((hb.eb s1.extBut D.l2z).eb s2.extBut D.l2i1).eb s3.extBut D.l2TO) hy fun g4 e s4 he => ?_)
    obtain ⟨oe, hoe, hce⟩ := he
    have z4 : IsZip g4 z ti to .ellipsis := s4 _ _ D.i2z.symm (s3.extBut _ _ D.TOz.symm (s2.extBut _ _ D.i1z.symm z1))
    have hez : e ≠ z := fun x => by subst x; rw [z4] at hoe; cases hoe; simp at hce
    refine wpAny_setField_rec z4 (by simp) fun g5 _ s5 => q g5 e (fun c o c1 c2 c3 c4 x => s5.extBut _ _ c1 (s4 _ _ c4 (s3.extBut _ _ c2 (s2.extBut _ _ c3 (s1.extBut _ _ c1 x))))) ⟨oe, s5.extBut _ _ hez hoe, hce⟩
theorem nx_item {k m : Bool} {z ti to i j a b : Addr} {n : Nat} {old x y : Value} {xs ys : Array Value} {Q : Option Value → Shared → Prop} (S : ZS k m s.heap z ti to i j a b n old xs ys) (hx : xs[n]? = some x) (hy : ys[n]? = some y) (q : ZQ k m s z ti to i j a b n x y fun v s => Q (some v) s) :
    wpAny (model prog w) A (pyNext (.ref z)) Q E s := by
  have hT : s.TypeIs (.ref z) "zip" := ⟨_, S.zip, rfl⟩
  unfold pyNext
  exact wpAny_bind (wpAny_attempt (wpAny_callSpecial?_slot (name := Str.ofString "__next__") hT F.slot_zip_next (wpAny_call_entry F.slot_zip_next hT F.entry_zip_next (zk_item S hx hy fun h' a1 a2 a3 a4 a5 a6 a7 => wpAny_pure (q h' a1 a2 a3 a4 a5 a6 a7)) (F.args_zip_next_1 _))))
theorem nx_end {k m : Bool} {z ti to i j a b : Addr} {n : Nat} {old : Value} {xs ys : Array Value} {Q : Option Value → Shared → Prop} (hh : A.handled = none) (S : ZS k m s.heap z ti to i j a b n old xs ys) (hend : xs[n]? = none ∨ ys[n]? = none)
    (q : ∀ h', (∀ c o, c ≠ z → c ≠ to → c ≠ i → c ≠ j → s.heap.get? c = some o → h'.get? c = some o) → Q none { s with heap := h' }) : wpAny (model prog w) A (pyNext (.ref z)) Q E s := by
  have hT : s.TypeIs (.ref z) "zip" := ⟨_, S.zip, rfl⟩
  unfold pyNext
  refine wpAny_bind (wpAny_attempt (wpAny_callSpecial?_slot (name := Str.ofString "__next__") hT F.slot_zip_next (wpAny_call_entry F.slot_zip_next hT F.entry_zip_next (zk_end hh S hend fun h' e hk he => ?_) (F.args_zip_next_1 _))))
  obtain ⟨o, ho, hc⟩ := he
  refine wpAny_bind (wpAny_isInstance (T := "StopIteration") (b := true) ⟨o, ho, hc⟩ isSubtype_stop ?_)
  exact wpAny_pure (q _ hk)
abbrev zk1 (k : Bool) (h : Heap) (a : Addr) : Heap := h.push (itC k a)
abbrev zk2 (k m : Bool) (h : Heap) (a b : Addr) : Heap := (zk1 k h a).push (itC m b)
abbrev zk3 (k m : Bool) (h : Heap) (a b : Addr) : Heap := (zk2 k m h a b).push { cls := .type "tuple", data := .seq #[.ref h.objs.size, .ref (zk1 k h a).objs.size] }
abbrev zk4 (k m : Bool) (h : Heap) (a b : Addr) : Heap := (zk3 k m h a b).push { cls := .type "tuple", data := .seq #[.none, .none] }
abbrev zk5 (k m : Bool) (h : Heap) (a b : Addr) : Heap := (zk4 k m h a b).push { cls := .type "zip", data := .fields #[.none, .bool false, .bool false, .ref (zk2 k m h a b).objs.size, .ref (zk3 k m h a b).objs.size] }
end
theorem meets_zk (k m : Bool) (a b : Addr) (xs ys : Array Value) : Meets (Builtin.«zip.__new__» ⟨[.type "zip", .ref a, .ref b], []⟩) (fun _ R s => SA k s.heap a xs ∧ SA m s.heap b ys ∧ R (.ok (.ret (.ref (zk4 k m s.heap a b).objs.size))) { s with heap := zk5 k m s.heap a b }) :=
  .of_wp fun prog w A R s h => by
    obtain ⟨hp, g, d, tk, os⟩ := s
    obtain ⟨ha, hb, h⟩ := h
    have hsub := sub_zip
    cases k <;> cases m
    · have A1 : Heap.IsList (Shared.heap ⟨hp, g, d, tk, os⟩) a xs := ha
      have B1 : Heap.IsList (Shared.heap ⟨hp.push { cls := .type "list_iterator", data := .fields #[.ref a, .int 0 0] }, g, d, tk, os⟩) b ys := Heap.IsList.push hb _
      wp_walk using wpAny_pyIter_list A1, wpAny_pyIter_list B1
      exact ⟨_, rfl, h⟩
    · have A1 : Heap.IsList (Shared.heap ⟨hp, g, d, tk, os⟩) a xs := ha
      have B1 : Heap.IsTuple (Shared.heap ⟨hp.push { cls := .type "list_iterator", data := .fields #[.ref a, .int 0 0] }, g, d, tk, os⟩) b ys := Heap.IsTuple.push hb _
      wp_walk using wpAny_pyIter_list A1, wpAny_pyIter_tuple B1
      exact ⟨_, rfl, h⟩
    · have A1 : Heap.IsTuple (Shared.heap ⟨hp, g, d, tk, os⟩) a xs := ha
      have B1 : Heap.IsList (Shared.heap ⟨hp.push { cls := .type "tuple_iterator", data := .fields #[.ref a, .int 0 0] }, g, d, tk, os⟩) b ys := Heap.IsList.push hb _
      wp_walk using wpAny_pyIter_tuple A1, wpAny_pyIter_list B1
      exact ⟨_, rfl, h⟩
    · have A1 : Heap.IsTuple (Shared.heap ⟨hp, g, d, tk, os⟩) a xs := ha
      have B1 : Heap.IsTuple (Shared.heap ⟨hp.push { cls := .type "tuple_iterator", data := .fields #[.ref a, .int 0 0] }, g, d, tk, os⟩) b ys := Heap.IsTuple.push hb _
      wp_walk using wpAny_pyIter_tuple A1, wpAny_pyIter_tuple B1
      exact ⟨_, rfl, h⟩
theorem itC_free (k : Bool) (a : Addr) : (itC k a).isFreed = false := by cases k <;> rfl
theorem call_zk {prog : Program} {w : World} {A : Around} {E : Value → Shared → Prop} {s : Shared} (k m : Bool) {a b : Addr} {xs ys : Array Value} {Q : Value → Shared → Prop} (ha : SA k s.heap a xs) (hb : SA m s.heap b ys)
    (h : ∀ h', IsZip h' (s.heap.objs.size + 4) (s.heap.objs.size + 2) (s.heap.objs.size + 3) .none → IsPair h' (s.heap.objs.size + 2) (.ref s.heap.objs.size) (.ref (s.heap.objs.size + 1)) →
      IsPair h' (s.heap.objs.size + 3) .none .none → SI k h' s.heap.objs.size a 0 → SI m h' (s.heap.objs.size + 1) b 0 → h'.objs.size = s.heap.objs.size + 5 →
      (∀ c o, s.heap.get? c = some o → h'.get? c = some o) → Q (.ref (s.heap.objs.size + 4)) { s with heap := h' }) :
    wpAny (model prog w) A (call (.type "zip") [.ref a, .ref b]) Q E s := by
  refine callType_new F.called_zip (by decide) (F.typeCall_zip_2 _ _) (F.newCall_zip_2 _ _) (fun obj => F.args_object_init_3 obj _ _) F.entry_zip_new (meets_zk k m a b xs ys) ⟨ha, hb, ?_⟩
  have n1 : (zk1 k s.heap a).objs.size = s.heap.objs.size + 1 := Heap.size_push ..
  have n2 : (zk2 k m s.heap a b).objs.size = s.heap.objs.size + 2 := by rw [Heap.size_push, n1]
  have n3 : (zk3 k m s.heap a b).objs.size = s.heap.objs.size + 3 := by rw [Heap.size_push, n2]
  have n4 : (zk4 k m s.heap a b).objs.size = s.heap.objs.size + 4 := by rw [Heap.size_push, n3]
  have n5 : (zk5 k m s.heap a b).objs.size = s.heap.objs.size + 5 := by rw [Heap.size_push, n4]
  have g5 : (zk5 k m s.heap a b).get? (zk4 k m s.heap a b).objs.size = some _ := Heap.get?_push_size _ rfl
  have g4 : (zk5 k m s.heap a b).get? (zk3 k m s.heap a b).objs.size = some _ := Heap.get?_push_of_some _ (Heap.get?_push_size _ rfl)
  have g3 : (zk5 k m s.heap a b).get? (zk2 k m s.heap a b).objs.size = some _ := Heap.get?_push_of_some _ (Heap.get?_push_of_some _ (Heap.get?_push_size _ rfl))
  have g2 : (zk5 k m s.heap a b).get? (zk1 k s.heap a).objs.size = some (itC m b) := Heap.get?_push_of_some _ (Heap.get?_push_of_some _ (Heap.get?_push_of_some _ (Heap.get?_push_size _ (itC_free m b))))
  have g1 : (zk5 k m s.heap a b).get? s.heap.objs.size = some (itC k a) := Heap.get?_push_of_some _ (Heap.get?_push_of_some _ (Heap.get?_push_of_some _ (Heap.get?_push_of_some _ (Heap.get?_push_size _ (itC_free k a)))))
  show _ ∧ _
  rw [n2, n3, n4] at g5
  rw [n1, n2] at g3
  rw [n3] at g4
  rw [n1] at g2
  rw [n4]
  exact ⟨⟨_, g5, rfl⟩, h _ g5 g3 g4 (SI.new g1) (SI.new g2) n5 fun c o x => Heap.get?_push_of_some _ (Heap.get?_push_of_some _ (Heap.get?_push_of_some _ (Heap.get?_push_of_some _ (Heap.get?_push_of_some _ x))))⟩
/-! at the level of the rules -/
def SqK (K : PySem.W.Frag) (k : Bool) (H : Hp) (a : Addr) (xs : List V) : Prop := match k with
  | true => SqT K H a xs
  | false => SqL K H a xs
theorem SqK.at {X : Cx} {pins : List (Addr × Obj)} {σ : L2.St} {H : Hp} {s : Shared} (I : Inv X pins σ H s) {k : Bool} {a : Addr} {xs : List V} (h : SqK X.K k H a xs) : ∃ its : List Value, Vals xs its ∧ SA k s.heap a its.toArray ∧ a < s.heap.objs.size := by
  cases k
  · obtain ⟨its, rv, p, _⟩ := I.list h
    exact ⟨its, rv, p.isList, p.lt⟩
  · obtain ⟨its, rv, p, _⟩ := I.tuple h
    obtain ⟨o, ho, _⟩ := id p
    exact ⟨its, rv, p, Heap.lt_size ho⟩
theorem SqK.inj {X : Cx} {pins : List (Addr × Obj)} {σ : L2.St} {H : Hp} {s : Shared} (I : Inv X pins σ H s) {k : Bool} {a : Addr} {xs ys : List V} (h : SqK X.K k H a xs) (h' : SqK X.K k H a ys) : xs = ys := by
  cases k
  · exact I.list_inj h h'
  · exact I.tuple_inj h h'
def ItzK (K : PySem.W.Frag) (k m : Bool) (a b : Addr) : It :=
  ⟨fun i H => ∃ (xs ys : List V) (x y : V), SqK K k H a xs ∧ SqK K m H b ys ∧ xs[i]? = some x ∧ ys[i]? = some y,
    fun i H v H' => ∃ t x y, v = .ref t ∧ H t = none ∧ H' = upd H t (.tup [x, y]) ∧ (∀ xs, SqK K k H a xs → xs[i]? = some x) ∧ ∀ ys, SqK K m H b ys → ys[i]? = some y,
    fun i H => ∃ xs ys : List V, SqK K k H a xs ∧ SqK K m H b ys ∧ (xs.length ≤ i ∨ ys.length ≤ i)⟩
theorem five {c z ti to i j : Addr} (h : c ∈ [z, ti, to, i, j]) : c = z ∨ c = ti ∨ c = to ∨ c = i ∨ c = j := by simpa using h
theorem turn_zk {P : Program} {w : World} {K : PySem.W.Frag} {elts : List Expr} {kk : Nat} {tpos : Pos} {k m : Bool} {a b z ti to i j : Addr} (D : ZipApart z ti to i j a b) :
    Turn P w K (.Tuple elts kk tpos) (ItzK K k m a b) [z, ti, to, i, j] z (fun n h => IsZip h z ti to .none ∧ IsPair h ti (.ref i) (.ref j) ∧ (∃ x y, IsPair h to x y) ∧ SI k h i a n ∧ SI m h j b n) where
  mem := by simp
  obj := fun n h st c hc => by
    obtain ⟨hz, hti, ⟨x, y, hto⟩, hi, hj⟩ := st
    obtain ⟨o1, e1, f1, d1⟩ := hi.obj
    obtain ⟨o2, e2, f2, d2⟩ := hj.obj
    rcases five hc with q | q | q | q | q
    · rw [q]; exact ⟨_, hz, fun v q => nomatch q⟩
    · rw [q]; exact ⟨_, hti, fun v q => nomatch q⟩
    · rw [q]; exact ⟨_, hto, fun v q => nomatch q⟩
    · rw [q]; exact ⟨o1, e1, fun v q => by rw [d1] at q; cases q⟩
    · rw [q]; exact ⟨o2, e2, fun v q => by rw [d2] at q; cases q⟩
  keep := fun n h h' st f => by
    obtain ⟨hz, hti, ⟨x, y, hto⟩, hi, hj⟩ := st
    exact ⟨f z (by simp) _ hz, f ti (by simp) _ hti, ⟨x, y, f to (by simp) _ hto⟩, hi.see fun o q => f i (by simp) o q, hj.see fun o q => f j (by simp) o q⟩
  item := by
    intro X hP hw hK hc n pins s σ H E I hf st hg
    subst hP hw hK
    obtain ⟨hz, hti, hto, hi, hj⟩ := st
    obtain ⟨xs, ys, x, y, qx, qy, hx, hy⟩ := hg
    obtain ⟨us, rx, px, _⟩ := SqK.at I qx
    obtain ⟨vs, ry, py, _⟩ := SqK.at I qy
    obtain ⟨u, hu, ru⟩ := rx.get hx
    obtain ⟨v, hv, rv⟩ := ry.get hy
    have zlt : z < s.heap.objs.size := Heap.lt_size hz
    have tlt : ti < s.heap.objs.size := Heap.lt_size hti
    have olt : to < s.heap.objs.size := by obtain ⟨_, _, q⟩ := hto; exact Heap.lt_size q
    have ilt : i < s.heap.objs.size := by obtain ⟨_, q, _⟩ := hi.obj; exact Heap.lt_size q
    have jlt : j < s.heap.objs.size := by obtain ⟨_, q, _⟩ := hj.obj; exact Heap.lt_size q
    refine nx_item (old := .none) (S := ⟨D, hz, hti, hto, hi, hj, px, py⟩) (x := u) (y := v) (by simpa using hu) (by simpa using hv) fun h' z' to' i' j' t' hsz f => ?_
    refine ⟨_, rfl, wpAny_letOwnedTupleGo_zip (s := { s with heap := h' }) z' fun h'' z'' sb => ?_⟩
    have t2 : h''.get? s.heap.objs.size = some { cls := .type "tuple", data := .seq #[u, v] } := (sb.2 _ (Nat.ne_of_gt zlt)).trans t'
    have new : ObjOk X.prog X.w (upd H s.heap.objs.size (.tup [x, y])) h'' s.heap.objs.size (.tup [x, y]) := ⟨by show 2 ≤ sizeLine; decide, [u, v], .cons ru (.cons rv .nil), ⟨_, t2, rfl, _, rfl⟩⟩
    have I1 : Inv X pins σ (upd H s.heap.objs.size (.tup [x, y])) { s with heap := h'' } :=
      I.turnedNew (t' := s.toks) (ch := [z, ti, to, i, j]) (fun c o hb q => (sb.2 c (fun q' => hb (by simp [q']))).trans (f c o (fun q' => hb (by simp [q'])) (fun q' => hb (by simp [q'])) (fun q' => hb (by simp [q'])) (fun q' => hb (by simp [q'])) q)) hf (Nat.le_refl _) new
    refine ⟨.ref s.heap.objs.size, _, I1, rfl, ⟨_, x, y, rfl, I.hok.fresh (Nat.le_refl _), rfl, fun l hl => by rw [SqK.inj I hl qx]; exact hx, fun l hl => by rw [SqK.inj I hl qy]; exact hy⟩, ⟨z'', ?_, ⟨u, v, ?_⟩, ?_, ?_⟩, fun c hcm => ?_⟩
    · exact (sb.2 _ D.TIz).trans (f _ _ D.TIz D.TITO D.TIi1 D.TIi2 hti)
    · exact (sb.2 _ D.TOz).trans to'
    · exact i'.see fun o q => (sb.2 _ D.i1z).trans q
    · exact j'.see fun o q => (sb.2 _ D.i2z).trans q
    · have lt : c < s.heap.objs.size := by
        rcases five hcm with q | q | q | q | q
        · rw [q]; exact zlt
        · rw [q]; exact tlt
        · rw [q]; exact olt
        · rw [q]; exact ilt
        · rw [q]; exact jlt
      rw [upd_ne (Nat.ne_of_lt lt)]
      exact (hf c hcm).1
  done := by
    intro X hP hw hK hc n pins s σ H E I hf st hg
    subst hP hw hK
    obtain ⟨hz, hti, hto, hi, hj⟩ := st
    obtain ⟨xs, ys, qx, qy, hend⟩ := hg
    obtain ⟨us, rx, px, _⟩ := SqK.at I qx
    obtain ⟨vs, ry, py, _⟩ := SqK.at I qy
    have l1 := rx.length
    have l2 := ry.length
    have he : us.toArray[n]? = none ∨ vs.toArray[n]? = none := by
      rcases hend with q | q
      · exact .inl (by simp; omega)
      · exact .inr (by simp; omega)
    exact nx_end (I.ok.hd hc) (old := .none) ⟨D, hz, hti, hto, hi, hj, px, py⟩ he fun h' f => ⟨rfl, I.turnedL (t' := s.toks) (ch := [z, ti, to, i, j]) (fun c o hb q =>
      f c o (fun q' => hb (by simp [q'])) (fun q' => hb (by simp [q'])) (fun q' => hb (by simp [q'])) (fun q' => hb (by simp [q'])) q) hf⟩
  self := fun A n s Q E st h => wpAny_pyIter_zip st.1 h
theorem walk_zk {K : PySem.W.Frag} {k m : Bool} {a b : Addr} {xs ys : List V} {n : Nat} (hn : n = min xs.length ys.length) : Walk (ItzK K k m a b) n (fun H => SqK K k H a xs ∧ SqK K m H b ys) (YPair (fun i => xs[i]?) (fun i => ys[i]?)) := by
  subst hn
  refine ⟨fun i _ hi q => ⟨xs, ys, xs[i], ys[i], q.1, q.2, List.getElem?_eq_getElem _, List.getElem?_eq_getElem _⟩, fun _ q => ⟨xs, ys, q.1, q.2, by omega⟩, fun i H v H' _ q y => ?_⟩
  obtain ⟨t, x, y, h1, h2, h3, h4, h5⟩ := y
  exact ⟨t, x, y, h1, h2, h3, h4 xs q.1, h5 ys q.2⟩
/-- zip(x, y), x and y each a list or a tuple -/
def iZipK (K : PySem.W.Frag) (ta : TA) : TI := fun σ H R => ta σ H fun vs H1 => ∃ a b xs ys k m, vs = [.ref a, .ref b] ∧ SqK K k H1 a xs ∧ SqK K m H1 b ys ∧ R (ItzK K k m a b) H1
theorem pi_zipK {X : Cx} {e e2 : Expr} {ta : TA} {p pos tpos : Pos} {elts : List Expr} {kk : Nat} (hg : Gl X "zip") (hm : X.mg "zip" = none) (ha : PA X [e, e2] ta)
    (hs : starEach [e, e2] X.env = (false, eval e X.env) :: starEach [e2] X.env := by rfl) (hpl : (backTo pos (starEach [e2] X.env)).any (·.1) = false := by rfl) :
    PI X (.Tuple elts kk tpos) (.Call (.Name "zip" p) [e, e2] [] pos) (iZipK X.K ta) := by
  refine ⟨fun pins s σ H R I h => ?_⟩
  refine Call_ (ld_blt I hg hm PyProof.Rows.boot_zip (PyProof.Rows.callWith_type1 (thn (ha.run pos pins s σ H _ I h) fun us s1 ⟨vs, H1, I1, r1, q1⟩ => ?_) hs hpl))
  obtain ⟨a, b, xs, ys, k, m, ex, qx, qy, q⟩ := q1
  subst ex
  cases r1 with
  | cons r rr =>
    cases rr with
    | cons r' rr =>
      cases rr
      cases r
      cases r'
      have fresh : ∀ c, c ∈ [s1.heap.objs.size + 4, s1.heap.objs.size + 2, s1.heap.objs.size + 3, s1.heap.objs.size, s1.heap.objs.size + 1] → FpOk X pins H1 c := fun c hcm => by
        have hle : s1.heap.objs.size ≤ c := by
          rcases five hcm with z | z | z | z | z
          · rw [z]; exact Nat.le_add_right _ _
          · rw [z]; exact Nat.le_add_right _ _
          · rw [z]; exact Nat.le_add_right _ _
          · rw [z]; exact Nat.le_refl _
          · rw [z]; exact Nat.le_add_right _ _
        exact I1.fpOk hle (I1.hok.fresh hle)
      obtain ⟨ux, rx, px, lx⟩ := SqK.at I1 qx
      obtain ⟨uy, ry, py, ly⟩ := SqK.at I1 qy
      refine call_zk k m px py fun h' hz hti hto hi hj hsz f => wpAny_pyIter_zip hz ?_
      have I2 : Inv X pins σ H1 { s1 with heap := h' } := I1.kept (t' := s1.toks) f
      exact ⟨s1.heap.objs.size + 4, [s1.heap.objs.size + 4, s1.heap.objs.size + 2, s1.heap.objs.size + 3, s1.heap.objs.size, s1.heap.objs.size + 1], _, _, H1, rfl, I2, turn_zk (PySem.W.ktu_apart s1.heap.objs.size a b lx ly), ⟨hz, hti, ⟨_, _, hto⟩, hi, hj⟩, fresh, q⟩
end Dw

/-! Own classes: instances made, their fields stored by __init__ in turn. -/
namespace Dw
open PySem PySem.Spec PyProof.Rows L2
section
variable {X : Cx} {pins : List (Addr × Obj)} {σ : L2.St} {H : Hp} {s : Shared} {C : Addr}
theorem run_make0 {Q : VK} (mk : PySem.W.makesIn X.K C = true) (ini : PySem.W.findIn X.K (.ref C) "__init__" = some (some (.builtin "object.__init__"))) (I : Inv X pins σ H s)
    (h : ∀ x dx, H x = none → H dx = none → dx ≠ x → Q (.ref x) (upd (upd H dx (.own x)) x (.ins C dx []))) : wpAny (model X.prog X.w) X.A (call (.ref C) []) (EP X pins σ Q) X.xe s := by
  have hq := h (s.heap.objs.size + 1) s.heap.objs.size (I.hok.fresh (Nat.le_succ _)) (I.hok.fresh (Nat.le_refl _)) (Nat.ne_of_lt (Nat.lt_succ_self _))
  have I2 := Inv.made (C := C) I
  obtain ⟨hh, g, d, t, os⟩ := s
  have Y := PySem.W.makes_of (M := model X.prog X.w) I.kIn mk
  have t1 : PySem.W.Looks (model X.prog X.w) ((hh.push PySem.W.emptyDict).push (PySem.W.instObj C hh.objs.size)) (typeOf (.ref (hh.objs.size + 1))) (.ref C) := by
    have e : ((hh.push PySem.W.emptyDict).push (PySem.W.instObj C hh.objs.size)).get? (hh.objs.size + 1) = some (PySem.W.instObj C hh.objs.size) := by
      have := Heap.get?_push_size (hh.push PySem.W.emptyDict) (o := PySem.W.instObj C hh.objs.size) rfl
      rwa [Heap.size_push] at this
    exact (PySem.W.Looks.ld e).andThen .now
  have t2 : PySem.W.Looks (model X.prog X.w) ((hh.push PySem.W.emptyDict).push (PySem.W.instObj C hh.objs.size)) (isInstance (.ref (hh.objs.size + 1)) (.type "object")) true := t1.andThen (Y.top.keeps fun b o e => Heap.get?_push_of_some _ (Heap.get?_push_of_some _ e))
  refine wpAny_call (make_map0 (C := C) I.kIn mk ini (fun self => PySem.W.Looks.of_pure (PySem.W.oi_bind self)) ?_)
  refine codeAny_call_builtin PySem.W.oi_plain PySem.W.entry_oi (@PySem.W.check_slot (model X.prog X.w) _ _ _ "object.__init__" "object" "__init__" (.ref (hh.objs.size + 1)) [] [] _ PySem.W.oi_kind PySem.W.oi_split t2 (PySem.W.oi_args (.ref (hh.objs.size + 1))) ?_)
  rw [PySem.W.oi_run]
  exact wpAny_pure (And.intro rfl ⟨V.ref (hh.objs.size + 1), _, I2, rfl, hq⟩)
def tMk0 (C : Addr) : TE := fun _ H Q => ∀ x dx, H x = none → H dx = none → dx ≠ x → Q (.ref x) (upd (upd H dx (.own x)) x (.ins C dx []))
theorem pe_make00 {x : Str} {p pos : Pos} (mk : PySem.W.makesIn X.K C = true) (kp : PySem.W.keepIn X.K (.ref C) = true) (ini : PySem.W.findIn X.K (.ref C) "__init__" = some (some (.builtin "object.__init__"))) (hg : Gl X x) (hm : X.mg x = some (.ref C))
    (hdb : (x == ("__debug__" : Str)) = false := by decide) : PE X (.Call (.Name x p) [] [] pos) (tMk0 C) := by
  refine ⟨fun pins s σ H Q I h => ?_⟩
  refine wpAny_Call_Name_kw (ld_glob I hg hm ?_ hdb)
  exact PySem.W.callWith_K0 I.kIn kp (run_make0 mk ini I h)
end
/-- what __init__ promises: the fields in turn -/
def spIni (C : Addr) (fl : List Str) : Sp := fun vs H Q _ => ∃ x dx us, vs = .ref x :: us ∧ us.length = fl.length ∧ H x = some (.ins C dx []) ∧ Q .non (upd H x (.ins C dx (fl.zip us)))
def visC (sc : Scope) (x : Str) : Bool := match sc.names.lookup x with
  | some .local => true
  | some .cell => true
  | some .free => true
  | _ => false
/-- self.f = p -/
def asIni : Stmt → Option (Str × Str × Str)
  | .Assign [.Attribute (.Name s _) f _] (.Name p _) _ => some (s, f, p)
  | _ => none
theorem asIni_eq {st : Stmt} {s f p : Str} (h : asIni st = some (s, f, p)) : ∃ p1 p2 p3 p4, st = .Assign [.Attribute (.Name s p1) f p2] (.Name p p3) p4 := by
  unfold asIni at h
  split at h <;> first | (cases h; exact ⟨_, _, _, _, rfl⟩) | cases h
def chkIni (N : List Str) (sc : Scope) : List Str → Nat → List Stmt → Bool
  | [], _, [] => true
  | f :: fl, k, st :: r => (match asIni st with
    | some (s, f', p) => decide (f' = f) && decide (N[0]? = some s) && visC sc s && decide (N[k]? = some p) && visC sc p && !(s == ("__debug__" : Str)) && !(s == ("__classdict__" : Str)) && !(p == ("__debug__" : Str)) && !(p == ("__classdict__" : Str))
    | none => false) && chkIni N sc fl (k + 1) r
  | _, _, _ => false
theorem upd_upd {H : Hp} {a : Addr} {o p : HO} : upd (upd H a o) a p = upd H a p := by
  funext b
  by_cases h : b = a
  · subst h; rw [upd_same, upd_same]
  · rw [upd_ne h, upd_ne h, upd_ne h]
theorem upd_id {H : Hp} {a : Addr} {o : HO} (h : H a = some o) : upd H a o = H := by
  funext b
  by_cases e : b = a
  · subst e; rw [upd_same, h]
  · rw [upd_ne e]
theorem putF_new (f : Str) (v : V) : ∀ {fs : List (Str × V)}, f ∉ fs.map (·.1) → putF f v fs = fs ++ [(f, v)]
  | [], _ => rfl
  | (g, x) :: r, h => by
    have hg : ¬ g = f := fun e => h (by simp [e])
    show (if g = f then (g, v) :: r else (g, x) :: putF f v r) = _
    rw [if_neg hg, putF_new f v (fun z => h (by simp only [List.map_cons]; exact List.mem_cons_of_mem _ z))]
    rfl
theorem visC_of {sc : Scope} {x : Str} (h : visC sc x = true) : Vis sc x := by
  unfold visC at h
  unfold Vis
  split at h <;> simp_all
theorem ini_body {X : Cx} {C : Addr} (cl : Cls X.K C) : ∀ (st : List Stmt) (fl : List Str) (k : Nat) (_ : chkIni X.N X.env.scope fl k st = true) (_ : ∀ f ∈ fl, NoAttr X.K C f) (_ : fl.Nodup),
    PSs X st (fun Dn σ H => ∃ x dx done us, σ[0]? = some (some (.ref x)) ∧ H x = some (.ins C dx done) ∧ done.length + fl.length < 1000 ∧ (∀ f ∈ fl, f ∉ done.map (·.1)) ∧ us.length = fl.length ∧ (∀ j u, us[j]? = some u → σ[k + j]? = some (some u)) ∧ Dn.nx σ (upd H x (.ins C dx (done ++ fl.zip us))))
  | [], fl, k, h, _, _ => by
    cases fl with
    | cons f r => simp [chkIni] at h
    | nil =>
      refine ⟨fun pins s σ H D I q => pss_nil.run pins s σ H D I ?_⟩
      obtain ⟨x, dx, done, us, h1, h2, _, _, _, _, h3⟩ := q
      rw [List.zip_nil_left, List.append_nil, upd_id h2] at h3
      exact h3
  | st :: r, fl, k, h, na, nd => by
    cases fl with
    | nil => simp [chkIni] at h
    | cons f fl =>
      unfold chkIni at h
      rw [Bool.and_eq_true] at h
      obtain ⟨h, h10⟩ := h
      split at h <;> first | cases h | skip
      · rename_i s1 f' p hb
        obtain ⟨p1, p2, p3, p4, rfl⟩ := asIni_eq hb
        simp only [Bool.and_eq_true, decide_eq_true_eq, Bool.not_eq_true'] at h
        obtain ⟨⟨⟨⟨⟨⟨⟨⟨h1, h2⟩, h3⟩, h4⟩, h5⟩, h6⟩, h7⟩, h8⟩, h9⟩ := h
        subst h1
        have R := ini_body cl r fl (k + 1) h10 (fun g hg => na g (List.mem_cons_of_mem _ hg)) (List.nodup_cons.1 nd).2
        refine ⟨fun pins s σ H D I q => (pss_cons (ps_fld (pe_var h2 (visC_of h3) h6 h7) (pe_var h4 (visC_of h5) h8 h9) rfl) R).run pins s σ H D I ?_⟩
        obtain ⟨x, dx, done, us, q1, q2, q3, q4, q5, q6, q7⟩ := q
        cases us with
        | nil => simp at q5
        | cons u us =>
          have hu := q6 0 u rfl
          refine ⟨u, hu, .ref x, q1, x, C, dx, done, rfl, q2, cl, na f' List.mem_cons_self, by simp only [List.length_cons] at q3; omega, ?_⟩
          refine ⟨x, dx, putF f' u done, us, q1, upd_same, ?_, fun g hg => ?_, by simpa using q5, fun j w hj => ?_, ?_⟩
          · rw [putF_new f' u (q4 f' List.mem_cons_self), List.length_append]
            simp only [List.length_cons, List.length_nil] at q3 ⊢
            omega
          · rw [putF_new f' u (q4 f' List.mem_cons_self), List.map_append]
            intro z
            rcases List.mem_append.1 z with z | z
            · exact q4 g (List.mem_cons_of_mem _ hg) z
            · simp only [List.map_cons, List.map_nil, List.mem_singleton] at z
              subst z
              exact (List.nodup_cons.1 nd).1 hg
          · have := q6 (j + 1) w (by simpa using hj)
            rw [show k + 1 + j = k + (j + 1) by omega]
            exact this
          · rw [upd_upd, putF_new f' u (q4 f' List.mem_cons_self), List.append_assoc]
            exact q7
theorem start_at {N : List Str} {vs : List V} {j : Nat} {u : V} (h : vs[j]? = some u) (hl : vs.length ≤ N.length) : (L2.start N vs)[j]? = some (some u) := by
  unfold L2.start
  have hj := (List.getElem?_eq_some_iff.mp h).1
  rw [List.getElem?_append_left (by simpa using hj), List.getElem?_map, h]
  rfl
theorem ini_ok {Pr : Program} {w : World} {K : PySem.W.Frag} {mg : Str → Option Value} {base : Heap} {CX : CXT} {C : Addr} {qual : Str} {st : Stmt} {f : Addr} {fd : FuncData} {N : List Str} {fl : List Str}
    (F : ∃ dvs, FunD K "__init__" qual (defArgs st) (defBody st) (defScope st) dvs [] f fd) (S : FnScope N N (defScope st)) (hl : N.length = fl.length + 1) (h1000 : fl.length < 1000) (cl : Cls K C) (na : ∀ g ∈ fl, NoAttr K C g) (nd : fl.Nodup)
    (ck : chkIni N (defScope st) fl 1 (defBody st) = true) : FnOk Pr w K mg base CX 1 f fd N (spIni C fl) := by
  obtain ⟨dvs, F⟩ := F
  refine F.ok S (fun vs H Q E h => ?_) fun cdv A outer s H vs Q E hr h => ?_
  · obtain ⟨x, dx, us, rfl, h1, _⟩ := h
    rw [List.length_cons, h1, hl]
  · obtain ⟨x, dx, us, rfl, h1, h2, h3⟩ := h
    refine ⟨_, ini_body (X := cxOf CX Pr w K mg base N qual (defScope st) f cdv A outer s H E) cl (defBody st) fl 1 ck na nd, x, dx, [], us, start_at rfl (by rw [List.length_cons, h1, hl]; omega), h2, by simpa using h1000, fun g _ z => (by cases z), h1, fun j u hj => ?_, ?_⟩
    · refine start_at ?_ (by rw [List.length_cons, h1, hl]; omega)
      rw [Nat.add_comm, List.getElem?_cons_succ]; exact hj
    · rw [List.nil_append]; exact h3
end Dw

/-! sorted(rows of whole numbers), of any length. -/
namespace Dw
open PySem PySem.Spec PyProof.Rows L2
theorem lexLt_asym : ∀ x y : List Int, HT.lexLt x y = true → HT.lexLt y x = false
  | [], [], h => by cases h
  | [], _ :: _, _ => rfl
  | _ :: _, [], h => by cases h
  | a :: x, b :: y, h => by
    rw [HT.lexLt_cons] at h ⊢
    by_cases e : a = b
    · rw [if_pos e] at h; rw [if_pos e.symm]; exact lexLt_asym x y h
    · rw [if_neg e] at h; rw [if_neg (Ne.symm e)]
      simp only [decide_eq_true_eq] at h
      simp only [decide_eq_false_iff_not]; omega
theorem lexLt_tr : ∀ x y z : List Int, HT.lexLt y x = false → HT.lexLt z y = false → HT.lexLt z x = false
  | [], [], z, _, h => h
  | [], _ :: _, [], _, _ => rfl
  | [], _ :: _, _ :: _, _, _ => rfl
  | _ :: _, [], _, h, _ => by cases h
  | _ :: _, _ :: _, [], _, h => by cases h
  | a :: x, b :: y, c :: z, h1, h2 => by
    rw [HT.lexLt_cons] at h1 h2 ⊢
    by_cases e1 : b = a
    · rw [if_pos e1] at h1
      subst e1
      by_cases e2 : c = b
      · rw [if_pos e2] at h2 ⊢; exact lexLt_tr x y z h1 h2
      · rw [if_neg e2] at h2 ⊢; exact h2
    · rw [if_neg e1] at h1
      simp only [decide_eq_false_iff_not] at h1
      by_cases e2 : c = b
      · subst e2
        rw [if_neg e1]; simp only [decide_eq_false_iff_not]; exact h1
      · rw [if_neg e2] at h2
        simp only [decide_eq_false_iff_not] at h2
        rw [if_neg (show ¬ c = a by omega)]; simp only [decide_eq_false_iff_not]; omega
theorem lexLt_eq : ∀ x y : List Int, HT.lexLt x y = false → HT.lexLt y x = false → x = y
  | [], [], _, _ => rfl
  | [], _ :: _, h, _ => by cases h
  | _ :: _, [], _, h => by cases h
  | a :: x, b :: y, h1, h2 => by
    rw [HT.lexLt_cons] at h1 h2
    by_cases e : a = b
    · subst e
      rw [if_pos rfl] at h1 h2
      rw [lexLt_eq x y h1 h2]
    · rw [if_neg e] at h1; rw [if_neg (Ne.symm e)] at h2
      simp only [decide_eq_false_iff_not] at h1 h2
      omega
theorem swo_lexL {α : Type} (k : α → List Int) : SrtO.Swo fun v u => HT.lexLt (k v) (k u) :=
  ⟨fun x y h => lexLt_asym _ _ h, fun x y z h1 h2 => lexLt_tr _ _ _ h1 h2⟩
theorem insT_perm (x : List Int) : ∀ l, (insT x l).Perm (x :: l)
  | [] => .refl _
  | y :: r => by
    unfold insT
    split
    · exact ((insT_perm x r).cons y).trans (.swap x y r)
    · exact .refl _
theorem sortT_perm : ∀ l, (sortT l).Perm l
  | [] => .refl _
  | x :: r => (insT_perm x _).trans ((sortT_perm r).cons x)
def SrtL (l : List (List Int)) : Prop := l.Pairwise fun x y => HT.lexLt y x = false
theorem lexLt_refl (x : List Int) : HT.lexLt x x = false := (swo_lexL (fun x : List Int => x)).refl x
theorem insT_sorted (x : List Int) : ∀ l, SrtL l → SrtL (insT x l)
  | [], _ => List.pairwise_singleton _ _
  | y :: r, h => by
    unfold insT
    split
    · rename_i h1
      refine List.pairwise_cons.2 ⟨fun z hz => ?_, insT_sorted x r (List.pairwise_cons.1 h).2⟩
      rcases List.mem_cons.1 ((insT_perm x r).mem_iff.1 hz) with rfl | hz
      · exact lexLt_asym _ _ h1
      · exact (List.pairwise_cons.1 h).1 z hz
    · rename_i h1
      have h1 : HT.lexLt y x = false := by simpa using h1
      refine List.pairwise_cons.2 ⟨fun z hz => ?_, h⟩
      rcases List.mem_cons.1 hz with rfl | hz
      · exact h1
      · exact lexLt_tr _ _ _ h1 ((List.pairwise_cons.1 h).1 z hz)
theorem sortT_sorted : ∀ l, SrtL (sortT l)
  | [] => List.Pairwise.nil
  | x :: r => insT_sorted x _ (sortT_sorted r)
theorem sortedL_uniq : ∀ {l m : List (List Int)}, SrtL l → SrtL m → l.Perm m → l = m
  | [], m, _, _, h => (List.Perm.eq_nil h.symm).symm
  | x :: l, [], _, _, h => absurd h.length_eq (by simp)
  | x :: l, y :: m, hl, hm, h => by
    have e : x = y := by
      refine lexLt_eq _ _ ?_ ?_
      · rcases List.mem_cons.1 (h.mem_iff.1 (List.mem_cons_self (a := x) (l := l))) with e | hx
        · rw [e]; exact lexLt_refl _
        · exact (List.pairwise_cons.1 hm).1 x hx
      · rcases List.mem_cons.1 (h.mem_iff.2 (List.mem_cons_self (a := y) (l := m))) with e | hy
        · rw [e]; exact lexLt_refl _
        · exact (List.pairwise_cons.1 hl).1 y hy
    subst e
    rw [sortedL_uniq (List.pairwise_cons.1 hl).2 (List.pairwise_cons.1 hm).2 h.cons_inv]
section
variable {prog : Program} {w : World} {A : Around} {E : Value → Shared → Prop} {s : Shared} {Q : Bool → Shared → Prop}
theorem lex_walk {b : Bool} {xs ys : List Value} {ns ms : List Int} {fin : Bool} (i : Nat) (hx : IntsAre xs ns) (hy : IntsAre ys ms) (hf : fin = decide (ns.length < ms.length))
    (h : Q (HT.lexLt ns ms) s) : PySem.W.KatLex prog w A b fin Q (xs.zip ys) i s := by
  induction hx generalizing ys ms i with
  | nil =>
    cases hy with
    | nil => rw [hf]; exact PySem.W.kat_nil h
    | cons q u hy => rw [hf]; exact PySem.W.kat_nil h
  | @cons p t xs ns hx ih =>
    cases hy with
    | nil => rw [hf]; exact PySem.W.kat_nil h
    | @cons q u ys ms hy =>
      have hf' : fin = decide (ns.length < ms.length) := by
        rw [hf]; simp
      show PySem.W.KatLex prog w A b fin Q ((Value.int p t, Value.int q u) :: xs.zip ys) i s
      refine PySem.W.kat_cons (wpAny_eqBool_int ?_)
      rw [HT.lexLt_cons] at h
      by_cases e : p = q
      · subst e
        rw [beq_self_eq_true]
        rw [if_pos rfl] at h
        refine PySem.W.kat_yes ?_
        first
          | exact ih (i + 1) hy hf' h
          | exact ih _ _ (i + 1) hy hf' h
      · rw [show (p == q) = false from beq_eq_false_iff_ne.mpr e]
        rw [if_neg e] at h
        exact PySem.W.kat_no (TS.oneLt_ints _ h)
end
open TS (TupInts)
open Srt
section
variable {prog : Program} {w : World} {A : Around} {E : Value → Shared → Prop} {s : Shared}
theorem tups_cmp {vs : List Value} {k : Value → List Int} (hp : ∀ v ∈ vs, TupInts s.heap v (k v)) : SrtO.Cmp prog w A s (tuples' true) (fun p => p.1 ∈ vs) (SrtO.lt2 fun v u => HT.lexLt (k v) (k u)) := by
  intro p q hm hm'
  have h1 := hp _ hm
  have h2 := hp _ hm'
  show wpAny (model prog w) A (keyLt' (tuples' true) p.1 q.1) (fun r s' => s' = s ∧ r = HT.lexLt (k p.1) (k q.1)) (fun _ _ => False) s
  generalize k p.1 = ns at h1 ⊢
  generalize k q.1 = ms at h2 ⊢
  obtain ⟨a, xs, e1, ⟨o, ho, hc, n, hdt⟩, i⟩ := h1
  obtain ⟨a', ys, e2, ⟨o', ho', hc', n', hdt'⟩, i'⟩ := h2
  rw [e1, e2]
  refine PySem.W.kat_lt ho hdt ho' hdt' ?_
  have l1 := i.length
  have l2 := i'.length
  rw [Array.length_toList] at l1 l2
  exact lex_walk 0 i i' (by rw [l1, l2]) ⟨rfl, rfl⟩
theorem firsts_t {h : Heap} : ∀ {vs : List Value}, (∀ v ∈ vs, ∃ ns, ns ≠ [] ∧ TupInts h v ns) → ∃ fs, PySem.W.KatTups h vs fs ∧ fs.length = vs.length ∧ ∀ f, f ∈ fs → ∃ n t, f = Value.int n t
  | [], _ => ⟨[], PySem.W.KatTups.nil, rfl, fun f hf => by simp at hf⟩
  | v :: vs, x => by
    obtain ⟨fs, k, hl, hi⟩ := firsts_t (vs := vs) fun u hu => x u (List.mem_cons_of_mem _ hu)
    obtain ⟨ns, hn, ⟨a, xs, rfl, ⟨o, ho, hc, n, hdt⟩, i⟩⟩ := x v List.mem_cons_self
    obtain ⟨y, ys, e⟩ : ∃ y ys, xs.toList = y :: ys := by
      cases q : xs.toList with
      | nil =>
        rw [q] at i
        have l := i.length
        rw [List.length_nil] at l
        exact absurd (List.length_eq_zero_iff.1 l.symm) hn
      | cons y ys => exact ⟨y, ys, rfl⟩
    obtain ⟨m, t, hy⟩ := i.all y (by rw [e]; exact List.mem_cons_self ..)
    refine ⟨y :: fs, PySem.W.KatTups.cons ho hc hdt ?_ k, by simp [hl], ?_⟩
    · have z := congrArg (fun l : List Value => l[0]?) e
      simpa using z
    · intro f hf
      rcases List.mem_cons.mp hf with rfl | hf
      · exact ⟨m, t, hy⟩
      · exact hi f hf
theorem tups_sortable {a : Addr} {vs : List Value} {k : Value → List Int} (h0 : 0 < vs.length) (hp : ∀ v ∈ vs, TupInts s.heap v (k v)) (hk : ∀ v ∈ vs, k v ≠ []) (ha : ∀ o, s.heap.get? a = some o → o.cls ≠ .type "tuple") : SrtO.SortableO prog w A s a vs fun v u => HT.lexLt (k v) (k u) := by
  intro h' keep
  have hp' : ∀ v ∈ vs, TupInts h' v (k v) := fun v hm => (hp v hm).keeps fun b o e c => keep b o (fun z => by subst z; exact ha o e c) e
  obtain ⟨fs, h1, h2, h3⟩ := firsts_t fun v hm => ⟨_, hk v hm, hp' v hm⟩
  refine ⟨tuples' true, fun Q E hq => ?_, tups_cmp hp'⟩
  refine PySem.W.kat_kind (T := .type "int") h1 (by omega) (fun f hm => ?_) (by rfl) ?_
  · obtain ⟨x, t, rfl⟩ := h3 f hm
    exact PySem.W.Looks.now
  · have e : (Value.type "int" != Value.type "tuple") = true := by first | decide +kernel | rfl | decide
    rw [e]
    exact hq
theorem sorted_tups {l : Addr} {vs : List Value} {k : Value → List Int} {Q : Value → Shared → Prop} (hl : s.heap.IsList l vs.toArray) (hz : vs.length ≤ sizeLine) (hp : ∀ v ∈ vs, TupInts s.heap v (k v)) (hk : ∀ v ∈ vs, k v ≠ [])
    (h : ∀ (h' : Heap) (d : Addr) (out : List Value), SrtO.Srtd (fun v u => HT.lexLt (k v) (k u)) out → SrtO.Stb (fun v u => HT.lexLt (k v) (k u)) out vs → (∀ b o, s.heap.get? b = some o → h'.get? b = some o) → s.heap.objs.size ≤ d → (∃ n, h'.get? d = some (seqObj "list" out.toArray n)) → Q (.ref d) { s with heap := h' }) :
    wpAny (model prog w) A (call (.builtin "sorted") [.ref l]) Q E s := by
  refine SrtO.sorted_ord (swo_lexL k) hl hz (fun h2 h₁ a ha kk => ?_) fun out hs hb => ?_
  · refine tups_sortable (s := { s with heap := h₁ }) (by omega) (fun v hm => (hp v hm).keeps fun b o e _ => (kk b o e).2) hk fun o e => ?_
    have e' : some o = some (seqObj "list" vs.toArray 0) := e.symm.trans ha
    cases e'
    intro c
    exact absurd (Value.type.inj c) (by decide)
  · exact h _ _ out hs hb (fun b o e => sortedAll_old e) (Nat.le_succ _) (sortedAll_at s.heap vs out.toArray)
end
section
variable {X : Cx}
open Classical in
/-- the numbers of a row -/
noncomputable def rowOfV (K : PySem.W.Frag) (H : Hp) (v : V) : List Int := if h : ∃ ns : List Int, ∃ t, v = .ref t ∧ SqT K H t (ns.map V.int) then choose h else []
theorem ints_inj : ∀ {a b : List Int}, a.map V.int = b.map V.int → a = b
  | [], [], _ => rfl
  | [], _ :: _, h => by cases h
  | _ :: _, [], h => by cases h
  | x :: a, y :: b, h => by
    rw [List.map_cons, List.map_cons] at h
    cases List.cons.inj h with
    | intro h1 h2 => cases h1; rw [ints_inj h2]
theorem map_fst_of {α β : Type} {f : α → β} : ∀ {ps : List (α × β)}, (∀ p ∈ ps, f p.1 = p.2) → (ps.map (·.1)).map (fun x => (x, f x)) = ps
  | [], _ => rfl
  | p :: ps, h => by
    rw [List.map_cons, List.map_cons, map_fst_of fun q hq => h q (List.mem_cons_of_mem _ hq), h p List.mem_cons_self]
/-- sorted(xs), xs a list of rows of whole numbers, none of them empty -/
def rSortedTs (K : PySem.W.Frag) : List V → Hp → VK → Prop := fun vs H Q => ∃ (a : Addr) (ps : List (V × List Int)), vs = [V.ref a] ∧ SqL K H a (ps.map (·.1)) ∧ (∀ p ∈ ps, ∃ t, p.1 = V.ref t ∧ SqT K H t (p.2.map V.int) ∧ p.2 ≠ []) ∧
  ∀ (qs : List (V × List Int)) (p : Addr), qs.Perm ps → qs.map (·.2) = sortT (ps.map (·.2)) → H p = none → Q (.ref p) (upd H p (.lst (qs.map (·.1))))
theorem cr_sortedTs : CallR X (.builtin "sorted") (rSortedTs X.K) := by
  intro pins s σ H vs us Q I r h
  obtain ⟨a, ps, rfl, hs, hx, q⟩ := h
  obtain ⟨its, rv, hl, hz⟩ := I.list hs
  obtain ⟨u, rfl, ru⟩ := vals1 r
  obtain rfl : u = Value.ref a := ru
  obtain ⟨e1, e2⟩ := refs_back rv fun x m => by
    obtain ⟨p, hp, rfl⟩ := List.mem_map.1 m
    obtain ⟨t, e, _⟩ := hx p hp
    exact ⟨t, e⟩
  have hk : ∀ p ∈ ps, rowOfV X.K H p.1 = p.2 := fun p hp => by
    obtain ⟨t, e, hq, _⟩ := hx p hp
    have ex : ∃ ns : List Int, ∃ t, p.1 = .ref t ∧ SqT X.K H t (ns.map V.int) := ⟨p.2, t, e, hq⟩
    unfold rowOfV
    rw [dif_pos ex]
    obtain ⟨t', e', hq'⟩ := Classical.choose_spec ex
    rw [e] at e'
    cases e'
    exact ints_inj (I.tuple_inj hq' hq)
  refine sorted_tups (k := fun u => rowOfV X.K H (backV u)) hl.isList (by rw [← rv.length]; exact hz) (fun v hv => ?_) (fun v hv => ?_) fun h' d out h1 h2 kp hd hn => ?_
  · obtain ⟨t, rfl⟩ := e2 v hv
    have hm : V.ref t ∈ ps.map (·.1) := by rw [e1]; exact List.mem_map.mpr ⟨_, hv, rfl⟩
    obtain ⟨p, hp, ep⟩ := List.mem_map.1 hm
    obtain ⟨t', e, hq, _⟩ := hx p hp
    rw [ep] at e
    cases e
    have z := hk p hp
    rw [ep] at z
    show TupInts s.heap (.ref t) (rowOfV X.K H (.ref t))
    rw [z]
    obtain ⟨its2, r2, ht, _⟩ := I.tuple hq
    obtain ⟨o, ho, hc, n, hd⟩ := id ht
    exact ⟨t, its2.toArray, rfl, ⟨o, ho, hc, n, hd⟩, by simpa using intsAre_of r2⟩
  · obtain ⟨t, rfl⟩ := e2 v hv
    have hm : V.ref t ∈ ps.map (·.1) := by rw [e1]; exact List.mem_map.mpr ⟨_, hv, rfl⟩
    obtain ⟨p, hp, ep⟩ := List.mem_map.1 hm
    obtain ⟨t', e, hq, hne⟩ := hx p hp
    have z := hk p hp
    rw [ep] at z
    show rowOfV X.K H (.ref t) ≠ []
    rw [z]; exact hne
  · have h3 : ∀ u ∈ out, ∃ a, u = Value.ref a := fun u hu => e2 u (h2.perm.mem_iff.mp hu)
    obtain ⟨n, hn⟩ := hn
    have hperm : ((out.map backV).map fun x => (x, rowOfV X.K H x)).Perm ps := by
      rw [← map_fst_of hk, e1]
      exact (h2.perm.map backV).map _
    have e4 : ((out.map backV).map fun x => (x, rowOfV X.K H x)).map (·.1) = out.map backV := by rw [List.map_map]; exact List.map_id' _
    have q := q ((out.map backV).map fun x => (x, rowOfV X.K H x)) d hperm (by
      refine sortedL_uniq ?_ (sortT_sorted _) ((hperm.map _).trans (sortT_perm _).symm)
      rw [List.map_map, List.map_map]
      refine List.pairwise_map.2 ?_
      exact h1) (I.hok.fresh hd)
    rw [e4] at q
    refine ⟨.ref d, upd H d (.lst (out.map backV)), I.laid (t' := s.toks) kp hd ⟨?_, out, n, vals_back h3, hn⟩, rfl, q⟩
    rw [List.length_map, h2.perm.length_eq]
    have := rv.length
    omega
end
/-! sorted(a tuple) -/
section
variable {prog : Program} {w : World} {A : Around} {E : Value → Shared → Prop} {s : Shared}
theorem collect_tup {l : Addr} {vs : List Value} {Q : List Value → Shared → Prop} (hl : IsTup s.heap l vs.toArray)
    (h : Q vs { s with heap := (s.heap.push (seqObj "list" #[] 0)).update s.heap.objs.size (Obj.mapSeq (· ++ vs.toArray)) }) (hsz : vs.length ≤ sizeLine) :
    wpAny (model prog w) A (collect (.ref l)) Q E s := by
  obtain ⟨o, ho, hc, n, hd⟩ := id hl
  unfold collect
  refine wpAny_bind (wpAny_runValue (codeAny_builtin entry_proto_collect' ?_))
  show wpAny _ _ (do again (.builtin "list.__iadd__" ⟨[← newList [], .ref l], []⟩)) _ _ s
  refine wpAny_bind (wpAny_newList (wpAny_pure ⟨Code.quiet_builtin _ (by decide +kernel), codeAny_builtin entry_list_iadd' ?_⟩))
  show wpAny _ _ (Builtin.List.listExtendWith (.ref s.heap.objs.size) (.ref l) (.ref s.heap.objs.size)) _ _ { s with heap := s.heap.push (seqObj "list" #[] 0) }
  unfold Builtin.List.listExtendWith
  have ho' : (s.heap.push (seqObj "list" #[] 0)).get? l = some o := Heap.get?_push_of_some _ ho
  refine wpAny_bind (wpAny_typeOf (T := "tuple") ⟨o, ho', hc⟩ ?_)
  have ht : (Value.type "tuple" == Value.type "tuple") = true := by rfl
  rw [if_pos (by rw [ht]; simp)]
  refine wpAny_bind (listItems_at ho' hd ?_)
  refine wpAny_bind (listItems_at (xs := #[]) (n := 0) (Heap.get?_push_size _ rfl) rfl ?_)
  rw [if_neg (by simp)]
  refine wpAny_bind (listUpdate_at (xs := #[]) (n := 0) (Heap.get?_push_size _ rfl) rfl ?_ (Nat.zero_le _) (by show (#[] ++ vs.toArray).size ≤ sizeLine + 1; simp only [Array.size_append, List.size_toArray, List.length_nil]; omega))
  refine wpAny_pure ?_
  show wpAny (model prog w) A (do
      let o ← load s.heap.objs.size
      match o.data with
      | .seq xs _ => pure xs.toList
      | _ => unsupported "internal:collect") Q E { s with heap := (s.heap.push (seqObj "list" #[] 0)).update s.heap.objs.size (Obj.mapSeq (· ++ vs.toArray)) }
  refine wpAny_bind (wpAny_load (get?_update_seq (Heap.get?_push_size _ rfl) _) ?_)
  show wpAny _ _ (pure ((#[] : Array Value) ++ vs.toArray).toList) Q E _
  rw [show ((#[] : Array Value) ++ vs.toArray).toList = vs by simp]
  exact wpAny_pure h
theorem sorted_ordT {l : Addr} {vs : List Value} {ltv : Value → Value → Bool} {Q : Value → Shared → Prop} (O : SrtO.Swo ltv) (hl : IsTup s.heap l vs.toArray) (hz : vs.length ≤ sizeLine)
    (hS : 2 ≤ vs.length → ∀ (h₁ : Heap) (a : Addr), h₁.get? a = some (seqObj "list" vs.toArray 0) → (∀ b o, s.heap.get? b = some o → b ≠ a ∧ h₁.get? b = some o) → SrtO.SortableO prog w A.in1.in1 { s with heap := h₁ } a vs ltv)
    (h : ∀ out : List Value, SrtO.Srtd ltv out → SrtO.Stb ltv out vs → Q (.ref (s.heap.objs.size + 1)) { s with heap := sortedAll s.heap vs out.toArray }) :
    wpAny (model prog w) A (call (.builtin "sorted") [.ref l]) Q E s := by
  refine Calls.call_function_entry kind_sorted plain_sorted entry_sorted (args_sorted1 _) ?_
  unfold Builtin.«sorted»
  refine wpAny_bind (m := checkCount "sorted" 1 1 _) (wpAny_pure ?_)
  refine wpAny_bind (collect_tup hl ?_ hz)
  refine wpAny_bind (wpAny_newList ?_ hz)
  have hsz : ((s.heap.push (seqObj "list" #[] 0)).update s.heap.objs.size (Obj.mapSeq (· ++ vs.toArray))).objs.size = s.heap.objs.size + 1 := by
    rw [Heap.size_update, size_push']
  have hoL : (((s.heap.push (seqObj "list" #[] 0)).update s.heap.objs.size (Obj.mapSeq (· ++ vs.toArray))).push (seqObj "list" vs.toArray 0)).get? (s.heap.objs.size + 1) = some (seqObj "list" vs.toArray 0) := by
    rw [← hsz]; exact Heap.get?_push_size _ rfl
  have keep : ∀ b o, s.heap.get? b = some o → b ≠ s.heap.objs.size + 1 ∧ (((s.heap.push (seqObj "list" #[] 0)).update s.heap.objs.size (Obj.mapSeq (· ++ vs.toArray))).push (seqObj "list" vs.toArray 0)).get? b = some o := fun b o q => by
    have hlt : b < s.heap.objs.size := Heap.lt_size q
    refine ⟨Nat.ne_of_lt (Nat.lt_succ_of_lt hlt), Heap.get?_push_of_some _ ?_⟩
    rw [Heap.get?_update_ne _ _ _ _ (Nat.ne_of_lt hlt)]
    exact Heap.get?_push_of_some _ q
  show wpAny _ _ _ _ _ { s with heap := ((s.heap.push (seqObj "list" #[] 0)).update s.heap.objs.size (Obj.mapSeq (· ++ vs.toArray))).push (seqObj "list" vs.toArray 0) }
  rw [hsz]
  refine wpAny_bind (wpAny_holding (wpAny_call_entry slot_list_sort ⟨_, hoL, rfl⟩ entry_list_sort (SrtO.list_sort_ord O hoL hz (fun h2 => hS h2 _ _ hoL keep) fun out hs hb => ⟨_, rfl, ?_⟩) (args_list_sort _)))
  exact wpAny_pure ⟨_, rfl, h out hs hb⟩
end
section
variable {X : Cx}
/-- sorted(t), t a tuple of whole numbers -/
def rSortedIT (K : PySem.W.Frag) : List V → Hp → VK → Prop := fun vs H Q => ∃ (a : Addr) (ns : List Int), vs = [V.ref a] ∧ SqT K H a (ns.map V.int) ∧
  ∀ (ns' : List Int) (p : Addr), ns'.Perm ns → ns'.Pairwise (· ≤ ·) → H p = none → Q (.ref p) (upd H p (.lst (ns'.map V.int)))
theorem cr_sortedIT : CallR X (.builtin "sorted") (rSortedIT X.K) := by
  intro pins s σ H vs us Q I r h
  obtain ⟨a, ns, rfl, hs, q⟩ := h
  obtain ⟨its, rv, hl, hz⟩ := I.tuple hs
  rw [Vals.ref1 r]
  have hi := rv.ints
  refine sorted_ordT SrtO.swo_int hl (by rw [← rv.length]; exact hz) (fun h2 h₁ a' _ _ => SrtO.ints_sortable hi h2) fun out h1 h2 => ?_
  obtain ⟨k1, k2, k3⟩ := SrtO.ints_out hi h1 h2
  obtain ⟨ep, he'⟩ := PyProof.Rows.sortedAll_at s.heap its out.toArray
  have hlen : ((out.map SrtO.iv).map V.int).length ≤ sizeLine := by
    rw [List.length_map, k2.length_eq]
    rw [List.length_map] at hz
    exact hz
  exact ⟨.ref _, upd H (s.heap.objs.size + 1) (.lst ((out.map SrtO.iv).map V.int)), I.laid (t' := s.toks) (fun _ _ => PyProof.Rows.sortedAll_old) (Nat.le_succ _) ⟨hlen, out, ep, vals_of_ints k1, he'⟩, rfl, q _ _ k2 k3 (I.hok.fresh (Nat.le_succ _))⟩
end
/-! sorted(rows that begin with whole numbers, no two alike) -/
section
variable {prog : Program} {w : World} {A : Around} {E : Value → Shared → Prop} {s : Shared} {Q : Bool → Shared → Prop}
theorem eqBool_same {v : Value} (h : Q true s) : wpAny (model prog w) A (eqBool v v) Q E s := by
  unfold eqBool
  refine wpAny_holding ?_
  rw [if_pos (by simp)]
  exact wpAny_bind (wpAny_rule (wpAny_pure h))
theorem lex_self {b : Bool} {xs : List Value} (i : Nat) (h : Q false s) : PySem.W.KatLex prog w A b false Q (xs.zip xs) i s := by
  induction xs generalizing i with
  | nil => exact PySem.W.kat_nil h
  | cons v xs ih =>
    show PySem.W.KatLex prog w A b false Q ((v, v) :: xs.zip xs) i s
    exact PySem.W.kat_cons (eqBool_same (PySem.W.kat_yes (ih (i + 1))))
end
/-- a tuple whose first item is k -/
def HeadI (h : Heap) (v : Value) (k : Int) : Prop := ∃ a o xs n t rest, v = .ref a ∧ h.get? a = some o ∧ o.cls = .type "tuple" ∧ o.data = .seq xs n ∧ xs.toList = .int k t :: rest
theorem HeadI.keeps {h h' : Heap} {v : Value} {k : Int} (p : HeadI h v k) (kk : ∀ b o, h.get? b = some o → o.cls = .type "tuple" → h'.get? b = some o) : HeadI h' v k := by
  obtain ⟨a, o, xs, n, t, rest, e, ho, hc, hd, hx⟩ := p
  exact ⟨a, o, xs, n, t, rest, e, kk _ _ ho hc, hc, hd, hx⟩
theorem swo_key {α : Type} (k : α → Int) : SrtO.Swo fun v u => decide (k v < k u) :=
  ⟨fun x y h => by simp only [decide_eq_true_eq] at h; simp only [decide_eq_false_iff_not]; omega, fun x y z h1 h2 => by simp only [decide_eq_false_iff_not] at *; omega⟩
section
variable {prog : Program} {w : World} {A : Around} {E : Value → Shared → Prop} {s : Shared}
theorem heads_cmp {vs : List Value} {k : Value → Int} (hp : ∀ v ∈ vs, HeadI s.heap v (k v)) (hd : ∀ u ∈ vs, ∀ v ∈ vs, k u = k v → u = v) : SrtO.Cmp prog w A s (tuples' true) (fun p => p.1 ∈ vs) (SrtO.lt2 fun v u => decide (k v < k u)) := by
  intro p q hm hm'
  have h1 := hp _ hm
  have h2 := hp _ hm'
  have h3 := hd _ hm _ hm'
  show wpAny (model prog w) A (keyLt' (tuples' true) p.1 q.1) (fun r s' => s' = s ∧ r = decide (k p.1 < k q.1)) (fun _ _ => False) s
  by_cases e : k p.1 = k q.1
  · have e2 := h3 e
    rw [e2]
    obtain ⟨a, o, xs, n, t, rest, e1, ho, hc, hdt, hx⟩ := h2
    rw [e1]
    refine PySem.W.kat_lt ho hdt ho hdt ?_
    rw [show decide (xs.size < xs.size) = false from decide_eq_false (Nat.lt_irrefl _)]
    refine lex_self 0 ⟨rfl, ?_⟩
    exact (decide_eq_false (Int.lt_irrefl _)).symm
  · generalize k p.1 = x at h1 e ⊢
    generalize k q.1 = y at h2 e ⊢
    obtain ⟨a, o, xs, n, t, rest, e1, ho, hc, hdt, hx⟩ := h1
    obtain ⟨a', o', xs', n', t', rest', e1', ho', hc', hdt', hx'⟩ := h2
    rw [e1, e1']
    refine PySem.W.kat_lt ho hdt ho' hdt' ?_
    rw [hx, hx']
    show PySem.W.KatLex prog w A true _ _ ((Value.int x t, Value.int y t') :: rest.zip rest') 0 s
    refine PySem.W.kat_cons (wpAny_eqBool_int ?_)
    rw [show (x == y) = false from beq_eq_false_iff_ne.mpr e]
    exact PySem.W.kat_no (TS.oneLt_ints _ ⟨rfl, rfl⟩)
theorem firsts_h {h : Heap} {k : Value → Int} : ∀ {vs : List Value}, (∀ v ∈ vs, HeadI h v (k v)) → ∃ fs, PySem.W.KatTups h vs fs ∧ fs.length = vs.length ∧ ∀ f, f ∈ fs → ∃ n t, f = Value.int n t
  | [], _ => ⟨[], PySem.W.KatTups.nil, rfl, fun f hf => by simp at hf⟩
  | v :: vs, x => by
    obtain ⟨fs, kt, hl, hi⟩ := firsts_h (vs := vs) fun u hu => x u (List.mem_cons_of_mem _ hu)
    obtain ⟨a, o, xs, n, t, rest, rfl, ho, hc, hdt, hx⟩ := x v List.mem_cons_self
    refine ⟨.int (k (.ref a)) t :: fs, PySem.W.KatTups.cons ho hc hdt ?_ kt, by simp [hl], ?_⟩
    · have z := congrArg (fun l : List Value => l[0]?) hx
      simpa using z
    · intro f hf
      rcases List.mem_cons.mp hf with rfl | hf
      · exact ⟨_, t, rfl⟩
      · exact hi f hf
theorem heads_sortable {a : Addr} {vs : List Value} {k : Value → Int} (h0 : 0 < vs.length) (hp : ∀ v ∈ vs, HeadI s.heap v (k v)) (hd : ∀ u ∈ vs, ∀ v ∈ vs, k u = k v → u = v) (ha : ∀ o, s.heap.get? a = some o → o.cls ≠ .type "tuple") : SrtO.SortableO prog w A s a vs fun v u => decide (k v < k u) := by
  intro h' keep
  have hp' : ∀ v ∈ vs, HeadI h' v (k v) := fun v hm => (hp v hm).keeps fun b o e c => keep b o (fun z => by subst z; exact ha o e c) e
  obtain ⟨fs, h1, h2, h3⟩ := firsts_h hp'
  refine ⟨tuples' true, fun Q E hq => ?_, heads_cmp hp' hd⟩
  refine PySem.W.kat_kind (T := .type "int") h1 (by omega) (fun f hm => ?_) (by rfl) ?_
  · obtain ⟨x, t, rfl⟩ := h3 f hm
    exact PySem.W.Looks.now
  · have e : (Value.type "int" != Value.type "tuple") = true := by first | decide +kernel | rfl | decide
    rw [e]
    exact hq
theorem sorted_heads {l : Addr} {vs : List Value} {k : Value → Int} {Q : Value → Shared → Prop} (hl : s.heap.IsList l vs.toArray) (hz : vs.length ≤ sizeLine) (hp : ∀ v ∈ vs, HeadI s.heap v (k v)) (hd : ∀ u ∈ vs, ∀ v ∈ vs, k u = k v → u = v)
    (h : ∀ (h' : Heap) (d : Addr) (out : List Value), SrtO.Srtd (fun v u => decide (k v < k u)) out → SrtO.Stb (fun v u => decide (k v < k u)) out vs → (∀ b o, s.heap.get? b = some o → h'.get? b = some o) → s.heap.objs.size ≤ d → (∃ n, h'.get? d = some (seqObj "list" out.toArray n)) → Q (.ref d) { s with heap := h' }) :
    wpAny (model prog w) A (call (.builtin "sorted") [.ref l]) Q E s := by
  refine SrtO.sorted_ord (swo_key k) hl hz (fun h2 h₁ a ha kk => ?_) fun out hs hb => ?_
  · refine heads_sortable (s := { s with heap := h₁ }) (by omega) (fun v hm => (hp v hm).keeps fun b o e _ => (kk b o e).2) hd fun o e => ?_
    have e' : some o = some (seqObj "list" vs.toArray 0) := e.symm.trans ha
    cases e'
    intro c
    exact absurd (Value.type.inj c) (by decide)
  · exact h _ _ out hs hb (fun b o e => sortedAll_old e) (Nat.le_succ _) (sortedAll_at s.heap vs out.toArray)
end
section
variable {X : Cx}
open Classical in
/-- the number that a row begins with -/
noncomputable def headOfV (K : PySem.W.Frag) (H : Hp) (v : V) : Int := if h : ∃ k : Int, ∃ t ws, v = .ref t ∧ SqT K H t (.int k :: ws) then choose h else 0
/-- sorted(xs), xs a list of tuples that begin with whole numbers, no two of them alike -/
def rSortedKs (K : PySem.W.Frag) : List V → Hp → VK → Prop := fun vs H Q => ∃ (a : Addr) (ps : List (V × Int)), vs = [V.ref a] ∧ SqL K H a (ps.map (·.1)) ∧ (∀ p ∈ ps, ∃ t ws, p.1 = V.ref t ∧ SqT K H t (.int p.2 :: ws)) ∧ (ps.map (·.2)).Nodup ∧
  ∀ (qs : List (V × Int)) (p : Addr), qs.Perm ps → (qs.map (·.2)).Pairwise (· ≤ ·) → H p = none → Q (.ref p) (upd H p (.lst (qs.map (·.1))))
theorem nodup_snd {α β : Type} : ∀ {ps : List (α × β)}, (ps.map (·.2)).Nodup → ∀ p ∈ ps, ∀ q ∈ ps, p.2 = q.2 → p = q
  | [], _, p, hp, _, _, _ => nomatch hp
  | x :: ps, h, p, hp, q, hq, e => by
    rw [List.map_cons, List.nodup_cons] at h
    rcases List.mem_cons.1 hp with e1 | hp'
    · rcases List.mem_cons.1 hq with e2 | hq'
      · rw [e1, e2]
      · rw [e1] at e
        exact (h.1 (List.mem_map.2 ⟨q, hq', e.symm⟩)).elim
    · rcases List.mem_cons.1 hq with e2 | hq'
      · rw [e2] at e
        exact (h.1 (List.mem_map.2 ⟨p, hp', e⟩)).elim
      · exact nodup_snd h.2 p hp' q hq' e
theorem cr_sortedKs : CallR X (.builtin "sorted") (rSortedKs X.K) := by
  intro pins s σ H vs us Q I r h
  obtain ⟨a, ps, rfl, hs, hx, nd, q⟩ := h
  obtain ⟨its, rv, hl, hz⟩ := I.list hs
  obtain ⟨u, rfl, ru⟩ := vals1 r
  obtain rfl : u = Value.ref a := ru
  obtain ⟨e1, e2⟩ := refs_back rv fun x m => by
    obtain ⟨p, hp, rfl⟩ := List.mem_map.1 m
    obtain ⟨t, _, e, _⟩ := hx p hp
    exact ⟨t, e⟩
  have hk : ∀ p ∈ ps, headOfV X.K H p.1 = p.2 := fun p hp => by
    obtain ⟨t, ws, e, hq⟩ := hx p hp
    have ex : ∃ k : Int, ∃ t ws, p.1 = .ref t ∧ SqT X.K H t (.int k :: ws) := ⟨p.2, t, ws, e, hq⟩
    unfold headOfV
    rw [dif_pos ex]
    obtain ⟨t', ws', e', hq'⟩ := Classical.choose_spec ex
    rw [e] at e'
    cases e'
    have z := (List.cons.inj (I.tuple_inj hq' hq)).1
    injection z
  have back : ∀ v ∈ its, ∃ t p, v = Value.ref t ∧ p ∈ ps ∧ p.1 = V.ref t := fun v hv => by
    obtain ⟨t, rfl⟩ := e2 v hv
    have hm : V.ref t ∈ ps.map (·.1) := by rw [e1]; exact List.mem_map.mpr ⟨_, hv, rfl⟩
    obtain ⟨p, hp, ep⟩ := List.mem_map.1 hm
    exact ⟨t, p, rfl, hp, ep⟩
  refine sorted_heads (k := fun u => headOfV X.K H (backV u)) hl.isList (by rw [← rv.length]; exact hz) (fun v hv => ?_) (fun u hu v hv he => ?_) fun h' d out h1 h2 kp hd hn => ?_
  · obtain ⟨t, p, rfl, hp, ep⟩ := back v hv
    obtain ⟨t', ws, e, hq⟩ := hx p hp
    rw [ep] at e
    cases e
    have z := hk p hp
    rw [ep] at z
    show HeadI s.heap (.ref t) (headOfV X.K H (.ref t))
    rw [z]
    obtain ⟨its2, r2, ht, _⟩ := I.tuple hq
    obtain ⟨o, ho, hc, n, hd⟩ := id ht
    obtain ⟨u1, us1, rfl, tk, rfl⟩ : ∃ u1 us1, its2 = u1 :: us1 ∧ ∃ tk, u1 = Value.int p.2 tk := by
      cases r2 with
      | cons r3 r4 => obtain ⟨tk, e⟩ := r3; exact ⟨_, _, rfl, tk, e⟩
    exact ⟨t, o, _, n, tk, us1, rfl, ho, hc, hd, by simp⟩
  · obtain ⟨t, p, rfl, hp, ep⟩ := back u hu
    obtain ⟨t', p', rfl, hp', ep'⟩ := back v hv
    have z := hk p hp
    have z' := hk p' hp'
    rw [ep] at z
    rw [ep'] at z'
    have he : headOfV X.K H (.ref t) = headOfV X.K H (.ref t') := he
    rw [z, z'] at he
    have := nodup_snd nd p hp p' hp' he
    subst this
    rw [ep] at ep'
    cases ep'
    rfl
  · have h3 : ∀ u ∈ out, ∃ a, u = Value.ref a := fun u hu => e2 u (h2.perm.mem_iff.mp hu)
    obtain ⟨n, hn⟩ := hn
    have hperm : ((out.map backV).map fun x => (x, headOfV X.K H x)).Perm ps := by
      rw [← map_fst_of hk, e1]
      exact (h2.perm.map backV).map _
    have e4 : ((out.map backV).map fun x => (x, headOfV X.K H x)).map (·.1) = out.map backV := by rw [List.map_map]; exact List.map_id' _
    have q := q ((out.map backV).map fun x => (x, headOfV X.K H x)) d hperm (by
      rw [List.map_map, List.map_map]
      refine List.pairwise_map.2 ?_
      refine List.Pairwise.imp ?_ h1
      intro x y hxy
      have hxy : decide (headOfV X.K H (backV y) < headOfV X.K H (backV x)) = false := hxy
      simp only [decide_eq_false_iff_not] at hxy
      show headOfV X.K H (backV x) ≤ headOfV X.K H (backV y)
      omega) (I.hok.fresh hd)
    rw [e4] at q
    refine ⟨.ref d, upd H d (.lst (out.map backV)), I.laid (t' := s.toks) kp hd ⟨?_, out, n, vals_back h3, hn⟩, rfl, q⟩
    rw [List.length_map, h2.perm.length_eq]
    have := rv.length
    omega
end
end Dw

/-! sorted(d), the dict's keys rows of whole numbers. -/
namespace Dw
open PySem PySem.Spec PyProof.Rows L2
open TS (TupInts)
open Srt
section
variable {X : Cx}
/-- sorted(d), d a dict whose keys are rows of whole numbers, none of them empty -/
def rSortedDT : List V → Hp → VK → Prop := fun vs H Q => ∃ (d : Addr) (kvs : List (List Key × V)) (nss : List (List Int)), vs = [V.ref d] ∧ Rd H d (.dT kvs) ∧ kvs.map (·.1) = nss.map (List.map Sum.inl) ∧ (∀ ns ∈ nss, ns ≠ []) ∧
  ∀ (qs : List (V × List Int)) (p : Addr), (∀ q ∈ qs, ∃ t, q.1 = V.ref t ∧ H t = some (.tup (q.2.map V.int))) → qs.map (·.2) = sortT nss → H p = none → Q (.ref p) (upd H p (.lst (qs.map (·.1))))
theorem keys_rows {H : Hp} : ∀ {kvs : List (List Key × V)} {xs : List (List Key × Addr × Value)} {nss : List (List Int)}, KT H kvs xs → kvs.map (·.1) = nss.map (List.map Sum.inl) →
    xs.length = nss.length ∧ ∀ p ∈ (xs.map fun x => x.2.1).zip nss, H p.1 = some (.tup (p.2.map V.int))
  | [], _, nss, .nil, h => by
    cases nss with
    | nil => exact ⟨rfl, fun p hp => by cases hp⟩
    | cons _ _ => cases h
  | kv :: kvs, _, nss, .cons (b := x) hq t, h => by
    cases nss with
    | nil => cases h
    | cons ns nss =>
      rw [List.map_cons, List.map_cons] at h
      injection h with h1 h2
      obtain ⟨l, ih⟩ := keys_rows t h2
      refine ⟨congrArg Nat.succ l, fun p hp => ?_⟩
      rw [List.map_cons, List.zip_cons_cons] at hp
      rcases List.mem_cons.1 hp with rfl | hp
      · have z := hq.2.1
        rw [h1, List.map_map] at z
        exact z
      · exact ih p hp
theorem cr_sortedDT (hc : X.calm = true) : CallR X (.builtin "sorted") rSortedDT := by
  intro pins s σ H vs us Q I r h
  obtain ⟨d, kvs, nss, rfl, hd, hkn, hne, q⟩ := h
  obtain ⟨u, rfl, rx⟩ := vals1 r
  obtain rfl : u = Value.ref d := rx
  obtain ⟨z, hs, ks, pr, o, es, ep, ho, hx, hdt, he, hn⟩ := (show ObjOk X.prog X.w H s.heap d (.dT kvs) from hd.ok I.hok)
  have l1 : es.size = ks.length := size_of_entries he
  have l2 : kvs.length = ks.length := Paired.length pr
  obtain ⟨l3, hrow⟩ := keys_rows pr hkn
  refine Calls.call_function_entry kind_sorted plain_sorted entry_sorted (args_sorted1 _) ?_
  unfold Builtin.«sorted»
  refine wpAny_bind (m := checkCount "sorted" 1 1 _) (wpAny_pure ?_)
  refine wpAny_bind (PySem.W.kdu_collect (A := X.A.in1) (kdl_raw hs hx hdt) (I.ok.hd hc) ho (by omega) fun h' tk acc kp it => ?_)
  have ea : acc.toList = ks.map fun x => Value.ref x.2.1 := by
    have hl : acc.toList.length = ks.length := by rw [Array.length_toList, it.1]; exact l1
    apply List.ext_getElem?
    intro j
    rw [List.getElem?_map]
    cases hj : acc.toList[j]? with
    | none =>
      have h1 := List.getElem?_eq_none_iff.mp hj
      rw [List.getElem?_eq_none (by omega)]
      all_goals rfl
    | some v =>
      obtain ⟨en, hen, hv⟩ := it.2 j v (by rw [← Array.getElem?_toList]; exact hj)
      have qe := entry_at he j
      rw [hen] at qe
      cases hb : ks[j]? with
      | none =>
        rw [hb] at qe
        exact nomatch (show some en = none from qe)
      | some b =>
        rw [hb] at qe
        have e2 : en = entryOfKey (tupleKind (mixKind X.prog X.w)) b := Option.some.inj qe
        rw [hv, e2]
        all_goals rfl
  have eb : acc.toList = (ks.map fun x => x.2.1).map Value.ref := by rw [ea, List.map_map]; all_goals rfl
  clear ea
  generalize hbs : (ks.map fun x => x.2.1) = bs at eb hrow
  have lb : bs.length = nss.length := by rw [← hbs, List.length_map]; exact l3
  have I1 : Inv X pins σ H { s with heap := h', toks := tk } := I.kept kp
  -- what each of the collected says
  have hall : ∀ v ∈ acc.toList, ∃ t ns, v = Value.ref t ∧ H t = some (.tup (ns.map V.int)) ∧ ns ≠ [] := by
    intro v hv
    rw [eb] at hv
    obtain ⟨t, ht, rfl⟩ := List.mem_map.1 hv
    obtain ⟨j, hj, rfl⟩ := List.getElem_of_mem ht
    have hm : (bs[j], nss[j]'(by omega)) ∈ bs.zip nss := by
      have hz : j < (bs.zip nss).length := by rw [List.length_zip]; omega
      have := List.getElem_mem hz
      rwa [List.getElem_zip] at this
    exact ⟨_, _, rfl, hrow _ hm, hne _ (List.getElem_mem _)⟩
  have hk : ∀ t (ns : List Int), H t = some (.tup (ns.map V.int)) → rowOfV X.K H (.ref t) = ns := fun t ns e => by
    have ex : ∃ ms : List Int, ∃ t', V.ref t = .ref t' ∧ SqT X.K H t' (ms.map V.int) := ⟨ns, t, rfl, .inl (.inl e)⟩
    unfold rowOfV
    rw [dif_pos ex]
    obtain ⟨t', e', hq'⟩ := Classical.choose_spec ex
    cases e'
    exact ints_inj (I.tuple_inj hq' (.inl (.inl e)))
  have hlen : acc.toList.length ≤ sizeLine := by rw [eb, List.length_map]; rw [← hbs, List.length_map]; omega
  refine wpAny_bind (wpAny_newList ?_ hlen)
  have hoL : (h'.push (seqObj "list" acc.toList.toArray 0)).get? h'.objs.size = some (seqObj "list" acc.toList.toArray 0) := Heap.get?_push_size _ rfl
  show wpAny _ _ _ _ _ { s with heap := h'.push (seqObj "list" acc.toList.toArray 0), toks := tk }
  refine wpAny_bind (wpAny_holding (wpAny_call_entry slot_list_sort ⟨_, hoL, rfl⟩ entry_list_sort
    (SrtO.list_sort_ord (s := { s with heap := h'.push (seqObj "list" acc.toList.toArray 0), toks := tk }) (swo_lexL fun u => rowOfV X.K H (backV u)) hoL hlen (fun h2 => tups_sortable (by omega) (fun v hv => ?_) (fun v hv => ?_) fun o e => ?_) fun out g1 g2 => ⟨_, rfl, ?_⟩) (args_list_sort _)))
  · obtain ⟨t, ns, rfl, e, _⟩ := hall v hv
    show TupInts _ (.ref t) (rowOfV X.K H (.ref t))
    rw [hk t ns e]
    obtain ⟨its2, r2, ht, _⟩ := I1.tuple (show SqT X.K H t (ns.map V.int) from .inl (.inl e))
    obtain ⟨o, ho, hc, n, hd⟩ := id ht
    exact ⟨t, its2.toArray, rfl, ⟨o, Heap.get?_push_of_some _ ho, hc, n, hd⟩, by simpa using intsAre_of r2⟩
  · obtain ⟨t, ns, rfl, e, hn0⟩ := hall v hv
    show rowOfV X.K H (.ref t) ≠ []
    rw [hk t ns e]; exact hn0
  · have e' := e.symm.trans hoL
    cases e'
    intro c
    exact absurd (Value.type.inj c) (by decide)
  · obtain ⟨e', he'⟩ := sortedHeap_at (vs := acc.toList) (out := out.toArray) hoL
    have h3 : ∀ u ∈ out, ∃ t ns, u = Value.ref t ∧ H t = some (.tup (ns.map V.int)) ∧ ns ≠ [] := fun u hu => hall u (g2.perm.mem_iff.mp hu)
    have h4 : ∀ u ∈ out, ∃ a, u = Value.ref a := fun u hu => let ⟨t, _, e, _⟩ := h3 u hu; ⟨t, e⟩
    have hrows : (acc.toList.map backV).map (rowOfV X.K H) = nss := by
      rw [eb, List.map_map, List.map_map]
      apply List.ext_getElem
      · rw [List.length_map]; exact lb
      · intro j hj hj2
        rw [List.getElem_map]
        have hjb : j < bs.length := by omega
        have hm : (bs[j], nss[j]) ∈ bs.zip nss := by
          have hz : j < (bs.zip nss).length := by rw [List.length_zip]; omega
          have := List.getElem_mem hz
          rwa [List.getElem_zip] at this
        exact hk _ _ (hrow _ hm)
    refine wpAny_pure ⟨_, rfl, .ref h'.objs.size, upd H h'.objs.size (.lst (out.map backV)), I1.laid (t' := tk) (fun b u e => ?_) (Nat.le_refl _) ⟨?_, out, e', vals_back h4, by simpa using he'⟩, rfl, ?_⟩
    · have hb : b < h'.objs.size := Heap.lt_size e
      rw [sortedHeap_old (Nat.ne_of_lt hb) (by rw [size_push']; exact Nat.lt_succ_of_lt hb)]
      exact Heap.get?_push_of_some _ e
    · rw [List.length_map, g2.perm.length_eq]; exact hlen
    · have q := q ((out.map backV).map fun x => (x, rowOfV X.K H x)) h'.objs.size (fun p hp => by
        obtain ⟨x, hx, rfl⟩ := List.mem_map.1 hp
        obtain ⟨u, hu, rfl⟩ := List.mem_map.1 hx
        obtain ⟨t, ns, rfl, e, _⟩ := h3 u hu
        refine ⟨t, rfl, ?_⟩
        show H t = some (.tup ((rowOfV X.K H (.ref t)).map V.int))
        rw [hk t ns e]; exact e) (by
        refine sortedL_uniq ?_ (sortT_sorted _) (((((g2.perm.map backV).map (rowOfV X.K H)).trans (by rw [hrows])).trans (sortT_perm _).symm) |> fun z => by rw [List.map_map]; exact z)
        rw [List.map_map, List.map_map]
        refine List.pairwise_map.2 ?_
        exact g1) (I1.hok.fresh (Nat.le_refl _))
      rw [List.map_map] at q
      rw [show out.map backV = List.map ((fun x : V × List Int => x.1) ∘ fun x => (x, rowOfV X.K H x)) (out.map backV) from (List.map_id' _).symm]
      exact q
end
end Dw

/-! The operations by values: what they ask and give, by data. -/
namespace Dw
open PySem PySem.Spec PyProof.Rows L2
section
variable {g : G} {H H' Hs Hs' : Hp}
/-- a result: a list is new and not in view, all else is in view -/
def FRep (g : G) (H Hs' H' : Hp) (v : V) (d : D) : Prop := (Rep g Hs' v d ∧ ∀ ds, d ≠ .lst ds) ∨ ∃ p vs ds, v = .ref p ∧ d = .lst ds ∧ H p = none ∧ Hs' p = none ∧ H' p = some (.lst vs) ∧ Reps g Hs' vs ds
theorem FRep.b {v : V} {d : D} (f : FRep g H Hs' H' v d) : BRep g Hs' H' v d := by
  rcases f with ⟨f, _⟩ | ⟨p, vs, ds, h1, h2, _, _, h5, h6⟩
  · exact .inl f
  · exact .inr (.inl ⟨p, vs, ds, h1, h2, h5, h6⟩)
/-- a result comes in view -/
theorem FRep.seen {v : V} {d : D} (f : FRep g H Hs' H' v d) (e : Ext Hs H Hs' H') : ∃ Hs'', Ext Hs H Hs'' H' ∧ Rep g Hs'' v d := by
  rcases f with ⟨f, _⟩ | ⟨p, vs, ds, rfl, rfl, h3, h4, h5, h6⟩
  · exact ⟨Hs', e, f⟩
  · refine ⟨_, e.show_ h5 h3 h4, .lst (.inl (.inl upd_same)) (h6.mono (same_upd h4))⟩
/-- what is wanted of a result -/
def PR (g : G) (Hs H : Hp) (d : D) (Q : VK) : Prop := ∀ v Hs' H', Ext Hs H Hs' H' → FRep g H Hs' H' v d → Q v H'
def PV (g : G) (Hs H : Hp) (d : D) (Q : VK) : Prop := ∀ v Hs' H', Ext Hs H Hs' H' → Rep g Hs' v d → Q v H'
def PO' (g : G) (Hs H : Hp) (d : D) (Q : VK) : Prop := ∀ v Hs' H', Ext Hs H Hs' H' → BRep g Hs' H' v d → Q v H'
theorem PR.here {v : V} {d : D} {Q : VK} (q : PR g Hs H d Q) (e : Same Hs H) (r : Rep g Hs v d) (n : ∀ ds, d ≠ .lst ds) : Q v H := q v Hs H (Ext.refl e) (.inl ⟨r, n⟩)
theorem PR.list {vs : List V} {ds : List D} {Q : VK} (q : PR g Hs H (.lst ds) Q) (e : Same Hs H) (r : Reps g Hs vs ds) : ∀ p, H p = none → Q (.ref p) (upd H p (.lst vs)) := fun p n =>
  q _ Hs _ (Ext.newOut e n) (.inr ⟨p, vs, ds, rfl, rfl, n, e.free n, upd_same, r⟩)
theorem PR.tuple {vs : List V} {ds : List D} {Q : VK} (q : PR g Hs H (.tup ds) Q) (e : Same Hs H) (r : Reps g Hs vs ds) : ∀ p, H p = none → Q (.ref p) (upd H p (.tup vs)) := fun p n =>
  q _ _ _ (Ext.new e n) (.inl ⟨.tup upd_same (r.mono (same_upd (e.free n))), fun _ z => nomatch z⟩)

/-- a two-place operation by data -/
def rD2 (g : G) (f : D → D → M D) : R2 := fun x y H Q => ∃ Hs a b, Same Hs H ∧ BRep g Hs H x a ∧ BRep g Hs H y b ∧ holds (f a b) (fun d => PR g Hs H d Q) fun _ => True

theorem mulB_log {i : Int} (h : i.natAbs < mulB) : i.natAbs.log2 < 2000 := PySem.Flt.log2_lt_of (by decide) h
theorem mulB_bits {i : Int} (h : i.natAbs < mulB) : Builtin.Int.intBits i ≤ 2000 := PyProof.Rows.intBits_le h
theorem mul_ok {i j : Int} (h : mulOk i j = true) : IntMulOk i j := by
  unfold mulOk at h
  simp only [Bool.or_eq_true, Bool.and_eq_true, decide_eq_true_eq] at h
  rcases h with ((⟨h1, h2⟩ | h) | h) | ⟨h1, h2⟩
  · exact CMulX.ok (mulx_ok (a := 2000) (b := 2000) h1 h2 (by decide))
  · exact CMul.ok (.inl (by omega))
  · exact CMul.ok (.inr (by omega))
  · exact CMulX.ok (mulx_ok (a := 1100000) (b := 1100000) h1 h2 (by decide))
end
section
variable {X : Cx} {g : G}
/-- two lists, whatever they are -/
theorem op_catQ : OpR X (binaryOp .Add) (fun x y H Q => ∃ l b xs zs, x = .ref l ∧ y = .ref b ∧ SqL X.K H l xs ∧ SqL X.K H b zs ∧ xs.length + zs.length ≤ sizeLine ∧ ∀ p, H p = none → Q (.ref p) (upd H p (.lst (xs ++ zs)))) := by
  intro pins s σ H x y v u Q I rx ry h
  obtain ⟨l, b, xs, zs, rfl, rfl, hH, hB, hz, q⟩ := h
  cases rx
  cases ry
  obtain ⟨its, r, hl, _⟩ := I.list hH
  obtain ⟨its2, r2, hl2, _⟩ := I.list hB
  obtain ⟨⟨cls, dd, data, sl⟩, ho, hc, n, hd⟩ := id hl.isList
  obtain ⟨⟨cls2, dd2, data2, sl2⟩, ho2, hc2, n2, hd2⟩ := id hl2.isList
  simp only at hc hd hc2 hd2
  subst hc hd hc2 hd2
  have e : its.toArray ++ its2.toArray = (its ++ its2).toArray := by simp
  have z1 := r.length
  have z2 := r2.length
  refine concat_meets ⟨_, ho, rfl⟩ ⟨_, ho2, rfl⟩ noFill_list_add seq_list_add PySem.F.slot_list_add PySem.F.entry_list_add (PySem.F.args_list_add_2 _ _) (list_addW l b its.toArray its2.toArray n n2 dd dd2 sl sl2 (by simp; omega)) ⟨ho, ho2, ?_⟩
  rw [e]
  exact ⟨.ref _, _, I.lnew (t' := s.toks) (r.append r2) (by rw [List.length_append]; omega), rfl, q _ I.fresh⟩

theorem bin_ok (hK : X.K = g.K) (op : Bop) (o : Operator) (ho : bopOk op o = true) : OpR X (binaryOp o) (rD2 g (binD op)) := by
  intro pins s σ H x y v u Q I rx ry h
  obtain ⟨Hs, a, b, sub, ba, bb, h⟩ := h
  unfold binD at h
  cases op <;> cases o <;> simp only [bopOk, Bool.false_eq_true] at ho
  case add.Add =>
    split at h <;> first | exact h.elim | skip
    all_goals (rename_i heq; try cases heq)
    · cases ba.rint; cases bb.rint
      exact op_add pins s σ H _ _ v u Q I rx ry ⟨_, _, rfl, rfl, PR.here h sub (.int _) (fun _ z => nomatch z)⟩
    · rename_i xs ys
      obtain ⟨hf, h⟩ := holds_gd h
      obtain ⟨p, vs, rfl, s1, r1⟩ := ba.tuple sub
      obtain ⟨p2, vs2, rfl, s2, r2⟩ := bb.tuple sub
      have l1 := r1.length
      have l2 := r2.length
      have hf : xs.length + ys.length ≤ sizeLine := of_decide_eq_true hf
      rw [← hK] at s1 s2
      refine op_catA pins s σ H _ _ v u Q I rx ry ⟨p, p2, vs, vs2, rfl, rfl, s1, s2, by omega, fun e => ?_, fun e1 e2 => ?_, fun e1 e2 => ?_⟩
      · subst e; cases r1
        refine h _ Hs H (Ext.refl sub) (.inl ⟨?_, fun _ z => nomatch z⟩)
        exact bb.bare rfl
      · subst e2; cases r2
        rw [List.append_nil] at h
        refine h _ Hs H (Ext.refl sub) (.inl ⟨?_, fun _ z => nomatch z⟩)
        exact ba.bare rfl
      · exact PR.tuple h sub (r1.append r2)
    · rename_i xs ys
      obtain ⟨hf, h⟩ := holds_gd h
      obtain ⟨p, vs, rfl, s1, r1⟩ := ba.list sub
      obtain ⟨p2, vs2, rfl, s2, r2⟩ := bb.list sub
      have l1 := r1.length
      have l2 := r2.length
      have hf : xs.length + ys.length ≤ sizeLine := of_decide_eq_true hf
      rw [← hK] at s1 s2
      exact op_catQ pins s σ H _ _ v u Q I rx ry ⟨p, p2, vs, vs2, rfl, rfl, s1, s2, by omega, PR.list h sub (r1.append r2)⟩
    · obtain ⟨hf, h⟩ := holds_gd h
      cases ba.rstr; cases bb.rstr
      exact op_add_str pins s σ H _ _ v u Q I rx ry ⟨_, _, rfl, rfl, of_decide_eq_true hf, PR.here h sub (.str _) (fun _ z => nomatch z)⟩
  case sub.Sub =>
    split at h <;> first | exact h.elim | skip
    all_goals (rename_i heq; try cases heq)
    cases ba.rint; cases bb.rint
    exact op_sub pins s σ H _ _ v u Q I rx ry ⟨_, _, rfl, rfl, PR.here h sub (.int _) (fun _ z => nomatch z)⟩
  all_goals
    (split at h <;> first | exact h.elim | skip
     all_goals (rename_i heq; try cases heq)
     cases ba.rint; cases bb.rint)
  case h_6.refl.refl.refl => obtain ⟨hf, h⟩ := holds_gd h; exact opI (C := fun i j => IntMulOk i j) (g := fun i j => i * j) (fun _ _ _ _ _ _ _ hc q => mul_int q hc) pins s σ H _ _ v u Q I rx ry ⟨_, _, rfl, rfl, mul_ok hf, PR.here h sub (.int _) (fun _ z => nomatch z)⟩
  case h_8.refl.refl.refl =>
    obtain ⟨hf, h⟩ := holds_gd h
    unfold divOk at hf
    simp only [Bool.and_eq_true, Bool.not_eq_true', decide_eq_false_iff_not, decide_eq_true_eq] at hf
    exact opI (C := fun _ j => j ≠ 0 ∧ j.natAbs < mulB) (g := fun i j => i.fdiv j) (fun _ _ _ _ _ _ _ hc q => floordiv_int hc.1 q (.inl (PyProof.noPylong_of_log2 (Nat.lt_trans (mulB_log hc.2) (by decide))))) pins s σ H _ _ v u Q I rx ry ⟨_, _, rfl, rfl, hf, PR.here h sub (.int _) (fun _ z => nomatch z)⟩
  case h_9.refl.refl.refl =>
    obtain ⟨hf, h⟩ := holds_gd h
    simp only [Bool.not_eq_true', decide_eq_false_iff_not] at hf
    exact op_modN pins s σ H _ _ v u Q I rx ry ⟨_, _, rfl, rfl, hf, PR.here h sub (.int _) (fun _ z => nomatch z)⟩
  case h_10.refl.refl.refl =>
    obtain ⟨hf, h⟩ := holds_gd h
    unfold powOk at hf
    simp only [Bool.and_eq_true, Bool.or_eq_true, decide_eq_true_eq] at hf
    obtain ⟨h0, hf | hf⟩ := hf
    · exact op_pow pins s σ H _ _ v u Q I rx ry ⟨_, _, rfl, rfl, ⟨h0, hf.1, hf.2⟩, PR.here h sub (.int _) (fun _ z => nomatch z)⟩
    · have b := mulB_bits hf.2
      rename_i i j _
      have hsz : (Builtin.Int.intBits i : Int) * j ≤ 2 ^ 27 := by
        have h1 : (Builtin.Int.intBits i : Int) * j ≤ (Builtin.Int.intBits i : Int) * 60000 := Int.mul_le_mul_of_nonneg_left hf.1 (by omega)
        rw [show (2 : Int) ^ 27 = 134217728 by decide]; omega
      exact opI (C := fun i j => 0 ≤ j ∧ (Builtin.Int.intBits i : Int) * j ≤ 2 ^ 27) (g := fun i j => i ^ j.toNat) (fun _ _ _ _ _ _ _ hc q => PyProof.Rows.pow_int hc.1 hc.2 q) pins s σ H _ _ v u Q I rx ry ⟨_, _, rfl, rfl, ⟨h0, hsz⟩, PR.here h sub (.int _) (fun _ z => nomatch z)⟩
  case h_11.refl.refl.refl =>
    obtain ⟨hf, h⟩ := holds_gd h
    unfold shlOk at hf
    simp only [Bool.and_eq_true, decide_eq_true_eq] at hf
    obtain ⟨⟨h1, h2⟩, h3⟩ := hf
    have b := mulB_bits h3
    exact op_shlW pins s σ H _ _ v u Q I rx ry ⟨_, _, rfl, rfl, ⟨h1, by rw [show (2 : Int) ^ 27 = 134217728 by decide]; omega⟩, PR.here h sub (.int _) (fun _ z => nomatch z)⟩
  case h_12.refl.refl.refl =>
    obtain ⟨hf, h⟩ := holds_gd h
    exact op_shr pins s σ H _ _ v u Q I rx ry ⟨_, _, rfl, rfl, of_decide_eq_true hf, PR.here h sub (.int _) (fun _ z => nomatch z)⟩
  case h_13.refl.refl.refl => exact op_and pins s σ H _ _ v u Q I rx ry ⟨_, _, rfl, rfl, PR.here h sub (.int _) (fun _ z => nomatch z)⟩
  case h_14.refl.refl.refl => exact op_or pins s σ H _ _ v u Q I rx ry ⟨_, _, rfl, rfl, PR.here h sub (.int _) (fun _ z => nomatch z)⟩
  case h_15.refl.refl.refl => exact op_xor pins s σ H _ _ v u Q I rx ry ⟨_, _, rfl, rfl, PR.here h sub (.int _) (fun _ z => nomatch z)⟩

/-! ### == of data -/
theorem eq_toPy : ∀ (a b : D), (∀ c fs, a ≠ .ins c fs) → (∀ c fs, b ≠ .ins c fs) → True := fun _ _ _ _ => trivial
mutual
theorem eqD_py : ∀ (n : Nat) (a b : D), plainD n a = true → ∀ m, plainD m b = true → PyData.eqv (toPy a) (toPy b) = eqD a b
  | n, a, b, ha, m, hb => by
    cases a <;> cases b <;> first | rfl | skip
    all_goals (try (simp only [plainD, Bool.false_eq_true] at ha)); all_goals (try (simp only [plainD, Bool.false_eq_true] at hb))
    all_goals (first | (cases n <;> simp only [plainD, Bool.false_eq_true] at ha) | skip)
    all_goals (first | (cases m <;> simp only [plainD, Bool.false_eq_true] at hb) | skip)
    all_goals (first
      | (simp only [toPy, PyData.eqv, eqD]; exact eqDs_py _ _ _ ha _ hb)
      | (simp only [toPy, PyData.eqv, eqD]))
theorem eqDs_py : ∀ (n : Nat) (xs ys : List D), xs.all (plainD n) = true → ∀ m, ys.all (plainD m) = true → PyData.eqvAll (toPys xs) (toPys ys) = eqDs xs ys
  | _, [], [], _, _, _ => by simp only [toPys, PyData.eqvAll, eqDs]
  | _, [], _ :: _, _, _, _ => by simp only [toPys, PyData.eqvAll, eqDs]
  | _, _ :: _, [], _, _, _ => by simp only [toPys, PyData.eqvAll, eqDs]
  | n, x :: xs, y :: ys, hx, m, hy => by
    rw [List.all_cons, Bool.and_eq_true] at hx hy
    simp only [toPys, PyData.eqvAll, eqDs]
    rw [eqD_py n x y hx.1 m hy.1, eqDs_py n xs ys hx.2 m hy.2]
end
mutual
theorem plain_lay : ∀ (n : Nat) (a : D), plainD n a = true → PyData.canLay0 (toPy a) = true ∧ PyData.depth (toPy a) ≤ n + 1
  | n, .non, _ => ⟨by simp only [toPy, PyData.canLay0], by simp only [toPy, PyData.depth]; omega⟩
  | n, .bl _, _ => ⟨by simp only [toPy, PyData.canLay0], by simp only [toPy, PyData.depth]; omega⟩
  | n, .int _, _ => ⟨by simp only [toPy, PyData.canLay0], by simp only [toPy, PyData.depth]; omega⟩
  | n, .str x, h => ⟨by (simp only [toPy, PyData.canLay0]; simpa only [plainD] using h), by simp only [toPy, PyData.depth]; omega⟩
  | 0, .tup xs, h => by simp only [plainD, Bool.false_eq_true] at h
  | 0, .lst xs, h => by simp only [plainD, Bool.false_eq_true] at h
  | n + 1, .tup xs, h => by
    have q := plain_lays n xs (by simpa only [plainD] using h)
    exact ⟨by simp only [toPy, PyData.canLay0]; exact q.1, by simp only [toPy, PyData.depth]; have := q.2; omega⟩
  | n + 1, .lst xs, h => by
    have q := plain_lays n xs (by simpa only [plainD] using h)
    exact ⟨by simp only [toPy, PyData.canLay0]; exact q.1, by simp only [toPy, PyData.depth]; have := q.2; omega⟩
  | 0, .ins _ _, h => by simp only [plainD, Bool.false_eq_true] at h
  | n + 1, .ins _ _, h => by simp only [plainD, Bool.false_eq_true] at h
  | 0, .dcK _ _, h => by simp only [plainD, Bool.false_eq_true] at h
  | n + 1, .dcK _ _, h => by simp only [plainD, Bool.false_eq_true] at h
  | 0, .dcT _ _, h => by simp only [plainD, Bool.false_eq_true] at h
  | n + 1, .dcT _ _, h => by simp only [plainD, Bool.false_eq_true] at h
theorem plain_lays : ∀ (n : Nat) (xs : List D), xs.all (plainD n) = true → PyData.canLayAll0 (toPys xs) = true ∧ PyData.depthAll (toPys xs) ≤ n + 1
  | n, [], _ => ⟨by simp only [toPys, PyData.canLayAll0], by simp only [toPys, PyData.depthAll]; omega⟩
  | n, x :: xs, h => by
    rw [List.all_cons, Bool.and_eq_true] at h
    have q := plain_lay n x h.1
    have q2 := plain_lays n xs h.2
    refine ⟨by simp only [toPys, PyData.canLayAll0, Bool.and_eq_true]; exact ⟨q.1, q2.1⟩, by simp only [toPys, PyData.depthAll]; have := q.2; have := q2.2; omega⟩
end
mutual
theorem dp_of {H : Hp} : ∀ {v : V} {d : D} (n : Nat), plainD n d = true → Rep g H v d → Dp g.K H v (toPy d)
  | _, _, _, _, .non => .non
  | _, _, _, _, .bl b => .bl b
  | _, _, _, _, .int i => .int i
  | _, _, _, _, .str x => .str x
  | _, _, 0, h, .tup _ _ => by simp only [plainD, Bool.false_eq_true] at h
  | _, _, 0, h, .lst _ _ => by simp only [plainD, Bool.false_eq_true] at h
  | _, _, n + 1, h, .tup s r => by simp only [toPy]; exact .tup (.inl (.inl s)) (dps_of n (by simpa only [plainD] using h) r)
  | _, _, n + 1, h, .lst s r => by simp only [toPy]; exact .lst s (dps_of n (by simpa only [plainD] using h) r)
  | _, _, 0, h, .ins _ _ _ => by simp only [plainD, Bool.false_eq_true] at h
  | _, _, n + 1, h, .ins _ _ _ => by simp only [plainD, Bool.false_eq_true] at h
  | _, _, 0, h, .dcK _ _ _ => by simp only [plainD, Bool.false_eq_true] at h
  | _, _, n + 1, h, .dcK _ _ _ => by simp only [plainD, Bool.false_eq_true] at h
  | _, _, 0, h, .dcT _ _ _ => by simp only [plainD, Bool.false_eq_true] at h
  | _, _, n + 1, h, .dcT _ _ _ => by simp only [plainD, Bool.false_eq_true] at h
theorem dps_of {H : Hp} : ∀ {vs : List V} {ds : List D} (n : Nat), ds.all (plainD n) = true → Reps g H vs ds → DpAll g.K H vs (toPys ds)
  | _, _, _, _, .nil => .nil
  | _, _, n, h, .cons r t => by
    rw [List.all_cons, Bool.and_eq_true] at h
    exact .cons (dp_of n h.1 r) (dps_of n h.2 t)
end
theorem flat_of {Hs H : Hp} {v : V} {d : D} (b : BRep g Hs H v d) (f : flatD d = true) : flatV v = true := by
  cases d <;> simp only [flatD, Bool.false_eq_true] at f
  · cases b.rnon; rfl
  · cases b.rbl; rfl
  · cases b.rint; rfl
  · cases b.rstr; rfl
theorem flat_eq {Hs H : Hp} {v w : V} {d e : D} (b : BRep g Hs H v d) (f : flatD d = true) (b2 : BRep g Hs H w e) (f2 : flatD e = true) : eqV v w = eqD d e := by
  cases d <;> simp only [flatD, Bool.false_eq_true] at f <;> cases e <;> simp only [flatD, Bool.false_eq_true] at f2
  all_goals (first | cases b.rnon | cases b.rbl | cases b.rint | cases b.rstr)
  all_goals (first | cases b2.rnon | cases b2.rbl | cases b2.rint | cases b2.rstr)
  all_goals (simp only [eqV, eqD])
end
end Dw

namespace Dw
open PySem PySem.Spec PyProof.Rows L2
section
variable {X : Cx} {g : G}
theorem PR.bool {g : G} {Hs H : Hp} {b : Bool} {Q : VK} (q : PR g Hs H (.bl b) Q) (e : Same Hs H) : Q (.bl b) H := q.here e (.bl b) (fun _ z => nomatch z)
theorem PR.int {g : G} {Hs H : Hp} {b : Int} {Q : VK} (q : PR g Hs H (.int b) Q) (e : Same Hs H) : Q (.int b) H := q.here e (.int b) (fun _ z => nomatch z)
theorem BRep.seq {g : G} {Hs H : Hp} {v : V} {d : D} {ys : List D} (b : BRep g Hs H v d) (e : Same Hs H) (h : seqOf d = some ys) : ∃ p vs, v = .ref p ∧ (SqL g.K H p vs ∨ SqT g.K H p vs) ∧ Reps g Hs vs ys := by
  cases d <;> simp only [seqOf, Option.some.injEq, reduceCtorEq] at h
  · subst h
    obtain ⟨p, vs, h1, h2, h3⟩ := b.tuple e
    exact ⟨p, vs, h1, .inr h2, h3⟩
  · subst h
    obtain ⟨p, vs, h1, h2, h3⟩ := b.list e
    exact ⟨p, vs, h1, .inl h2, h3⟩
theorem flats {g : G} {Hs H : Hp} : ∀ {vs : List V} {ds : List D}, Reps g Hs vs ds → ds.all flatD = true → vs.all flatV = true
  | _, _, .nil, _ => rfl
  | _, _, .cons r t, h => by
    rw [List.all_cons, Bool.and_eq_true] at h
    rw [List.all_cons, Bool.and_eq_true]
    exact ⟨flat_of (H := H) (.inl r) h.1, flats (H := H) t h.2⟩
theorem in_eq {g : G} {Hs H : Hp} {v : V} {d : D} (b : BRep g Hs H v d) (f : flatD d = true) : ∀ {vs : List V} {ds : List D}, Reps g Hs vs ds → ds.all flatD = true → inV v vs = inD d ds
  | _, _, .nil, _ => rfl
  | _, _, .cons r t, h => by
    rw [List.all_cons, Bool.and_eq_true] at h
    unfold inV inD
    rw [List.any_cons, List.any_cons, flat_eq (H := H) (.inl r) h.1 b f]
    have := in_eq b f t h.2
    unfold inV inD at this
    rw [this]
theorem intsOf_reps {g : G} {Hs : Hp} : ∀ {vs : List V} {ds : List D} {ns : List Int}, Reps g Hs vs ds → intsOf ds = some ns → vs = ns.map V.int ∧ ds = ns.map D.int
  | _, _, _, .nil, h => by
    simp only [intsOf, Option.some.injEq] at h
    subst h; exact ⟨rfl, rfl⟩
  | _, d :: ds, ns, .cons r t, h => by
    cases d <;> simp only [intsOf, reduceCtorEq] at h
    cases e : intsOf ds with
    | none => rw [e] at h; cases h
    | some l =>
      rw [e] at h
      cases h
      cases r
      obtain ⟨h1, h2⟩ := intsOf_reps t e
      subst h1
      exact ⟨rfl, by rw [h2]; rfl⟩
theorem blsOf_reps {g : G} {Hs : Hp} : ∀ {vs : List V} {ds : List D} {ns : List Bool}, Reps g Hs vs ds → blsOf ds = some ns → vs = ns.map V.bl
  | _, _, _, .nil, h => by
    simp only [blsOf, Option.some.injEq] at h
    subst h; rfl
  | _, d :: ds, ns, .cons r t, h => by
    cases d <;> simp only [blsOf, reduceCtorEq] at h
    cases e : blsOf ds with
    | none => rw [e] at h; cases h
    | some l =>
      rw [e] at h
      cases h
      cases r
      have h1 := blsOf_reps t e
      subst h1
      rfl
theorem keyOf_kV {g : G} {Hs H : Hp} {v : V} {d : D} {k : Key} (b : BRep g Hs H v d) (e : keyOf d = some k) : v = kV k := by
  cases d <;> simp only [keyOf, Option.some.injEq, reduceCtorEq] at e
  · cases b.rint; subst e; rfl
  · cases b.rstr; subst e; rfl
theorem keysOf_kV {g : G} {Hs : Hp} : ∀ {vs : List V} {ds : List D} {ks : List Key}, Reps g Hs vs ds → keysOf ds = some ks → vs = ks.map kV
  | _, _, _, .nil, h => by
    simp only [keysOf, Option.some.injEq] at h
    subst h; rfl
  | _, d :: ds, _, .cons r t, h => by
    simp only [keysOf] at h
    cases e1 : keyOf d with
    | none => rw [e1] at h; cases h
    | some k =>
      cases e2 : keysOf ds with
      | none => rw [e1, e2] at h; cases h
      | some l =>
        rw [e1, e2] at h
        cases h
        rw [List.map_cons, keyOf_kV (H := Hs) (.inl r) e1, keysOf_kV t e2]
section
variable {κ : Type} [DecidableEq κ]
theorem getK_valV {g : G} {Hs : Hp} : ∀ {ks : List κ} {us : List V} {ds : List D} (k : κ), Reps g Hs us ds → us.length = ks.length →
    (∀ d, getK ks ds k = some d → ∃ u, valV (ks.zip us) k = some u ∧ Rep g Hs u d) ∧ (getK ks ds k).isSome = (valV (ks.zip us) k).isSome
  | [], [], _, k, .nil, _ => ⟨fun d h => (by cases h), rfl⟩
  | [], _ :: _, _, _, _, h => by simp at h
  | _ :: _, [], _, _, .nil, h => by simp at h
  | k' :: ks, u :: us, d' :: ds, k, .cons r t, h => by
    have ih := getK_valV (ks := ks) k t (by simpa using h)
    rw [List.zip_cons_cons]
    unfold getK
    by_cases e : k' = k
    · rw [if_pos e, valV_pos (p := (k', u)) e]
      exact ⟨fun d hd => (by cases hd; exact ⟨u, rfl, r⟩), rfl⟩
    · rw [if_neg e, valV_neg (p := (k', u)) e]
      exact ih
theorem valV_mem (k : κ) : ∀ {ks : List κ} {us : List V}, us.length = ks.length → ((valV (ks.zip us) k).isSome = true ↔ k ∈ ks)
  | [], [], _ => by simp [valV_nil]
  | [], _ :: _, h => by simp at h
  | _ :: _, [], h => by simp at h
  | k' :: ks, u :: us, h => by
    rw [List.zip_cons_cons]
    by_cases e : k' = k
    · rw [valV_pos (p := (k', u)) e]; simp [e]
    · rw [valV_neg (p := (k', u)) e, valV_mem k (by simpa using h)]
      simp [Ne.symm e]
theorem setK_zip {g : G} {Hs : Hp} {v : V} {d : D} (q : Rep g Hs v d) (k : κ) : ∀ {ks : List κ} {us : List V} {ds : List D}, Reps g Hs us ds → us.length = ks.length →
    ∃ us', (ks.zip us).map (fun kv => if kv.1 = k then (kv.1, v) else kv) = ks.zip us' ∧ us'.length = ks.length ∧ Reps g Hs us' (setK ks ds k d)
  | [], [], _, .nil, _ => ⟨[], rfl, rfl, .nil⟩
  | [], _ :: _, _, _, h => by simp at h
  | _ :: _, [], _, .nil, h => by simp at h
  | k' :: ks, u :: us, d' :: ds, .cons r t, h => by
    obtain ⟨us', h1, h2, h3⟩ := setK_zip q k (ks := ks) t (by simpa using h)
    unfold setK
    by_cases e : k' = k
    · refine ⟨v :: us', ?_, by simp [h2], ?_⟩
      · rw [List.zip_cons_cons, List.map_cons, h1, if_pos e, List.zip_cons_cons]
      · rw [if_pos e]; exact .cons q h3
    · refine ⟨u :: us', ?_, by simp [h2], ?_⟩
      · rw [List.zip_cons_cons, List.map_cons, h1, if_neg e, List.zip_cons_cons]
      · rw [if_neg e]; exact .cons r h3
theorem putK_zip {g : G} {Hs : Hp} {v : V} {d : D} (q : Rep g Hs v d) (k : κ) {ks : List κ} {us : List V} {ds : List D} (r : Reps g Hs us ds) (h : us.length = ks.length) :
    ∃ us', putK (ks.zip us) k v = (putKs ks k).zip us' ∧ us'.length = (putKs ks k).length ∧ Reps g Hs us' (putVs ks ds k d) := by
  unfold putK putKs putVs
  rw [valV_any]
  have hm := valV_mem k h
  by_cases e : k ∈ ks
  · rw [if_pos (hm.2 e), if_pos e, if_pos e]
    exact setK_zip q k r h
  · have e' : ¬ (valV (ks.zip us) k).isSome = true := fun z => e (hm.1 z)
    rw [if_neg e', if_neg e, if_neg e]
    refine ⟨us ++ [v], ?_, by simp [h], r.append (.cons q .nil)⟩
    rw [List.zip_append h.symm]
    rfl
end
theorem tkeyOf_kV {g : G} {Hs H : Hp} {v : V} {d : D} {k : List Key} (b : BRep g Hs H v d) (e : Same Hs H) (h : tkeyOf d = some k) : ∃ q, v = .ref q ∧ H q = some (.tup (k.map kV)) := by
  cases d <;> first | cases h | skip
  obtain ⟨q, ws, rfl, hq, rr⟩ := b.tupleH e
  have hy := keysOf_kV rr h
  subst hy
  exact ⟨q, rfl, hq⟩
/-- what a dict holds -/
theorem dget_of {g : G} {Hs H : Hp} {p : Addr} {o : HO} {d x : D} {y : V} (hp : H p = some o) (od : OwnD g Hs d o) (e : Same Hs H) (b : BRep g Hs H y x) :
    (∀ r, dgetD d x = .ok r → ∃ u, DGet H p y (some u) ∧ Rep g Hs u r) ∧ (∀ r, dinD x d = .ok r → ∃ ov, DGet H p y ov ∧ ov.isSome = r) := by
  cases d <;> first | exact od.elim | skip
  · rename_i ks ds
    obtain ⟨us, rfl, h2, h3⟩ := od
    unfold dgetD dinD
    simp only
    cases hk : keyOf x with
    | none => exact ⟨fun r h => (by cases h), fun r h => (by cases h)⟩
    | some k =>
      have hy := keyOf_kV b hk
      subst hy
      have G := getK_valV k h3 h2
      refine ⟨fun r h => ?_, fun r h => ?_⟩
      · simp only at h
        cases e1 : getK ks ds k with
        | none => rw [e1] at h; cases h
        | some d' =>
          rw [e1] at h; cases h
          obtain ⟨u, h4, h5⟩ := G.1 _ e1
          exact ⟨u, by rw [← h4]; exact DGet.k hp, h5⟩
      · simp only [M.ok.injEq] at h
        rw [← h]
        exact ⟨_, DGet.k hp, G.2.symm⟩
  · rename_i ks ds
    obtain ⟨us, rfl, h2, h3⟩ := od
    unfold dgetD dinD
    simp only
    cases hk : tkeyOf x with
    | none => exact ⟨fun r h => (by cases h), fun r h => (by cases h)⟩
    | some k =>
      obtain ⟨q, rfl, hq⟩ := tkeyOf_kV b e hk
      have G := getK_valV k h3 h2
      refine ⟨fun r h => ?_, fun r h => ?_⟩
      · simp only at h
        cases e1 : getK ks ds k with
        | none => rw [e1] at h; cases h
        | some d' =>
          rw [e1] at h; cases h
          obtain ⟨u, h4, h5⟩ := G.1 _ e1
          exact ⟨u, by rw [← h4]; exact DGet.t hp hq, h5⟩
      · simp only [M.ok.injEq] at h
        rw [← h]
        exact ⟨_, DGet.t hp hq, G.2.symm⟩
theorem din_ex {x d : D} {c : Nat} : dinD x d ≠ .ex c := by
  unfold dinD
  split <;> (try split) <;> intro h <;> cases h
theorem dget_ex {x d : D} {c : Nat} : dgetD d x ≠ .ex c := by
  have o : ∀ (o : Option D), optM o ≠ .ex c := fun o => by cases o <;> intro h <;> cases h
  unfold dgetD
  split <;> (try split) <;> first | exact o _ | (intro h; cases h)
theorem dict_of {x d : D} {b : Bool} (h : dinD x d = .ok b) : noIns d = false ∧ ∀ c fs, d ≠ .ins c fs := by
  cases d <;> first | (cases h; done) | exact ⟨rfl, fun _ _ z => D.noConfusion z⟩
theorem dict_of2 {x d r : D} (h : dgetD d x = .ok r) : noIns d = false ∧ ∀ c fs, d ≠ .ins c fs := by
  cases d <;> first | (cases h; done) | exact ⟨rfl, fun _ _ z => D.noConfusion z⟩
theorem cmp_ok (hK : X.K = g.K) (hu : X.A.units + 64 < cLine) (op : Cop) (o : CmpOp) (ho : copOk op o = true) : OpR X (compareOp o) (rD2 g (cmpD op)) := by
  intro pins s σ H x y v u Q I rx ry h
  obtain ⟨Hs, a, b, sub, ba, bb, h⟩ := h
  unfold cmpD at h
  cases op <;> cases o <;> simp only [copOk, Bool.false_eq_true] at ho
  case eq.Eq =>
    simp only at h
    obtain ⟨hf, h⟩ := holds_gd h
    rw [Bool.and_eq_true] at hf
    have l1 := plain_lay 60 a hf.1
    have l2 := plain_lay 60 b hf.2
    have d1 : Dp X.K H x (toPy a) := by rw [hK]; exact dp_of 60 hf.1 (ba.rep sub)
    have d2 : Dp X.K H y (toPy b) := by rw [hK]; exact dp_of 60 hf.2 (bb.rep sub)
    refine op_eqD hu pins s σ H _ _ v u Q I rx ry ⟨_, _, d1, d2, ?_, ?_, ?_⟩
    · unfold SeqAt.shaped; rw [l1.1, decide_eq_true (show (toPy a).depth ≤ 64 by omega)]; rfl
    · unfold SeqAt.shaped; rw [l2.1, decide_eq_true (show (toPy b).depth ≤ 64 by omega)]; rfl
    · rw [eqD_py 60 a b hf.1 60 hf.2]; exact h.bool sub
  case ne.NotEq =>
    simp only at h
    obtain ⟨hf, h⟩ := holds_gd h
    rw [Bool.and_eq_true] at hf
    have l1 := plain_lay 60 a hf.1
    have l2 := plain_lay 60 b hf.2
    have d1 : Dp X.K H x (toPy a) := by rw [hK]; exact dp_of 60 hf.1 (ba.rep sub)
    have d2 : Dp X.K H y (toPy b) := by rw [hK]; exact dp_of 60 hf.2 (bb.rep sub)
    refine op_neD hu pins s σ H _ _ v u Q I rx ry ⟨_, _, d1, d2, ?_, ?_, ?_⟩
    · unfold SeqAt.shaped; rw [l1.1, decide_eq_true (show (toPy a).depth ≤ 64 by omega)]; rfl
    · unfold SeqAt.shaped; rw [l2.1, decide_eq_true (show (toPy b).depth ≤ 64 by omega)]; rfl
    · rw [eqD_py 60 a b hf.1 60 hf.2]; exact h.bool sub
  case lt.Lt =>
    split at h <;> first | exact h.elim | skip
    all_goals (rename_i heq; try cases heq)
    · cases ba.rint; cases bb.rint
      exact op_lt pins s σ H _ _ v u Q I rx ry ⟨_, _, rfl, rfl, h.bool sub⟩
    · split at h <;> first | exact h.elim | skip
      rename_i ns ms e1 e2
      obtain ⟨p, vs, rfl, s1, r1⟩ := ba.tuple sub
      obtain ⟨p2, vs2, rfl, s2, r2⟩ := bb.tuple sub
      obtain ⟨rfl, _⟩ := intsOf_reps r1 e1
      obtain ⟨rfl, _⟩ := intsOf_reps r2 e2
      rw [← hK] at s1 s2
      exact op_ltT (by omega) pins s σ H _ _ v u Q I rx ry ⟨_, _, _, _, rfl, rfl, s1, s2, h.bool sub⟩
  case le.LtE =>
    split at h <;> first | exact h.elim | skip
    all_goals (rename_i heq; try cases heq)
    cases ba.rint; cases bb.rint
    exact op_le pins s σ H _ _ v u Q I rx ry ⟨_, _, rfl, rfl, h.bool sub⟩
  case gt.Gt =>
    split at h <;> first | exact h.elim | skip
    all_goals (rename_i heq; try cases heq)
    cases ba.rint; cases bb.rint
    exact op_gt pins s σ H _ _ v u Q I rx ry ⟨_, _, rfl, rfl, h.bool sub⟩
  case ge.GtE =>
    split at h <;> first | exact h.elim | skip
    all_goals (rename_i heq; try cases heq)
    cases ba.rint; cases bb.rint
    exact op_ge pins s σ H _ _ v u Q I rx ry ⟨_, _, rfl, rfl, h.bool sub⟩
  case isn.Is =>
    cases b <;> first | exact False.elim h | skip
    cases bb.rnon
    have e : decide (x = .non) = isNon a := by
      rcases ba with ba | ⟨_, _, _, z, z2, _⟩ | ⟨_, _, z, _, z3⟩
      · cases ba <;> rfl
      · subst z z2; rfl
      · subst z; cases a <;> first | rfl | exact z3.elim
    refine op_isN pins s σ H _ _ v u Q I rx ry ⟨rfl, ?_⟩
    rw [e]; exact PR.bool h sub
  case nisn.IsNot =>
    cases b <;> first | exact False.elim h | skip
    cases bb.rnon
    have e : decide (x = .non) = isNon a := by
      rcases ba with ba | ⟨_, _, _, z, z2, _⟩ | ⟨_, _, z, _, z3⟩
      · cases ba <;> rfl
      · subst z z2; rfl
      · subst z; cases a <;> first | rfl | exact z3.elim
    refine op_notN pins s σ H _ _ v u Q I rx ry ⟨rfl, ?_⟩
    rw [e]; exact PR.bool h sub
  case isb.Is =>
    cases a <;> cases b <;> first | exact False.elim h | skip
    cases ba.rbl; cases bb.rbl
    exact op_isBl pins s σ H _ _ v u Q I rx ry ⟨_, _, rfl, rfl, PR.bool h sub⟩
  case nisb.IsNot =>
    cases a <;> cases b <;> first | exact False.elim h | skip
    cases ba.rbl; cases bb.rbl
    exact op_notBl pins s σ H _ _ v u Q I rx ry ⟨_, _, rfl, rfl, PR.bool h sub⟩
  case inn.In =>
    simp only at h
    split at h
    case h_2 =>
      cases hd : dinD a b with
      | no => rw [hd] at h; exact h.elim
      | ex c => exact (din_ex hd).elim
      | ok r =>
        rw [hd] at h
        obtain ⟨z1, z2⟩ := dict_of hd
        obtain ⟨p, o, rfl, hp, od⟩ := bb.dict sub z1 z2
        obtain ⟨ov, hg, hr⟩ := (dget_of hp od sub ba).2 r hd
        cases ry
        refine d_in (by omega) I hg rx fun s' I' => ⟨.bl ov.isSome, H, I', rfl, ?_⟩
        rw [hr]; exact PR.bool h sub
    rename_i ys e
    obtain ⟨hf, h⟩ := holds_gd h
    rw [Bool.and_eq_true] at hf
    obtain ⟨p, vs, rfl, s1, r1⟩ := bb.seq sub e
    rw [← hK] at s1
    refine op_in_seq pins s σ H _ _ v u Q I rx ry ⟨p, vs, rfl, s1, flat_of ba hf.1, flats (H := H) r1 hf.2, ?_⟩
    rw [in_eq ba hf.1 r1 hf.2]; exact h.bool sub
  case nin.NotIn =>
    simp only at h
    split at h
    case h_2 =>
      cases hd : dinD a b with
      | no => rw [hd] at h; exact h.elim
      | ex c => exact (din_ex hd).elim
      | ok r =>
        rw [hd] at h
        obtain ⟨z1, z2⟩ := dict_of hd
        obtain ⟨p, o, rfl, hp, od⟩ := bb.dict sub z1 z2
        obtain ⟨ov, hg, hr⟩ := (dget_of hp od sub ba).2 r hd
        cases ry
        refine d_notIn (by omega) I hg rx fun s' I' => ⟨.bl (!ov.isSome), H, I', rfl, ?_⟩
        rw [hr]; exact PR.bool h sub
    rename_i ys e
    obtain ⟨hf, h⟩ := holds_gd h
    rw [Bool.and_eq_true] at hf
    obtain ⟨p, vs, rfl, s1, r1⟩ := bb.seq sub e
    rw [← hK] at s1
    refine op_notIn_seq pins s σ H _ _ v u Q I rx ry ⟨p, vs, rfl, s1, flat_of ba hf.1, flats (H := H) r1 hf.2, ?_⟩
    rw [in_eq ba hf.1 r1 hf.2]; exact h.bool sub

/-! ### items, slices -/
/-- an item is in view, whatever it is -/
def rIxD (g : G) : R2 := fun x y H Q => ∃ Hs a b, Same Hs H ∧ BRep g Hs H x a ∧ BRep g Hs H y b ∧ holds (idxD a b) (fun d => PV g Hs H d Q) fun _ => True
theorem atI_reps {g : G} {Hs : Hp} {vs : List V} {ds : List D} {i : Int} {d : D} (r : Reps g Hs vs ds) (h : atI ds i = some d) : ∃ v, atI vs i = some v ∧ Rep g Hs v d := by
  unfold atI at h ⊢
  rw [r.length]
  cases e : ixN ds.length i with
  | none => rw [e] at h; cases h
  | some j =>
    rw [e] at h
    exact r.get h
theorem ix_dict (hu : X.A.units + 1 < cLine) : IxR X (fun x y H Q => ∃ a v, x = .ref a ∧ DGet H a y (some v) ∧ Q v H) := by
  intro value slice pins s σ H x y v u Q I rx ry h hs
  obtain ⟨a, w, rfl, hg, q⟩ := h
  cases rx
  have hT := dict_typeIs I hg
  unfold subscriptTail
  refine wpAny_bind ?_
  rw [getitemInPython_of_ne hT.not_modules]
  refine wpAny_bind (wpAny_specialOf hT PySem.F.slot_dict_getitem.lookup ?_)
  have fin : wpAny (model X.prog X.w) X.A (subscripted slice false (.ref a) u) (fun r s₃ => wpAny (model X.prog X.w) X.A (letTemporaryGo value (.ref a) r >>= fun _ => pure r) (EP X pins σ Q) X.xe s₃) X.xe s := by
    rw [hs]
    exact wpAny_operating (d_getItem hu I hg ry fun w' s3 I3 rw' => wpAny_bind (wpAny_letTemporaryGo (wpAny_pure ⟨w, H, I3, rw', q⟩)))
  first
    | exact wpAny_pure (wpAny_bind fin)
    | (refine wpAny_pure ?_; exact wpAny_bind fin)
theorem ix_ok (hK : X.K = g.K) (hu : X.A.units + 1 < cLine) : IxR X (rIxD g) := by
  intro value slice pins s σ H x y v u Q I rx ry h hs
  obtain ⟨Hs, a, b, sub, ba, bb, h⟩ := h
  unfold idxD at h
  split at h <;> first | exact h.elim | skip
  · cases bb.rint
    split at h <;> first | exact h.elim | skip
    rename_i d e
    obtain ⟨p, vs, rfl, s1, r1⟩ := ba.tuple sub
    obtain ⟨w, hw, rw_⟩ := atI_reps r1 e
    rw [← hK] at s1
    exact ix_tup value slice pins s σ H _ _ v u Q I rx ry ⟨p, vs, _, w, rfl, rfl, s1, hw, h w Hs H (Ext.refl sub) rw_⟩ hs
  · cases bb.rint
    split at h <;> first | exact h.elim | skip
    rename_i d e
    obtain ⟨p, vs, rfl, s1, r1⟩ := ba.list sub
    obtain ⟨w, hw, rw_⟩ := atI_reps r1 e
    rw [← hK] at s1
    exact ix_list value slice pins s σ H _ _ v u Q I rx ry ⟨p, vs, _, w, rfl, rfl, s1, hw, h w Hs H (Ext.refl sub) rw_⟩ hs
  · cases hd : dgetD a b with
    | no => rw [hd] at h; exact h.elim
    | ex c => exact (dget_ex hd).elim
    | ok r =>
      rw [hd] at h
      have z := dict_of2 hd
      obtain ⟨p, o, rfl, hp, od⟩ := ba.dict sub z.1 z.2
      obtain ⟨w, hg, hr⟩ := (dget_of hp od sub bb).1 r hd
      exact ix_dict hu value slice pins s σ H _ _ v u Q I rx ry ⟨p, w, rfl, hg, h w Hs H (Ext.refl sub) hr⟩ hs
def rSlD (g : G) : V → Option Int → Option Int → Hp → VK → Prop := fun x lo hi H Q => ∃ Hs a, Same Hs H ∧ BRep g Hs H x a ∧ holds (slcD a lo hi) (fun d => PR g Hs H d Q) fun _ => True
theorem cut_reps {g : G} {Hs : Hp} {vs : List V} {ds : List D} (r : Reps g Hs vs ds) (lo hi : Option Int) : Reps g Hs (cutV vs lo hi) (cutD ds lo hi) := by
  unfold cutV cutD
  rw [r.length]
  exact (r.drop _).take _
theorem sl_ok (hK : X.K = g.K) : SlR X (rSlD g) := by
  intro pins s σ H x v vl vu lo hi sl Q I rx hs pl pu h
  obtain ⟨Hs, a, sub, ba, h⟩ := h
  unfold slcD at h
  split at h <;> first | exact h.elim | skip
  · rename_i ds
    obtain ⟨p, vs, rfl, s1, r1⟩ := ba.tuple sub
    have rc := cut_reps r1 lo hi
    rw [← hK] at s1
    refine sl_tupA pins s σ H _ v vl vu lo hi sl Q I rx hs pl pu ⟨p, vs, rfl, s1, fun e => ?_, fun e => PR.tuple h sub rc⟩
    have e2 : cutD ds lo hi = ds := by
      unfold cutD
      rw [← r1.length, e.1, e.2, r1.length]
      simp
    rw [e2] at h
    refine h _ Hs H (Ext.refl sub) (.inl ⟨?_, fun _ z => nomatch z⟩)
    exact ba.bare rfl
  · rename_i ds
    obtain ⟨p, vs, rfl, s1, r1⟩ := ba.list sub
    have rc := cut_reps r1 lo hi
    rw [← hK] at s1
    exact sl_list pins s σ H _ v vl vu lo hi sl Q I rx hs pl pu ⟨p, vs, rfl, s1, PR.list h sub rc⟩
end
end Dw

namespace Dw
open PySem PySem.Spec PyProof.Rows L2
section
variable {X : Cx} {g : G}
/-- a call by data -/
def rDn (g : G) (f : List D → M D) : List V → Hp → VK → Prop := fun xs H Q => ∃ Hs ds, Same Hs H ∧ BReps g Hs H xs ds ∧ holds (f ds) (fun d => PR g Hs H d Q) fun _ => True
theorem BReps.one {Hs H : Hp} {vs : List V} {d : D} (r : BReps g Hs H vs [d]) : ∃ v, vs = [v] ∧ BRep g Hs H v d := by
  cases r with
  | cons b t => cases t; exact ⟨_, rfl, b⟩
theorem BReps.two {Hs H : Hp} {vs : List V} {d e : D} (r : BReps g Hs H vs [d, e]) : ∃ v w, vs = [v, w] ∧ BRep g Hs H v d ∧ BRep g Hs H w e := by
  cases r with
  | cons b t =>
    obtain ⟨w, rfl, b2⟩ := t.one
    exact ⟨_, _, rfl, b, b2⟩
theorem BReps.three {Hs H : Hp} {vs : List V} {d e f : D} (r : BReps g Hs H vs [d, e, f]) : ∃ v w u, vs = [v, w, u] ∧ BRep g Hs H v d ∧ BRep g Hs H w e ∧ BRep g Hs H u f := by
  cases r with
  | cons b t =>
    obtain ⟨w, u, rfl, b2, b3⟩ := t.two
    exact ⟨_, _, _, rfl, b, b2, b3⟩
theorem vals3 {x y z : V} {us : List Value} (r : Vals [x, y, z] us) : ∃ u w t, us = [u, w, t] ∧ RelV x u ∧ RelV y w ∧ RelV z t := by
  cases r with
  | cons r1 r2 =>
    obtain ⟨w, t, rfl, r3, r4⟩ := vals2 r2
    exact ⟨_, _, _, rfl, r1, r3, r4⟩
def biName : Bi → Str
  | .len => "len" | .min2 => "min" | .max2 => "max" | .min3 => "min" | .max3 => "max" | .min1 => "min" | .max1 => "max" | .sum => "sum" | .abs => "abs" | .tup => "tuple" | .lst => "list" | .int => "int" | .any => "any" | .all => "all" | .sor => "sorted"
def biVal : Bi → Value
  | .len => .builtin "len" | .min2 => .builtin "min" | .max2 => .builtin "max" | .min3 => .builtin "min" | .max3 => .builtin "max" | .min1 => .builtin "min" | .max1 => .builtin "max" | .sum => .builtin "sum" | .abs => .builtin "abs"
  | .tup => .type "tuple" | .lst => .type "list" | .int => .type "int" | .any => .builtin "any" | .all => .builtin "all" | .sor => .builtin "sorted"

theorem minOf_spec : ∀ (ns : List Int) (m : Int), minOf ns = some m → m ∈ ns ∧ ∀ y ∈ ns, m ≤ y
  | [], m, h => by simp [minOf] at h
  | i :: r, m, h => by
    unfold minOf at h
    cases e : minOf r with
    | none =>
      rw [e] at h
      cases h
      have : r = [] := by
        cases r with
        | nil => rfl
        | cons a b =>
          unfold minOf at e
          split at e <;> cases e
      subst this
      simp
    | some k =>
      rw [e] at h
      simp only [Option.some.injEq] at h
      obtain ⟨h1, h2⟩ := minOf_spec r k e
      by_cases hk : k < i
      · rw [if_pos hk] at h
        subst h
        exact ⟨List.mem_cons_of_mem _ h1, fun y hy => by
          rcases List.mem_cons.mp hy with rfl | hy
          · omega
          · exact h2 y hy⟩
      · rw [if_neg hk] at h
        subst h
        exact ⟨List.mem_cons_self, fun y hy => by
          rcases List.mem_cons.mp hy with rfl | hy
          · omega
          · have := h2 y hy; omega⟩
theorem maxOf_spec : ∀ (ns : List Int) (m : Int), maxOf ns = some m → m ∈ ns ∧ ∀ y ∈ ns, y ≤ m
  | [], m, h => by simp [maxOf] at h
  | i :: r, m, h => by
    unfold maxOf at h
    cases e : maxOf r with
    | none =>
      rw [e] at h
      cases h
      have : r = [] := by
        cases r with
        | nil => rfl
        | cons a b =>
          unfold maxOf at e
          split at e <;> cases e
      subst this
      simp
    | some k =>
      rw [e] at h
      simp only [Option.some.injEq] at h
      obtain ⟨h1, h2⟩ := maxOf_spec r k e
      by_cases hk : i < k
      · rw [if_pos hk] at h
        subst h
        exact ⟨List.mem_cons_of_mem _ h1, fun y hy => by
          rcases List.mem_cons.mp hy with rfl | hy
          · omega
          · exact h2 y hy⟩
      · rw [if_neg hk] at h
        subst h
        exact ⟨List.mem_cons_self, fun y hy => by
          rcases List.mem_cons.mp hy with rfl | hy
          · omega
          · have := h2 y hy; omega⟩
theorem ins_perm (x : Int) : ∀ l : List Int, (insI x l).Perm (x :: l)
  | [] => .refl _
  | y :: r => by
    unfold insI
    by_cases h : x ≤ y
    · rw [if_pos h]
    · rw [if_neg h]
      exact ((ins_perm x r).cons y).trans (.swap x y r)
theorem sort_perm : ∀ l : List Int, (sortI l).Perm l
  | [] => .refl _
  | x :: r => (ins_perm x _).trans ((sort_perm r).cons x)
theorem ins_sorted (x : Int) : ∀ l : List Int, l.Pairwise (· ≤ ·) → (insI x l).Pairwise (· ≤ ·)
  | [], _ => by simp [insI]
  | y :: r, h => by
    unfold insI
    by_cases hx : x ≤ y
    · rw [if_pos hx]
      refine List.pairwise_cons.mpr ⟨fun z hz => ?_, h⟩
      rcases List.mem_cons.mp hz with rfl | hz
      · exact hx
      · have := (List.pairwise_cons.mp h).1 z hz; omega
    · rw [if_neg hx]
      refine List.pairwise_cons.mpr ⟨fun z hz => ?_, ins_sorted x r (List.pairwise_cons.mp h).2⟩
      rcases List.mem_cons.mp ((ins_perm x r).mem_iff.mp hz) with rfl | hz
      · omega
      · exact (List.pairwise_cons.mp h).1 z hz
theorem sort_sorted : ∀ l : List Int, (sortI l).Pairwise (· ≤ ·)
  | [] => .nil
  | x :: r => ins_sorted x _ (sort_sorted r)
theorem sorted_one {a b : List Int} (p : a.Perm b) (ha : a.Pairwise (· ≤ ·)) (hb : b.Pairwise (· ≤ ·)) : a = b :=
  p.eq_of_pairwise (le := fun x y => x ≤ y) (fun x y _ _ h1 h2 => by omega) ha hb
theorem reps_ints {Hs : Hp} : ∀ ns : List Int, Reps g Hs (ns.map V.int) (ns.map D.int)
  | [] => .nil
  | n :: ns => .cons (.int n) (reps_ints ns)

theorem ints_reps {Hs : Hp} : ∀ {vs : List V} {ds : List D} {ns : List Int}, Reps g Hs vs ds → intsOf ds = some ns → vs = ns.map V.int ∧ ds = ns.map D.int
  | _, _, ns, .nil, h => by cases h; exact ⟨rfl, rfl⟩
  | _, _, ns, .cons (d := d) (ds := ds) r t, h => by
    cases d <;> first | (simp only [intsOf, reduceCtorEq] at h; done) | skip
    rename_i i
    unfold intsOf at h
    cases e : intsOf ds with
    | none => rw [e] at h; cases h
    | some l =>
      rw [e] at h
      cases h
      obtain ⟨h1, h2⟩ := ints_reps t e
      cases r
      rw [h1, h2]
      exact ⟨rfl, rfl⟩
/-- rows, and where they stand -/
theorem rowsOf_reps {Hs : Hp} : ∀ {vs : List V} {ds : List D} {nss : List (List Int)}, Reps g Hs vs ds → rowsOf ds = some nss → ∃ ps : List (V × List Int), vs = ps.map (·.1) ∧ nss = ps.map (·.2) ∧ ∀ p ∈ ps, ∃ t, p.1 = V.ref t ∧ SqT g.K Hs t (p.2.map V.int) ∧ p.2 ≠ [] ∧ Rep g Hs p.1 (rowD p.2)
  | _, _, nss, .nil, h => by cases h; exact ⟨[], rfl, rfl, fun p hp => by cases hp⟩
  | _, _, nss, .cons (v := v) (d := d) (ds := ds) r t, h => by
    cases d <;> first | (simp only [rowsOf, reduceCtorEq] at h; done) | skip
    rename_i xs
    cases xs with
    | nil => simp only [rowsOf, reduceCtorEq] at h
    | cons x xs =>
      unfold rowsOf at h
      cases e1 : intsOf (x :: xs) with
      | none => rw [e1] at h; cases h
      | some ns =>
        cases e2 : rowsOf ds with
        | none => rw [e1, e2] at h; cases h
        | some l =>
          rw [e1, e2] at h
          cases h
          obtain ⟨ps, h1, h2, h3⟩ := rowsOf_reps t e2
          have r0 := r
          cases r with
          | tup s r1 =>
            obtain ⟨k1, k2⟩ := ints_reps r1 e1
            refine ⟨(_, ns) :: ps, by rw [List.map_cons, h1], by rw [List.map_cons, h2], fun p hp => ?_⟩
            rcases List.mem_cons.1 hp with rfl | hp
            · refine ⟨_, rfl, by rw [← k1]; exact .inl (.inl s), fun z => ?_, ?_⟩
              · have z : ns = [] := z
                rw [z] at k2; cases k2
              · unfold rowD; rw [← k2]; exact r0
            · exact h3 p hp
theorem reps_rows {Hs : Hp} : ∀ qs : List (V × List Int), (∀ p ∈ qs, ∃ t, p.1 = V.ref t ∧ SqT g.K Hs t (p.2.map V.int) ∧ p.2 ≠ [] ∧ Rep g Hs p.1 (rowD p.2)) → Reps g Hs (qs.map (·.1)) ((qs.map (·.2)).map rowD)
  | [], _ => .nil
  | q :: qs, h => by
    obtain ⟨_, _, _, _, r⟩ := h q List.mem_cons_self
    exact .cons r (reps_rows qs fun p hp => h p (List.mem_cons_of_mem _ hp))
theorem intsK_eq : ∀ {k : List L2.Key} {ns : List Int}, intsK k = some ns → k = ns.map Sum.inl
  | [], ns, h => by cases h; rfl
  | .inl i :: r, ns, h => by
    unfold intsK at h
    split at h
    · rename_i l e
      cases h
      rw [intsK_eq e]; rfl
    · cases h
  | .inr _ :: _, _, h => by cases h
theorem rowsK_eq : ∀ {ks : List (List L2.Key)} {nss : List (List Int)}, rowsK ks = some nss → ks = nss.map (List.map Sum.inl)
  | [], nss, h => by cases h; rfl
  | k :: r, nss, h => by
    unfold rowsK at h
    split at h
    · rename_i ns l e1 e2
      cases h
      rw [intsK_eq e1, rowsK_eq e2]; rfl
    · cases h
theorem BRep.dictT {Hs H : Hp} {v : V} {ks : List (List L2.Key)} {ds : List D} (b : BRep g Hs H v (.dcT ks ds)) (e : Same Hs H) : ∃ (p : Addr) (us : List V), v = .ref p ∧ H p = some (.dT (ks.zip us)) ∧ us.length = ks.length := by
  rcases b with b | ⟨p, vs, ds, _, h2, _⟩ | ⟨p, o, rfl, h2, h3⟩
  · cases b with
    | dcT s l r => exact ⟨_, _, rfl, e _ _ s, l⟩
  · cases h2
  · obtain ⟨us, rfl, l, _⟩ := h3
    exact ⟨p, us, rfl, h2, l⟩
theorem PR.ext' {d : D} {Q : VK} {Hs H Hs1 H1 : Hp} (h : PR g Hs H d Q) (e : Ext Hs H Hs1 H1) : PR g Hs1 H1 d Q := fun v Hs' H' e' f => h v Hs' H' (e.trans e') (by
  rcases f with f | ⟨p, vs, ds, k1, k2, k3, k4⟩
  · exact .inl f
  · exact .inr ⟨p, vs, ds, k1, k2, e.all.free k3, k4⟩)
theorem reps_keys {Hs H : Hp} (e : Same Hs H) : ∀ qs : List (V × List Int), (∀ p ∈ qs, ∃ t, p.1 = V.ref t ∧ H t = some (.tup (p.2.map V.int))) → Reps g (tupView Hs H) (qs.map (·.1)) ((qs.map (·.2)).map rowD)
  | [], _ => .nil
  | q :: qs, h => by
    obtain ⟨t, e1, e2⟩ := h q List.mem_cons_self
    refine .cons ?_ (reps_keys e qs fun p hp => h p (List.mem_cons_of_mem _ hp))
    show Rep g _ q.1 (rowD q.2)
    rw [e1]
    exact .tup (tupView_at e e2) (reps_ints _)
theorem headsOf_mem : ∀ {xs : List D} {ks : List Int}, headsOf xs = some ks → ∀ d ∈ xs, ∃ k, headD d = some k ∧ k ∈ ks
  | [], ks, h, d, hd => nomatch hd
  | x :: xs, ks, h, d, hd => by
    unfold headsOf at h
    cases e1 : headD x with
    | none => rw [e1] at h; cases h
    | some k =>
      cases e2 : headsOf xs with
      | none => rw [e1, e2] at h; cases h
      | some l =>
        rw [e1, e2] at h
        cases h
        rcases List.mem_cons.1 hd with rfl | hd
        · exact ⟨k, e1, List.mem_cons_self⟩
        · obtain ⟨k', h1, h2⟩ := headsOf_mem e2 d hd
          exact ⟨k', h1, List.mem_cons_of_mem _ h2⟩
theorem pickH_of : ∀ {xs : List D} {ks : List Int} {d : D} {k : Int}, headsOf xs = some ks → ks.Nodup → d ∈ xs → headD d = some k → pickH xs k = d
  | [], ks, d, k, h, _, hd, _ => nomatch hd
  | x :: xs, ks, d, k, h, nd, hd, hk => by
    unfold headsOf at h
    cases e1 : headD x with
    | none => rw [e1] at h; cases h
    | some k' =>
      cases e2 : headsOf xs with
      | none => rw [e1, e2] at h; cases h
      | some l =>
        rw [e1, e2] at h
        cases h
        rw [List.nodup_cons] at nd
        unfold pickH
        by_cases hkk : k' = k
        · subst hkk
          rw [List.find?_cons_of_pos (by rw [e1]; simp)]
          rcases List.mem_cons.1 hd with e | hd
          · rw [e]; rfl
          · obtain ⟨k2, h1, h2⟩ := headsOf_mem e2 d hd
            rw [hk] at h1
            cases h1
            exact (nd.1 h2).elim
        · rw [List.find?_cons_of_neg (by rw [e1]; simpa using hkk)]
          rcases List.mem_cons.1 hd with e | hd
          · rw [e, e1] at hk; cases hk; exact (hkk rfl).elim
          · exact pickH_of e2 nd.2 hd hk
theorem headsOf_reps {Hs : Hp} : ∀ {vs : List V} {ds : List D} {ks : List Int}, Reps g Hs vs ds → headsOf ds = some ks → ∃ ps : List (V × Int), vs = ps.map (·.1) ∧ ks = ps.map (·.2) ∧ ∀ p ∈ ps, ∃ t ws d, p.1 = V.ref t ∧ SqT g.K Hs t (.int p.2 :: ws) ∧ Rep g Hs p.1 d ∧ d ∈ ds ∧ headD d = some p.2
  | _, _, ks, .nil, h => by cases h; exact ⟨[], rfl, rfl, fun p hp => nomatch hp⟩
  | _, _, ks, .cons (v := v) (d := d) (ds := ds) r t, h => by
    unfold headsOf at h
    cases e1 : headD d with
    | none => rw [e1] at h; cases h
    | some k =>
      cases e2 : headsOf ds with
      | none => rw [e1, e2] at h; cases h
      | some l =>
        rw [e1, e2] at h
        cases h
        obtain ⟨ps, h1, h2, h3⟩ := headsOf_reps t e2
        refine ⟨(v, k) :: ps, by rw [List.map_cons, h1], by rw [List.map_cons, h2], fun p hp => ?_⟩
        rcases List.mem_cons.1 hp with rfl | hp
        · have r0 := r
          unfold headD at e1
          split at e1
          · rename_i k' xs
            cases e1
            cases r with
            | tup s r1 =>
              cases r1 with
              | cons r2 r3 =>
                cases r2
                exact ⟨_, _, _, rfl, .inl (.inl s), r0, List.mem_cons_self, rfl⟩
          · cases e1
        · obtain ⟨t', ws, d', k1, k2, k3, k4, k5⟩ := h3 p hp
          exact ⟨t', ws, d', k1, k2, k3, List.mem_cons_of_mem _ k4, k5⟩
theorem reps_heads {Hs : Hp} {f : Int → D} : ∀ qs : List (V × Int), (∀ p ∈ qs, Rep g Hs p.1 (f p.2)) → Reps g Hs (qs.map (·.1)) ((qs.map (·.2)).map f)
  | [], _ => .nil
  | q :: qs, h => .cons (h q List.mem_cons_self) (reps_heads qs fun p hp => h p (List.mem_cons_of_mem _ hp))
theorem bi_ok (hK : X.K = g.K) (hc : X.calm = true) (b : Bi) : CallR X (biVal b) (rDn g (biD b)) := by
  intro pins s σ H xs us Q I r h
  obtain ⟨Hs, ds, sub, bs, h⟩ := h
  unfold biD at h
  split at h <;> first | exact h.elim | skip
  · -- len
    obtain ⟨v, rfl, b1⟩ := bs.one
    obtain ⟨p, vs, rfl, s1, r1⟩ := b1.tuple sub
    rw [← hK] at s1
    rw [← r1.length] at h
    exact call_len_seq pins s σ H _ us Q I r ⟨p, vs, rfl, .inr s1, h.int sub⟩
  · obtain ⟨v, rfl, b1⟩ := bs.one
    obtain ⟨p, vs, rfl, s1, r1⟩ := b1.list sub
    rw [← hK] at s1
    rw [← r1.length] at h
    exact call_len_seq pins s σ H _ us Q I r ⟨p, vs, rfl, .inl s1, h.int sub⟩
  · obtain ⟨v, w, rfl, b1, b2⟩ := bs.two
    cases b1.rint; cases b2.rint
    exact call_min2 hc pins s σ H _ us Q I r ⟨_, _, rfl, h.int sub⟩
  · obtain ⟨v, w, rfl, b1, b2⟩ := bs.two
    cases b1.rint; cases b2.rint
    exact call_max2 hc pins s σ H _ us Q I r ⟨_, _, rfl, h.int sub⟩
  · obtain ⟨v, w, u, rfl, b1, b2, b3⟩ := bs.three
    cases b1.rint; cases b2.rint; cases b3.rint
    obtain ⟨u1, u2, u3, rfl, ⟨t1, rfl⟩, ⟨t2, rfl⟩, ⟨t3, rfl⟩⟩ := vals3 r
    refine min_three_ints (I.ok.hd hc) fun h' tk k => ⟨_, H, I.kept k, ?_, h.int sub⟩
    split <;> split <;> exact ⟨_, rfl⟩
  · obtain ⟨v, w, u, rfl, b1, b2, b3⟩ := bs.three
    cases b1.rint; cases b2.rint; cases b3.rint
    obtain ⟨u1, u2, u3, rfl, ⟨t1, rfl⟩, ⟨t2, rfl⟩, ⟨t3, rfl⟩⟩ := vals3 r
    refine max_three_ints (I.ok.hd hc) fun h' tk k => ⟨_, H, I.kept k, ?_, h.int sub⟩
    split <;> split <;> exact ⟨_, rfl⟩
  · -- sum
    obtain ⟨v, rfl, b1⟩ := bs.one
    split at h <;> first | exact h.elim | skip
    rename_i ns e
    obtain ⟨p, vs, rfl, s1, r1⟩ := b1.list sub
    obtain ⟨rfl, _⟩ := intsOf_reps r1 e
    rw [← hK] at s1
    exact cr_sum hc pins s σ H _ us Q I r ⟨p, ns, rfl, s1, h.int sub⟩
  · obtain ⟨v, rfl, b1⟩ := bs.one
    split at h <;> first | exact h.elim | skip
    rename_i ns e
    split at h <;> first | exact h.elim | skip
    rename_i m em
    obtain ⟨p, vs, rfl, s1, r1⟩ := b1.list sub
    obtain ⟨rfl, _⟩ := intsOf_reps r1 e
    rw [← hK] at s1
    obtain ⟨h1, h2⟩ := minOf_spec ns m em
    refine cr_min hc pins s σ H _ us Q I r ⟨p, ns, rfl, s1, List.length_pos_of_mem h1, fun m' h3 h4 => ?_⟩
    have e1 := h2 m' h3
    have e2 := h4 m h1
    have : m' = m := by omega
    subst this
    exact h.int sub
  · obtain ⟨v, rfl, b1⟩ := bs.one
    split at h <;> first | exact h.elim | skip
    rename_i ns e
    split at h <;> first | exact h.elim | skip
    rename_i m em
    obtain ⟨p, vs, rfl, s1, r1⟩ := b1.list sub
    obtain ⟨rfl, _⟩ := intsOf_reps r1 e
    rw [← hK] at s1
    obtain ⟨h1, h2⟩ := maxOf_spec ns m em
    refine cr_max hc pins s σ H _ us Q I r ⟨p, ns, rfl, s1, List.length_pos_of_mem h1, fun m' h3 h4 => ?_⟩
    have e1 := h2 m' h3
    have e2 := h4 m h1
    have : m' = m := by omega
    subst this
    exact h.int sub
  · obtain ⟨v, rfl, b1⟩ := bs.one
    cases b1.rint
    exact call_abs pins s σ H _ us Q I r ⟨_, rfl, h.int sub⟩
  · -- tuple
    obtain ⟨v, rfl, b1⟩ := bs.one
    obtain ⟨p, vs, rfl, s1, r1⟩ := b1.tuple sub
    rw [← hK] at s1
    refine call_tuple_of pins s σ H _ us Q I r ⟨p, vs, rfl, .inr ⟨s1, h _ Hs H (Ext.refl sub) (.inl ⟨?_, fun _ z => nomatch z⟩)⟩⟩
    exact b1.bare rfl
  · obtain ⟨v, rfl, b1⟩ := bs.one
    obtain ⟨p, vs, rfl, s1, r1⟩ := b1.list sub
    rw [← hK] at s1
    exact call_tuple_of pins s σ H _ us Q I r ⟨p, vs, rfl, .inl ⟨s1, PR.tuple h sub r1⟩⟩
  · obtain ⟨v, rfl, b1⟩ := bs.one
    obtain ⟨p, vs, rfl, s1, r1⟩ := b1.tuple sub
    rw [← hK] at s1
    exact call_list_of pins s σ H _ us Q I r ⟨p, vs, rfl, .inr s1, PR.list h sub r1⟩
  · obtain ⟨v, rfl, b1⟩ := bs.one
    obtain ⟨p, vs, rfl, s1, r1⟩ := b1.list sub
    rw [← hK] at s1
    exact call_list_of pins s σ H _ us Q I r ⟨p, vs, rfl, .inl s1, PR.list h sub r1⟩
  · obtain ⟨v, rfl, b1⟩ := bs.one
    cases b1.rint
    exact call_int1 pins s σ H _ us Q I r (.inl ⟨_, rfl, h.int sub⟩)
  · obtain ⟨v, rfl, b1⟩ := bs.one
    cases b1.rbl
    exact call_int1 pins s σ H _ us Q I r (.inr ⟨_, rfl, h.int sub⟩)
  · obtain ⟨v, rfl, b1⟩ := bs.one
    split at h <;> first | exact h.elim | skip
    rename_i ns e
    obtain ⟨p, vs, rfl, s1, r1⟩ := b1.list sub
    obtain rfl := blsOf_reps r1 e
    rw [← hK] at s1
    exact cr_any hc pins s σ H _ us Q I r ⟨p, ns, rfl, s1, h.bool sub⟩
  · obtain ⟨v, rfl, b1⟩ := bs.one
    split at h <;> first | exact h.elim | skip
    rename_i ns e
    obtain ⟨p, vs, rfl, s1, r1⟩ := b1.list sub
    obtain rfl := blsOf_reps r1 e
    rw [← hK] at s1
    exact cr_all hc pins s σ H _ us Q I r ⟨p, ns, rfl, s1, h.bool sub⟩
  · obtain ⟨v, rfl, b1⟩ := bs.one
    split at h
    case h_2 =>
      split at h
      case h_2 =>
        split at h <;> first | exact h.elim | skip
        rename_i ks e
        obtain ⟨hnd, h⟩ := holds_gd h
        have hnd := of_decide_eq_true hnd
        obtain ⟨p, vs, rfl, s1, r1⟩ := b1.list sub
        obtain ⟨ps, rfl, rfl, h3⟩ := headsOf_reps r1 e
        rw [← hK] at s1
        refine cr_sortedKs pins s σ H _ us Q I r ⟨p, ps, rfl, s1, fun q hq => ?_, hnd, fun qs q hp hs hq => ?_⟩
        · obtain ⟨t, ws, d, e1, e2, _⟩ := h3 q hq
          exact ⟨t, ws, e1, by rw [hK]; exact Same.sqT sub e2⟩
        · refine PR.list h sub ?_ q hq
          have e1 : qs.map (·.2) = sortI (ps.map (·.2)) := sorted_one ((hp.map _).trans (sort_perm _).symm) hs (sort_sorted _)
          rw [← e1]
          exact reps_heads qs fun z hz => by
            obtain ⟨t, ws, d, e1, e2, e3, e4, e5⟩ := h3 z (hp.mem_iff.1 hz)
            rw [pickH_of e hnd e4 e5]; exact e3
      rename_i nss e
      obtain ⟨p, vs, rfl, s1, r1⟩ := b1.list sub
      obtain ⟨ps, rfl, rfl, h3⟩ := rowsOf_reps r1 e
      rw [← hK] at s1
      refine cr_sortedTs pins s σ H _ us Q I r ⟨p, ps, rfl, s1, fun q hq => ?_, fun qs q hp hs hq => ?_⟩
      · obtain ⟨t, e1, e2, e3, _⟩ := h3 q hq
        exact ⟨t, e1, by rw [hK]; exact Same.sqT sub e2, e3⟩
      · refine PR.list h sub ?_ q hq
        rw [← hs]
        exact reps_rows qs fun z hz => (h3 z (hp.mem_iff.1 hz))
    rename_i ns e
    obtain ⟨p, vs, rfl, s1, r1⟩ := b1.list sub
    obtain ⟨rfl, _⟩ := intsOf_reps r1 e
    rw [← hK] at s1
    refine cr_sortedI pins s σ H _ us Q I r ⟨p, ns, rfl, s1, fun ns' q hp hs hq => ?_⟩
    have e1 : ns' = sortI ns := sorted_one (hp.trans (sort_perm ns).symm) hs (sort_sorted ns)
    subst e1
    exact PR.list h sub (reps_ints _) q hq
  · obtain ⟨v, rfl, b1⟩ := bs.one
    split at h <;> first | exact h.elim | skip
    rename_i ns e
    obtain ⟨p, vs, rfl, s1, r1⟩ := b1.tuple sub
    obtain ⟨rfl, _⟩ := intsOf_reps r1 e
    rw [← hK] at s1
    refine cr_sortedIT pins s σ H _ us Q I r ⟨p, ns, rfl, s1, fun ns' q hp hs hq => ?_⟩
    have e1 : ns' = sortI ns := sorted_one (hp.trans (sort_perm ns).symm) hs (sort_sorted ns)
    subst e1
    exact PR.list h sub (reps_ints _) q hq
  · obtain ⟨v, rfl, b1⟩ := bs.one
    split at h <;> first | exact h.elim | skip
    rename_i nss e
    obtain ⟨hne, h⟩ := holds_gd h
    obtain ⟨p, us', rfl, h1, h2⟩ := b1.dictT sub
    refine cr_sortedDT hc pins s σ H _ us Q I r ⟨p, _, nss, rfl, .inl h1, ?_, fun ns hn => ?_, fun qs q hq hs hp => ?_⟩
    · rw [List.map_fst_zip (by omega)]
      exact rowsK_eq e
    · have := List.all_eq_true.1 hne ns hn
      intro z
      rw [z] at this
      cases this
    · refine PR.list (PR.ext' h (Ext.tups sub)) (Ext.tups sub).sub ?_ q hp
      rw [← hs]
      exact reps_keys sub qs hq
end
end Dw

namespace Dw
open PySem PySem.Spec PyProof.Rows L2
section
variable {X : Cx} {g : G}
def tyName : Ty → String
  | .int => "int" | .bl => "bool" | .str => "str" | .tup => "tuple"
def kT : String → Ty → Bool
  | "int", .int => true
  | "bool", .int => true
  | "bool", .bl => true
  | "str", .str => true
  | "tuple", .tup => true
  | _, _ => false
theorem kit_non (t : Ty) : kitB "NoneType" (tyName t) = some (kT "NoneType" t) := by cases t <;> decide +kernel
theorem kit_int (t : Ty) : kitB "int" (tyName t) = some (kT "int" t) := by cases t <;> decide +kernel
theorem kit_bool (t : Ty) : kitB "bool" (tyName t) = some (kT "bool" t) := by cases t <;> decide +kernel
theorem kit_str (t : Ty) : kitB "str" (tyName t) = some (kT "str" t) := by cases t <;> decide +kernel
theorem kit_tuple (t : Ty) : kitB "tuple" (tyName t) = some (kT "tuple" t) := by cases t <;> decide +kernel
theorem kit_list (t : Ty) : kitB "list" (tyName t) = some (kT "list" t) := by cases t <;> decide +kernel
theorem isi_ok (hK : X.K = g.K) (t : Ty) {Hs H : Hp} {x : V} {d : D} {Q : VK} (sub : Same Hs H) (b : BRep g Hs H x d) (n : noIns d = true) (q : Q (.bl (tyD t d)) H) : rIsi X.K [x, .ty (tyName t)] H Q := by
  have fin : ∀ (a : String) (r : Bool), TyX X.K H x (.type a) → kitB a (tyName t) = some r → r = tyD t d → rIsi X.K [x, .ty (tyName t)] H Q := fun a r h1 h2 h3 =>
    ⟨x, .ty (tyName t), .type a, .type (tyName t), r, rfl, .ty _, h1, kit_ty h2, by rw [h3]; exact q⟩
  cases d with
  | non => cases b.rnon; exact fin "NoneType" _ (.base .non) (kit_non t) (by cases t <;> decide +kernel)
  | bl y => cases b.rbl; exact fin "bool" _ (.base (.bl _)) (kit_bool t) (by cases t <;> first | rfl | (unfold kT; rfl) | (simp only [kT, tyD]))
  | int i => cases b.rint; exact fin "int" _ (.base (.int _)) (kit_int t) (by cases t <;> first | rfl | (unfold kT; rfl) | (simp only [kT, tyD]))
  | str y => cases b.rstr; exact fin "str" _ (.base (.str _)) (kit_str t) (by cases t <;> first | rfl | (unfold kT; rfl) | (simp only [kT, tyD]))
  | tup ds =>
    obtain ⟨p, vs, rfl, s1, _⟩ := b.tuple sub
    rw [← hK] at s1
    have ty : TyX X.K H (.ref p) (.type "tuple") := by
      rcases s1 with (h | ⟨o, h⟩) | ⟨o, its, n, h1, h2, _⟩
      · exact .base (.tup h)
      · exact .fTuple h
      · exact .kTuple h1 h2
    exact fin "tuple" _ ty (kit_tuple t) (by cases t <;> first | rfl | (unfold kT; rfl) | (simp only [kT, tyD]))
  | lst ds =>
    obtain ⟨p, vs, rfl, s1, _⟩ := b.list sub
    rw [← hK] at s1
    have ty : TyX X.K H (.ref p) (.type "list") := by
      rcases s1 with (h | ⟨o, h⟩) | ⟨o, its, n, h1, h2, _⟩
      · exact .base (.lst h)
      · exact .base (.frz h)
      · exact .kList h1 h2
    exact fin "list" _ ty (kit_list t) (by cases t <;> first | rfl | (unfold kT; rfl) | (simp only [kT, tyD]))
  | ins c fs => cases n
  | dcK c fs => cases n
  | dcT c fs => cases n

/-! ### what is walked -/
/-- an iterator that gives the items -/
def WalkD (g : G) (Hs H : Hp) (J : It) (its : List D) : Prop := ∃ (Gd : Hp → Prop) (Y : Nat → Hp → V → Hp → Prop), Walk J its.length Gd Y ∧ (∀ H', Same Hs H' → Gd H') ∧
  ∀ i Hv Hc x H', i < its.length → Same Hs Hv → Same Hv Hc → Y i Hc x H' → ∃ Hv' d, its[i]? = some d ∧ Ext Hv Hc Hv' H' ∧ Rep g Hv' x d
theorem same_seqL {K : PySem.W.Frag} {Hs H : Hp} {a : Addr} {xs : List V} (e : Same Hs H) (h : SqL K Hs a xs) : SqL K H a xs := Same.seq e h
/-- a list or a tuple in view -/
theorem walk_seqL {Hs H : Hp} {a : Addr} {vs : List V} {ds : List D} (s : SqL g.K Hs a vs) (r : Reps g Hs vs ds) : WalkD g Hs H (Itl g.K a) ds := by
  refine ⟨fun H => SqL g.K H a vs, YAt vs, by rw [← r.length]; exact walk_list, fun H' e => Same.seq e s, fun i Hv Hc x H' hi e1 e2 y => ?_⟩
  obtain ⟨rfl, y⟩ := y
  obtain ⟨v, h1, h2⟩ := r.get (List.getElem?_eq_getElem hi)
  rw [y] at h1; cases h1
  exact ⟨Hv, _, List.getElem?_eq_getElem hi, Ext.refl e2, h2.mono e1⟩
theorem walk_seqT {Hs H : Hp} {a : Addr} {vs : List V} {ds : List D} (s : SqT g.K Hs a vs) (r : Reps g Hs vs ds) : WalkD g Hs H (Itt g.K a) ds := by
  refine ⟨fun H => SqT g.K H a vs, YAt vs, by rw [← r.length]; exact walk_tup, fun H' e => Same.sqT e s, fun i Hv Hc x H' hi e1 e2 y => ?_⟩
  obtain ⟨rfl, y⟩ := y
  obtain ⟨v, h1, h2⟩ := r.get (List.getElem?_eq_getElem hi)
  rw [y] at h1; cases h1
  exact ⟨Hv, _, List.getElem?_eq_getElem hi, Ext.refl e2, h2.mono e1⟩
theorem rgD_length : ∀ (n : Nat) (a : Int), (rgD a n).length = n
  | 0, _ => rfl
  | n + 1, a => by unfold rgD; rw [List.length_cons, rgD_length n]
theorem rgD_get : ∀ (n : Nat) (a : Int) (i : Nat), i < n → (rgD a n)[i]? = some (.int (a + i))
  | n + 1, a, 0, _ => by simp [rgD]
  | n + 1, a, i + 1, h => by
    unfold rgD
    rw [List.getElem?_cons_succ, rgD_get n (a + 1) i (by omega)]
    congr 2
    omega
theorem reps_rgN (H : Hp) : ∀ (n : Nat) (a : Int), Reps g H ((List.range n).map fun i : Nat => V.int (a + (i : Int))) (rgD a n)
  | 0, _ => .nil
  | n + 1, a => by
    rw [List.range_succ_eq_map, List.map_cons, List.map_map]
    unfold rgD
    have h := reps_rgN H n (a + 1)
    have e : ((fun i : Nat => V.int (a + (i : Int))) ∘ Nat.succ) = fun i : Nat => V.int (a + 1 + (i : Int)) := by
      funext i
      show V.int (a + ((i + 1 : Nat) : Int)) = _
      congr 1
      omega
    rw [e]
    refine .cons ?_ h
    have : a + ((0 : Nat) : Int) = a := by simp
    rw [this]
    exact .int a
theorem reps_rgV (H : Hp) (a b : Int) : Reps g H (rgV a b) (rgD a (b - a).toNat) := reps_rgN H _ a
theorem walk_rg {Hs H : Hp} {lo : Int} {n : Nat} : WalkD g Hs H (Itr lo n) (rgD lo n) := by
  refine ⟨fun _ => True, YFn fun i => .int (lo + i), by rw [rgD_length]; exact walk_range, fun _ _ => trivial, fun i Hv Hc x H' hi e1 e2 y => ?_⟩
  obtain ⟨rfl, rfl⟩ := y
  rw [rgD_length] at hi
  exact ⟨Hv, _, rgD_get n lo i hi, Ext.refl e2, .int _⟩
theorem rgS_length (c : Int) : ∀ (n : Nat) (a : Int), (rgS a c n).length = n
  | 0, _ => rfl
  | n + 1, a => by rw [rgS, List.length_cons, rgS_length c n]
theorem rgS_get (c : Int) : ∀ (n : Nat) (a : Int) (i : Nat), i < n → (rgS a c n)[i]? = some (.int (a + (i : Nat) * c))
  | 0, _, _, h => by omega
  | n + 1, a, 0, _ => by simp [rgS]
  | n + 1, a, i + 1, h => by
    rw [rgS, List.getElem?_cons_succ, rgS_get c n (a + c) i (by omega)]
    congr 2
    rw [Int.natCast_add, Int.add_mul]
    omega
theorem walk_rgs {Hs H : Hp} {lo c : Int} {n : Nat} : WalkD g Hs H (Itc lo c n) (rgS lo c n) := by
  refine ⟨fun _ => True, YFn fun i => .int (lo + (i : Nat) * c), by rw [rgS_length]; exact walk_rangeC, fun _ _ => trivial, fun i Hv Hc x H' hi e1 e2 y => ?_⟩
  obtain ⟨rfl, rfl⟩ := y
  rw [rgS_length] at hi
  exact ⟨Hv, _, rgS_get c n lo i hi, Ext.refl e2, .int _⟩
theorem rgN_ok {i j c : Int} (h1 : -(2 ^ 62) ≤ i) (h2 : i < 2 ^ 62) (h3 : -(2 ^ 62) ≤ j) (h4 : j < 2 ^ 62) (h5 : 0 < c) (h6 : c < 1073741824) : RgC i j c (rgN i j c) := by
  have hd : i < j → 0 ≤ (j - i - 1) / c ∧ (j - i - 1) / c ≤ j - i - 1 ∧ (j - i - 1) / c * c ≤ j - i - 1 := fun h => by
    have a := Int.ediv_nonneg (a := j - i - 1) (b := c) (by omega) (by omega)
    exact ⟨a, Int.ediv_le_self _ (by omega), Int.ediv_mul_le _ (by omega)⟩
  refine ⟨by omega, by omega, ?_, ?_⟩
  · unfold Builtin.Range.small Builtin.Range.rangeSize
    simp only [Builtin.Range.rangeFitsLong, Bool.and_eq_true, Bool.or_eq_true, decide_eq_true_eq, beq_iff_eq, show c > 0 from h5, if_true]
    split
    · rename_i h
      obtain ⟨a, b, d⟩ := hd h
      have e : ((j - i - 1) / c + 1) * c = (j - i - 1) / c * c + c := by rw [Int.add_mul, Int.one_mul]
      (try simp only [e])
      omega
    · omega
  · unfold Builtin.Range.rangeSize rgN
    simp only [show c > 0 from h5, if_true]
    split
    · rename_i h
      obtain ⟨a, b, d⟩ := hd h
      omega
    · rfl
theorem walk_rgr {Hs H : Hp} {lo : Int} {n : Nat} : WalkD g Hs H (Itc (lo + (n : Int) - 1) (-1) n) (rgD lo n).reverse := by
  refine ⟨fun _ => True, YFn fun i => .int (lo + (n : Int) - 1 + (i : Nat) * (-1)), by rw [List.length_reverse, rgD_length]; exact walk_rangeC, fun _ _ => trivial, fun i Hv Hc x H' hi e1 e2 y => ?_⟩
  obtain ⟨rfl, rfl⟩ := y
  rw [List.length_reverse, rgD_length] at hi
  refine ⟨Hv, _, ?_, Ext.refl e2, .int _⟩
  rw [List.getElem?_reverse (by rw [rgD_length]; exact hi), rgD_length, rgD_get n lo _ (by omega)]
  congr 2
  omega
/-- pairs: a new tuple each turn -/
theorem walk_pair {Hs H : Hp} {J : It} {its : List D} {n : Nat} {Gd : Hp → Prop} {xs ys : Nat → Option V} (hn : its.length = n) (w : Walk J n Gd (YPair xs ys)) (hG : ∀ H', Same Hs H' → Gd H')
    (h : ∀ i x y, i < n → xs i = some x → ys i = some y → ∃ d e, its[i]? = some (.tup [d, e]) ∧ Rep g Hs x d ∧ Rep g Hs y e) : WalkD g Hs H J its := by
  refine ⟨Gd, YPair xs ys, by rw [hn]; exact w, hG, fun i Hv Hc x H' hi e1 e2 y => ?_⟩
  obtain ⟨T, a, b, rfl, hT, rfl, h1, h2⟩ := y
  obtain ⟨d, e, h3, h4, h5⟩ := h i a b (by omega) h1 h2
  have nT : Hv T = none := e2.free hT
  exact ⟨_, _, h3, Ext.new e2 hT, .tup upd_same (.cons (h4.mono (e1.trans (same_upd nT))) (.cons (h5.mono (e1.trans (same_upd nT))) .nil))⟩
theorem zip_get {α β : Type} : ∀ (xs : List α) (ys : List β) (i : Nat) (x : α) (y : β), xs[i]? = some x → ys[i]? = some y → (xs.zip ys)[i]? = some (x, y)
  | a :: xs, b :: ys, 0, x, y, h1, h2 => by simp at h1 h2 ⊢; exact ⟨h1, h2⟩
  | a :: xs, b :: ys, i + 1, x, y, h1, h2 => by
    simp only [List.getElem?_cons_succ, List.zip_cons_cons] at h1 h2 ⊢
    exact zip_get xs ys i x y h1 h2
  | [], _, _, _, _, h1, _ => by simp at h1
  | _ :: _, [], _, _, _, _, h2 => by simp at h2
theorem walk_zipL {Hs H : Hp} {a b : Addr} {vs ws : List V} {ds es : List D} (s : SqL g.K Hs a vs) (r : Reps g Hs vs ds) (s2 : SqL g.K Hs b ws) (r2 : Reps g Hs ws es) : WalkD g Hs H (Itz g.K a b) ((ds.zip es).map fun p => .tup [p.1, p.2]) := by
  refine walk_pair (n := min vs.length ws.length) (by rw [List.length_map, List.length_zip, r.length, r2.length]) (walk_zip rfl) (fun H' e => ⟨Same.seq e s, Same.seq e s2⟩) fun i x y hi h1 h2 => ?_
  have l1 := r.length
  have l2 := r2.length
  obtain ⟨v, k1, k2⟩ := r.get (d := ds[i]'(by omega)) (List.getElem?_eq_getElem (by omega))
  obtain ⟨v', k3, k4⟩ := r2.get (d := es[i]'(by omega)) (List.getElem?_eq_getElem (by omega))
  rw [h1] at k1; cases k1
  rw [h2] at k3; cases k3
  exact ⟨_, _, by rw [List.getElem?_map, zip_get ds es i _ _ (List.getElem?_eq_getElem (by omega)) (List.getElem?_eq_getElem (by omega))]; rfl, k2, k4⟩
theorem walk_zT {K : PySem.W.Frag} {a b : Addr} {xs ys : List V} {n : Nat} (hn : n = min xs.length ys.length) : Walk (RZ.ItzT K a b) n (fun H => SqT K H a xs ∧ SqT K H b ys) (YPair (fun i => xs[i]?) (fun i => ys[i]?)) := by
  subst hn
  refine ⟨fun i _ hi q => ?_, fun _ q => ⟨xs, ys, q.1, q.2, by omega⟩, fun i H v H' _ q y => ?_⟩
  · have h1 : i < xs.length := by omega
    have h2 : i < ys.length := by omega
    exact ⟨xs, ys, xs[i], ys[i], q.1, q.2, by simp [h1], by simp [h2]⟩
  · obtain ⟨T, x, z, h1, h2, h3, h4, h5⟩ := y
    exact ⟨T, x, z, h1, h2, h3, h4 xs q.1, h5 ys q.2⟩
theorem walk_zipT {Hs H : Hp} {a b : Addr} {vs ws : List V} {ds es : List D} (s : SqT g.K Hs a vs) (r : Reps g Hs vs ds) (s2 : SqT g.K Hs b ws) (r2 : Reps g Hs ws es) : WalkD g Hs H (RZ.ItzT g.K a b) ((ds.zip es).map fun p => .tup [p.1, p.2]) := by
  refine walk_pair (n := min vs.length ws.length) (by rw [List.length_map, List.length_zip, r.length, r2.length]) (walk_zT rfl) (fun H' e => ⟨Same.sqT e s, Same.sqT e s2⟩) fun i x y hi h1 h2 => ?_
  have l1 := r.length
  have l2 := r2.length
  obtain ⟨v, k1, k2⟩ := r.get (d := ds[i]'(by omega)) (List.getElem?_eq_getElem (by omega))
  obtain ⟨v', k3, k4⟩ := r2.get (d := es[i]'(by omega)) (List.getElem?_eq_getElem (by omega))
  rw [h1] at k1; cases k1
  rw [h2] at k3; cases k3
  exact ⟨_, _, by rw [List.getElem?_map, zip_get ds es i _ _ (List.getElem?_eq_getElem (by omega)) (List.getElem?_eq_getElem (by omega))]; rfl, k2, k4⟩
theorem walk_enm {Hs H : Hp} {a : Addr} {vs : List V} {ds : List D} (s : SqL g.K Hs a vs) (r : Reps g Hs vs ds) : WalkD g Hs H (Ite g.K a) ((ds.zip (rgD 0 ds.length)).map fun p => .tup [p.2, p.1]) := by
  refine walk_pair (n := vs.length) (by rw [List.length_map, List.length_zip, rgD_length, r.length, Nat.min_self]) walk_enum (fun H' e => Same.seq e s) fun i x y hi h1 h2 => ?_
  have l1 := r.length
  obtain ⟨v, k1, k2⟩ := r.get (d := ds[i]'(by omega)) (List.getElem?_eq_getElem (by omega))
  rw [h2] at k1; cases k1
  cases h1
  refine ⟨.int (0 + (i : Int)), ds[i]'(by omega), ?_, ?_, k2⟩
  · rw [List.getElem?_map, zip_get ds (rgD 0 ds.length) i _ _ (List.getElem?_eq_getElem (by omega)) (rgD_get _ _ _ (by omega))]; rfl
  · rw [Int.zero_add]; exact .int _
theorem walk_enmT {Hs H : Hp} {a : Addr} {vs : List V} {ds : List D} (s : SqT g.K Hs a vs) (r : Reps g Hs vs ds) : WalkD g Hs H (IteT g.K a) ((ds.zip (rgD 0 ds.length)).map fun p => .tup [p.2, p.1]) := by
  refine walk_pair (n := vs.length) (by rw [List.length_map, List.length_zip, rgD_length, r.length, Nat.min_self]) walk_enumT (fun H' e => Same.sqT e s) fun i x y hi h1 h2 => ?_
  have l1 := r.length
  obtain ⟨v, k1, k2⟩ := r.get (d := ds[i]'(by omega)) (List.getElem?_eq_getElem (by omega))
  rw [h2] at k1; cases k1
  cases h1
  refine ⟨.int (0 + (i : Int)), ds[i]'(by omega), ?_, ?_, k2⟩
  · rw [List.getElem?_map, zip_get ds (rgD 0 ds.length) i _ _ (List.getElem?_eq_getElem (by omega)) (rgD_get _ _ _ (by omega))]; rfl
  · rw [Int.zero_add]; exact .int _
theorem walk_revL {Hs H : Hp} {a : Addr} {vs : List V} {ds : List D} (s : SqL g.K Hs a vs) (r : Reps g Hs vs ds) : WalkD g Hs H (Itv g.K a vs.length) ds.reverse := by
  refine ⟨fun H => SqL g.K H a vs, _, by rw [List.length_reverse, ← r.length]; exact walk_rev, fun H' e => Same.seq e s, fun i Hv Hc x H' hi e1 e2 y => ?_⟩
  obtain ⟨rfl, y⟩ := y
  rw [List.length_reverse] at hi
  have l1 := r.length
  obtain ⟨v, h1, h2⟩ := r.get (d := ds[vs.length - 1 - i]'(by omega)) (List.getElem?_eq_getElem (by omega))
  rw [y] at h1; cases h1
  refine ⟨Hv, _, ?_, Ext.refl e2, h2.mono e1⟩
  rw [List.getElem?_reverse hi, show ds.length - 1 - i = vs.length - 1 - i by omega]
  exact List.getElem?_eq_getElem (by omega)
theorem walk_rT {K : PySem.W.Frag} {a : Addr} {xs : List V} : Walk (RT.ItvT K a xs.length) xs.length (fun H => SqT K H a xs) (fun i H x H' => H' = H ∧ xs[xs.length - 1 - i]? = some x) :=
  ⟨fun i _ hi q => ⟨hi, xs, xs[xs.length - 1 - i]'(by omega), q, by simp [show xs.length - 1 - i < xs.length by omega]⟩, fun _ _ => Nat.le_refl _, fun _ _ _ _ _ q y => ⟨y.1, y.2 xs q⟩⟩
theorem walk_revT {Hs H : Hp} {a : Addr} {vs : List V} {ds : List D} (s : SqT g.K Hs a vs) (r : Reps g Hs vs ds) : WalkD g Hs H (RT.ItvT g.K a vs.length) ds.reverse := by
  refine ⟨fun H => SqT g.K H a vs, _, by rw [List.length_reverse, ← r.length]; exact walk_rT, fun H' e => Same.sqT e s, fun i Hv Hc x H' hi e1 e2 y => ?_⟩
  obtain ⟨rfl, y⟩ := y
  rw [List.length_reverse] at hi
  have l1 := r.length
  obtain ⟨v, h1, h2⟩ := r.get (d := ds[vs.length - 1 - i]'(by omega)) (List.getElem?_eq_getElem (by omega))
  rw [y] at h1; cases h1
  refine ⟨Hv, _, ?_, Ext.refl e2, h2.mono e1⟩
  rw [List.getElem?_reverse hi, show ds.length - 1 - i = vs.length - 1 - i by omega]
  exact List.getElem?_eq_getElem (by omega)
end
end Dw

namespace Dw
open PySem PySem.Spec PyProof.Rows L2

/-- a def of the text: its name, how many parameters, the last ones' defaults, whether a list that it hands back is new -/
structure FI where
  name : Str
  np : Nat
  ds : List D
  fr : Bool
  kp : List (Nat × List Str × List Nat)
structure Tab where
  fns : List (Nat × FI)
  cons : List (Str × D)
  exs : List (Nat × Str) := []
  cls : List (Nat × Str × List Str) := []
  mts : List (Str × Nat × Nat × Nat) := []
def Tab.fn (T : Tab) (i : Nat) : Option FI := T.fns.lookup i

/-! ### shapes of the syntax -/
def tyStr : Ty → Str
  | .int => "int" | .bl => "bool" | .str => "str" | .tup => "tuple"
def visB (sc : Scope) (x : Str) : Bool := match sc.names.lookup x with
  | some .local => true
  | some .cell => true
  | some .free => true
  | _ => false
def glB (sc : Scope) (x : Str) : Bool := match sc.names.lookup x with
  | some .globalImplicit => true
  | _ => false
def nmOk (N : List Str) (sc : Scope) (i : Nat) : Expr → Bool
  | .Name x _ => decide (N[i]? = some x) && visB sc x && !(x == ("__debug__" : Str)) && !(x == ("__classdict__" : Str))
  | _ => false
def glOk (sc : Scope) (x : Str) : Expr → Bool
  | .Name y _ => decide (y = x) && glB sc y && !(y == ("__debug__" : Str)) && !decide (y = "__name__")
  | _ => false
def notStar : Expr → Bool
  | .Starred _ _ => false
  | _ => true
def notSet : Expr → Bool
  | .Set _ _ _ => false
  | _ => true
def notSlice : Expr → Bool
  | .Slice _ _ _ _ => false
  | _ => true
def notIf : Expr → Bool
  | .IfExp _ _ _ _ => false
  | _ => true
def isBoolOp : Expr → Bool
  | .BoolOp _ _ _ => true
  | _ => false
def plainT : Expr → Bool
  | .UnaryOp .Not _ _ => false
  | .BoolOp _ _ _ => false
  | .IfExp _ _ _ _ => false
  | .Compare _ _ _ _ => false
  | _ => true
def conOk : D → Const → Bool
  | .int i, .int j => decide (i = j)
  | .bl b, .bool c => decide (b = c)
  | .non, .none => true
  | .str x, .str y => decide (x = y)
  | _, _ => false
def isBor : Ex → Bool
  | .bor _ => true
  | _ => false
/-- a list that it gives is new -/
def isFr (T : Tab) : Ex → Bool
  | .con _ => true
  | .bin _ _ _ => true
  | .neg _ => true
  | .nt _ => true
  | .cmp _ _ _ => true
  | .chain _ _ _ _ _ => true
  | .tup _ => true
  | .lst _ => true
  | .slc _ _ _ => true
  | .rvs _ _ => true
  | .lrg _ _ => true
  | .call f _ _ => match T.fn f with
    | some fi => fi.fr
    | none => false
  | .callk f _ _ _ _ => match T.fn f with
    | some fi => fi.fr
    | none => false
  | .bi _ _ => true
  | .isi _ _ => true
  | .comp _ _ _ _ _ => true
  | _ => false
/-- the names of a target and their places -/
def ownOf : Expr → List Nat → Option (List (Str × Nat))
  | .Name x _, [i] => some [(x, i)]
  | .Tuple es _ _, i :: j :: is => ownsOf es (i :: j :: is)
  | _, _ => none
where ownsOf : List Expr → List Nat → Option (List (Str × Nat))
  | [], [] => some []
  | .Name x _ :: es, i :: is => match ownsOf es is with
    | some r => some ((x, i) :: r)
    | none => none
  | _, _ => none
def twoUp : List Nat → Bool
  | _ :: _ :: _ => true
  | _ => false
/-- the block's scope names its own names as locals -/
def locAll (sc : Scope) : List (Str × Nat) → Bool
  | [] => true
  | (x, _) :: r => (match sc.names.lookup x with
    | some .local => true
    | _ => false) && locAll sc r
def isTupE : Expr → Bool
  | .Tuple _ _ _ => true
  | _ => false
def ikOk : Ik → Expr → Bool
  | .zip, tg => isTupE tg
  | .enm, tg => isTupE tg
  | _, _ => true
def ikName : Ik → Str
  | .rng1 => "range" | .rng2 => "range" | .rng3 => "range" | .enm => "enumerate" | .zip => "zip" | .rev => "reversed" | .rvr1 => "reversed" | .rvr2 => "reversed" | .seq => ""
def isNil {α : Type} : List α → Bool
  | [] => true
  | _ => false

mutual
def sameD : D → D → Bool
  | .non, .non => true
  | .bl a, .bl b => decide (a = b)
  | .int i, .int j => decide (i = j)
  | .str x, .str y => decide (x = y)
  | .tup xs, .tup ys => sameDs xs ys
  | .lst xs, .lst ys => sameDs xs ys
  | _, _ => false
def sameDs : List D → List D → Bool
  | [], [] => true
  | x :: xs, y :: ys => sameD x y && sameDs xs ys
  | _, _ => false
end
mutual
theorem sameD_eq : ∀ a b : D, sameD a b = true → a = b
  | .non, b, h => by cases b <;> simp_all [sameD]
  | .bl _, b, h => by cases b <;> simp_all [sameD]
  | .int _, b, h => by cases b <;> simp_all [sameD]
  | .str _, b, h => by cases b <;> simp_all [sameD]
  | .tup xs, b, h => by
    cases b <;> simp only [sameD, Bool.false_eq_true] at h
    rw [sameDs_eq xs _ h]
  | .lst xs, b, h => by
    cases b <;> simp only [sameD, Bool.false_eq_true] at h
    rw [sameDs_eq xs _ h]
  | .ins _ _, b, h => by cases b <;> simp only [sameD, Bool.false_eq_true] at h
  | .dcK _ _, b, h => by cases b <;> simp only [sameD, Bool.false_eq_true] at h
  | .dcT _ _, b, h => by cases b <;> simp only [sameD, Bool.false_eq_true] at h
theorem sameDs_eq : ∀ a b : List D, sameDs a b = true → a = b
  | [], [], _ => rfl
  | [], _ :: _, h => by simp only [sameDs, Bool.false_eq_true] at h
  | _ :: _, [], h => by simp only [sameDs, Bool.false_eq_true] at h
  | x :: xs, y :: ys, h => by
    simp only [sameDs, Bool.and_eq_true] at h
    rw [sameD_eq x y h.1, sameDs_eq xs ys h.2]
end
def asCon : Expr → Option Const
  | .Constant c _ _ => some c
  | _ => none
def asNm : Expr → Option Str
  | .Name x _ => some x
  | _ => none
def asBin : Expr → Option (Expr × Operator × Expr)
  | .BinOp a o b _ => some (a, o, b)
  | _ => none
def asNeg : Expr → Option Expr
  | .UnaryOp .USub a _ => some a
  | _ => none
def asNot : Expr → Option Expr
  | .UnaryOp .Not a _ => some a
  | _ => none
def asCmp1 : Expr → Option (Expr × CmpOp × Expr)
  | .Compare a [o] [b] _ => some (a, o, b)
  | _ => none
def asCmp2 : Expr → Option (Expr × CmpOp × Expr × CmpOp × Expr)
  | .Compare a [o, p] [b, c] _ => some (a, o, b, p, c)
  | _ => none
def asAnd : Expr → Option (Expr × Expr × List Expr × Pos)
  | .BoolOp .And (a :: b :: r) p => some (a, b, r, p)
  | _ => none
def asOr : Expr → Option (Expr × Expr × List Expr × Pos)
  | .BoolOp .Or (a :: b :: r) p => some (a, b, r, p)
  | _ => none
def asIf : Expr → Option (Expr × Expr × Expr)
  | .IfExp c a b _ => some (c, a, b)
  | _ => none
def asTup : Expr → Option (List Expr)
  | .Tuple xs _ _ => some xs
  | _ => none
def asLst : Expr → Option (List Expr)
  | .List xs _ => some xs
  | _ => none
def asSub : Expr → Option (Expr × Expr)
  | .Subscript a b _ => some (a, b)
  | _ => none
def asSlc : Expr → Option (Option Expr × Option Expr)
  | .Slice l h none _ => some (l, h)
  | _ => none
def asRvs : Expr → Option Expr
  | .Subscript e (.Slice none none (some (.UnaryOp .USub (.Constant (.int 1) _ _) _)) _) _ => some e
  | _ => none
def asCall : Expr → Option (Expr × List Expr)
  | .Call f xs [] _ => some (f, xs)
  | _ => none
/-- a call with keywords -/
def asCallK : Expr → Option (Expr × List Expr × List Keyword)
  | .Call f xs (k :: r) _ => some (f, xs, k :: r)
  | _ => none
def kwNames : List Keyword → Option (List Str)
  | [] => some []
  | ⟨some n, _, _⟩ :: r => match kwNames r with
    | some l => some (n :: l)
    | none => none
  | ⟨none, _, _⟩ :: _ => none
def kwVals (ks : List Keyword) : List Expr := ks.map (·.value)
def asComp : Expr → Option (Expr × Expr × Expr × List Expr × Scope)
  | .ListComp ee [⟨te, iter, ifs, 0⟩] cs _ => some (ee, te, iter, ifs, cs)
  | _ => none
def asAttr : Expr → Option (Expr × Str)
  | .Attribute o f _ => some (o, f)
  | _ => none
/-- o.m(args) on one line -/
def asMth : Expr → Option (Expr × Str × List Expr)
  | .Call (.Attribute o m ap) xs [] cp => if (ap.endLine == cp.line) = true then some (o, m, xs) else none
  | _ => none
def notCall : Expr → Bool
  | .Call _ [] _ _ => false
  | _ => true
def isRep : Bop → Bool
  | .rep => true
  | _ => false
def isMult : Operator → Bool
  | .Mult => true
  | _ => false
/-- an own list is walked -/
def borOk (N : List Str) (sc : Scope) : Ik → List Ex → Expr → Bool
  | .seq, [.bor i], e => nmOk N sc i e
  | _, _, _ => false
mutual
def chkE (T : Tab) (N : List Str) : Ex → Scope → Expr → Bool
  | .var i, sc, e => nmOk N sc i e
  | .bor i, sc, e => nmOk N sc i e
  | .con d, _, e => match asCon e with
    | some c => conOk d c
    | none => false
  | .glb d, sc, e => match asNm e with
    | some x => glB sc x && !(x == ("__debug__" : Str)) && T.cons.any fun p => decide (p.1 = x) && sameD p.2 d
    | none => false
  | .bin op a b, sc, e => match asBin e with
    | some (ea, o, eb) => (match isRep op with
      | true => isMult o && isFr T a
      | false => bopOk op o) && chkE T N a sc ea && chkE T N b sc eb
    | none => false
  | .neg a, sc, e => match asNeg e with
    | some ea => chkE T N a sc ea
    | none => false
  | .nt a, sc, e => match asNot e with
    | some ea => chkE T N a sc ea && notIf ea && !isBor a
    | none => false
  | .cmp op a b, sc, e => match asCmp1 e with
    | some (ea, o, eb) => copOk op o && notSet eb && chkE T N a sc ea && chkE T N b sc eb
    | none => false
  | .chain o p a b c, sc, e => match asCmp2 e with
    | some (ea, oa, eb, ob, ec) => copOk o oa && copOk p ob && notSet ec && chkE T N a sc ea && chkE T N b sc eb && chkE T N c sc ec && !isBor b
    | none => false
  | .and a b, sc, e => match asAnd e with
    | some (ea, eb, rest, pos) => chkE T N a sc ea && notIf ea && !isBor a && !isBor b && (match rest with
      | [] => chkE T N b sc eb && notIf eb
      | _ :: _ => chkE T N b sc (.BoolOp .And (eb :: rest) pos))
    | none => false
  | .or a b, sc, e => match asOr e with
    | some (ea, eb, rest, pos) => chkE T N a sc ea && notIf ea && !isBor a && !isBor b && (match rest with
      | [] => chkE T N b sc eb && notIf eb
      | _ :: _ => chkE T N b sc (.BoolOp .Or (eb :: rest) pos))
    | none => false
  | .ite c a b, sc, e => match asIf e with
    | some (ec, ea, eb) => chkE T N c sc ec && notIf ec && !isBor c && chkE T N a sc ea && !isBor a && chkE T N b sc eb && !isBor b
    | none => false
  | .tup es, sc, e => match asTup e with
    | some xs => chkL T N es sc xs && !lends es && decide (xs.length ≤ 1000)
    | none => false
  | .lst es, sc, e => match asLst e with
    | some xs => chkL T N es sc xs && !lends es && decide (xs.length ≤ 1000)
    | none => false
  | .idx a b, sc, e => match asSub e with
    | some (ea, eb) => chkE T N a sc ea && chkE T N b sc eb && notSlice eb
    | none => false
  | .slc a lo hi, sc, e => match asSub e with
    | some (ea, eb) => match asSlc eb with
      | some (l, h) => chkE T N a sc ea && chkO T N lo sc l && chkO T N hi sc h
      | none => false
    | none => false
  | .rvs false a, sc, e => match asRvs e with
    | some ea => chkE T N a sc ea
    | none => false
  | .rvs true a, sc, e => match asCall e with
    | some (fe, [r]) => match asCall r with
      | some (fr, [x]) => glOk sc "list" fe && glOk sc "reversed" fr && chkE T N a sc x && notStar x
      | _ => false
    | _ => false
  | .lrg a b, sc, e => match asCall e with
    | some (fe, [r]) => match asCall r with
      | some (fr, [x, y]) => glOk sc "list" fe && glOk sc "range" fr && chkE T N a sc x && notStar x && !isBor a && chkE T N b sc y && notStar y && !isBor b
      | _ => false
    | _ => false
  | .call f es dfl, sc, e => match asCall e with
    | some (fe, xs) => (match T.fn f with
      | some fi => glOk sc fi.name fe && decide (xs.length ≤ fi.np) && decide (xs.length + dfl.length = fi.np) && decide (dfl.length ≤ fi.ds.length) && sameDs (fi.ds.drop (fi.ds.length - dfl.length)) dfl
      | none => false) && !isNil xs && chkL T N es sc xs
    | none => false
  | .callk f es ks dfl ord, sc, e => match asCallK e with
    | some (fe, xs, kws) => (match T.fn f with
      | some fi => glOk sc fi.name fe && (match kwNames kws with
        | some kn => fi.kp.contains (xs.length, kn, ord)
        | none => false) && sameDs fi.ds dfl
      | none => false) && !isNil xs && (chkL T N es sc xs && !lends es) && chkL T N ks sc (kwVals kws) && !lends ks
    | none => false
  | .bi b es, sc, e => match asCall e with
    | some (fe, xs) => glOk sc (biName b) fe && !isNil xs && chkL T N es sc xs
    | none => false
  | .isi a t, sc, e => match asCall e with
    | some (fe, [xa, ty]) => glOk sc "isinstance" fe && glOk sc (tyStr t) ty && chkE T N a sc xa && notStar xa
    | _ => false
  | .fld tbl a, sc, e => match asAttr e with
    | some (o, f) => chkE T N a sc o && !isBor a && notCall o && tbl.all fun q => T.cls.any fun k => k.1 == q.1 && decide (k.2.2[q.2]? = some f)
    | none => false
  | .mth tbl a es, sc, e => match asMth e with
    | some (o, m, xs) => chkE T N a sc o && !isBor a && notCall o && !isNil tbl && (tbl.all fun q => T.mts.contains (m, q.1, q.2, xs.length + 1)) && chkL T N es sc xs && !lends es && decide (xs.length < 20)
    | none => false
  | .mk c n es, sc, e => match asCall e with
    | some (fe, xs) => (T.cls.any fun k => k.1 == c && glOk sc k.2.1 fe && decide (k.2.2.length = n)) && decide (xs.length = n) && chkL T N es sc xs && !lends es
    | none => false
  | .comp elt tg k es cond, sc, e => match asComp e with
    | some (ee, te, iter, ifs, cs) => (match ownOf te tg with
      | some own => blkC N sc cs own && decide (own.map (·.2) = tg) && locAll (relS cs sc) own
      | none => false) && (borOk N sc k es iter || chkI T N k es sc te iter) && notSet iter && chkE T N elt (relS cs sc) ee && !isBor elt && chkC T N cond (relS cs sc) ifs
    | none => false
def chkL (T : Tab) (N : List Str) : List Ex → Scope → List Expr → Bool
  | [], _, [] => true
  | x :: xs, sc, e :: es => chkE T N x sc e && notStar e && chkL T N xs sc es
  | _, _, _ => false
def chkO (T : Tab) (N : List Str) : Option Ex → Scope → Option Expr → Bool
  | none, _, none => true
  | some x, sc, some e => chkE T N x sc e && !isBor x
  | _, _, _ => false
def chkC (T : Tab) (N : List Str) : Option Ex → Scope → List Expr → Bool
  | none, _, [] => true
  | some x, sc, [e] => chkE T N x sc e && notIf e && !isBor x
  | _, _, _ => false
def chkI (T : Tab) (N : List Str) : Ik → List Ex → Scope → Expr → Expr → Bool
  | .seq, [x], sc, _, e => chkE T N x sc e && !isBor x
  | .rng1, [x], sc, _, e => match asCall e with
    | some (fe, [a]) => glOk sc "range" fe && chkE T N x sc a && notStar a && !isBor x
    | _ => false
  | .rng2, [x, y], sc, _, e => match asCall e with
    | some (fe, [a, b]) => glOk sc "range" fe && chkE T N x sc a && notStar a && chkE T N y sc b && notStar b && !isBor x && !isBor y
    | _ => false
  | .rng3, [x, y, z], sc, _, e => match asCall e with
    | some (fe, [a, b, c]) => glOk sc "range" fe && chkE T N x sc a && notStar a && chkE T N y sc b && notStar b && chkE T N z sc c && notStar c && !isBor x && !isBor y && !isBor z
    | _ => false
  | .zip, [x, y], sc, tg, e => match asCall e with
    | some (fe, [a, b]) => isTupE tg && glOk sc "zip" fe && chkE T N x sc a && notStar a && chkE T N y sc b && notStar b && !isBor x && !isBor y
    | _ => false
  | .enm, [x], sc, tg, e => match asCall e with
    | some (fe, [a]) => isTupE tg && glOk sc "enumerate" fe && chkE T N x sc a && notStar a && !isBor x
    | _ => false
  | .rev, [x], sc, _, e => match asCall e with
    | some (fe, [a]) => glOk sc "reversed" fe && chkE T N x sc a && notStar a && !isBor x
    | _ => false
  | .rvr1, [x], sc, _, e => match asCall e with
    | some (fe, [r]) => match asCall r with
      | some (fr, [a]) => glOk sc "reversed" fe && glOk sc "range" fr && chkE T N x sc a && notStar a && !isBor x
      | _ => false
    | _ => false
  | .rvr2, [x, y], sc, _, e => match asCall e with
    | some (fe, [r]) => match asCall r with
      | some (fr, [a, b]) => glOk sc "reversed" fe && glOk sc "range" fr && chkE T N x sc a && notStar a && chkE T N y sc b && notStar b && !isBor x && !isBor y
      | _ => false
    | _ => false
  | _, _, _, _, _ => false
end

theorem asCon_eq {e : Expr} {c : Const} (h : asCon e = some c) : ∃ j p, e = .Constant c j p := by
  cases e <;> first | (cases h; exact ⟨_, _, rfl⟩) | cases h
theorem asNm_eq {e : Expr} {c : Str} (h : asNm e = some c) : ∃ p, e = .Name c p := by
  cases e <;> first | (cases h; exact ⟨_, rfl⟩) | cases h
theorem asBin_eq {e a b : Expr} {o : Operator} (h : asBin e = some (a, o, b)) : ∃ p, e = .BinOp a o b p := by
  cases e <;> first | (cases h; exact ⟨_, rfl⟩) | cases h
theorem asNeg_eq {e a : Expr} (h : asNeg e = some a) : ∃ p, e = .UnaryOp .USub a p := by
  unfold asNeg at h; split at h <;> first | (cases h; exact ⟨_, rfl⟩) | cases h
theorem asNot_eq {e a : Expr} (h : asNot e = some a) : ∃ p, e = .UnaryOp .Not a p := by
  unfold asNot at h; split at h <;> first | (cases h; exact ⟨_, rfl⟩) | cases h
theorem asCmp1_eq {e a b : Expr} {o : CmpOp} (h : asCmp1 e = some (a, o, b)) : ∃ p, e = .Compare a [o] [b] p := by
  unfold asCmp1 at h; split at h <;> first | (cases h; exact ⟨_, rfl⟩) | cases h
theorem asCmp2_eq {e a b c : Expr} {o q : CmpOp} (h : asCmp2 e = some (a, o, b, q, c)) : ∃ p, e = .Compare a [o, q] [b, c] p := by
  unfold asCmp2 at h; split at h <;> first | (cases h; exact ⟨_, rfl⟩) | cases h
theorem asAnd_eq {e a b : Expr} {r : List Expr} {p : Pos} (h : asAnd e = some (a, b, r, p)) : e = .BoolOp .And (a :: b :: r) p := by
  unfold asAnd at h; split at h <;> first | (cases h; rfl) | cases h
theorem asOr_eq {e a b : Expr} {r : List Expr} {p : Pos} (h : asOr e = some (a, b, r, p)) : e = .BoolOp .Or (a :: b :: r) p := by
  unfold asOr at h; split at h <;> first | (cases h; rfl) | cases h
theorem asIf_eq {e a b c : Expr} (h : asIf e = some (c, a, b)) : ∃ p, e = .IfExp c a b p := by
  cases e <;> first | (cases h; exact ⟨_, rfl⟩) | cases h
theorem asTup_eq {e : Expr} {c : List Expr} (h : asTup e = some c) : ∃ k p, e = .Tuple c k p := by
  cases e <;> first | (cases h; exact ⟨_, _, rfl⟩) | cases h
theorem asLst_eq {e : Expr} {c : List Expr} (h : asLst e = some c) : ∃ p, e = .List c p := by
  cases e <;> first | (cases h; exact ⟨_, rfl⟩) | cases h
theorem asSub_eq {e a b : Expr} (h : asSub e = some (a, b)) : ∃ p, e = .Subscript a b p := by
  cases e <;> first | (cases h; exact ⟨_, rfl⟩) | cases h
theorem asRvs_eq {e x : Expr} (h : asRvs e = some x) : ∃ k p1 p2 p3 p, e = .Subscript x (.Slice none none (some (.UnaryOp .USub (.Constant (.int 1) k p1) p2)) p3) p := by
  unfold asRvs at h; split at h <;> first | (cases h; exact ⟨_, _, _, _, _, rfl⟩) | cases h
theorem asSlc_eq {e : Expr} {a b : Option Expr} (h : asSlc e = some (a, b)) : ∃ p, e = .Slice a b none p := by
  unfold asSlc at h; split at h <;> first | (cases h; exact ⟨_, rfl⟩) | cases h
theorem asCall_eq {e f : Expr} {xs : List Expr} (h : asCall e = some (f, xs)) : ∃ p, e = .Call f xs [] p := by
  unfold asCall at h; split at h <;> first | (cases h; exact ⟨_, rfl⟩) | cases h
theorem asAttr_eq {e o : Expr} {f : Str} (h : asAttr e = some (o, f)) : ∃ p, e = .Attribute o f p := by
  unfold asAttr at h; split at h <;> first | (cases h; exact ⟨_, rfl⟩) | cases h
theorem asMth_eq {e o : Expr} {m : Str} {xs : List Expr} (h : asMth e = some (o, m, xs)) : ∃ ap cp, e = .Call (.Attribute o m ap) xs [] cp ∧ (ap.endLine == cp.line) = true := by
  unfold asMth at h
  split at h
  · split at h
    · cases h; exact ⟨_, _, rfl, by assumption⟩
    · cases h
  · cases h
theorem asComp_eq {e ee te iter : Expr} {ifs : List Expr} {cs : Scope} (h : asComp e = some (ee, te, iter, ifs, cs)) : ∃ p, e = .ListComp ee [⟨te, iter, ifs, 0⟩] cs p := by
  unfold asComp at h; split at h <;> first | (cases h; exact ⟨_, rfl⟩) | cases h
end Dw

namespace Dw
open PySem PySem.Spec PyProof.Rows L2
section
variable {g : G} {Hs H Hs1 H1 : Hp}
def EXc (g : G) (E : XK) (Hs H : Hp) (c : Nat) : Prop := ∀ Hs' H', Ext Hs H Hs' H' → E (.ref (g.xa c)) none H'
theorem EXc.ext {E : XK} {c : Nat} (h : EXc g E Hs H c) (e : Ext Hs H Hs1 H1) : EXc g E Hs1 H1 c := fun Hs' H' e' => h Hs' H' (e.trans e')
theorem PR.ext {d : D} {Q : VK} (h : PR g Hs H d Q) (e : Ext Hs H Hs1 H1) : PR g Hs1 H1 d Q := fun v Hs' H' e' f => h v Hs' H' (e.trans e') (by
  rcases f with f | ⟨p, vs, ds, k1, k2, k3, k4⟩
  · exact .inl f
  · exact .inr ⟨p, vs, ds, k1, k2, e.all.free k3, k4⟩)
theorem PV.ext {d : D} {Q : VK} (h : PV g Hs H d Q) (e : Ext Hs H Hs1 H1) : PV g Hs1 H1 d Q := fun v Hs' H' e' f => h v Hs' H' (e.trans e') f
theorem PO'.ext {d : D} {Q : VK} (h : PO' g Hs H d Q) (e : Ext Hs H Hs1 H1) : PO' g Hs1 H1 d Q := fun v Hs' H' e' f => h v Hs' H' (e.trans e') f
theorem PV.toR {d : D} {Q : VK} (h : PV g Hs H d Q) : PR g Hs H d Q := fun v Hs' H' e f => let ⟨Hs'', e2, r⟩ := f.seen e; h v Hs'' H' e2 r
theorem PO'.toR {d : D} {Q : VK} (h : PO' g Hs H d Q) : PR g Hs H d Q := fun v Hs' H' e f => h v Hs' H' e f.b
theorem PO'.toV {d : D} {Q : VK} (h : PO' g Hs H d Q) : PV g Hs H d Q := fun v Hs' H' e f => h v Hs' H' e (.inl f)
theorem PR.mono {d : D} {Q Q' : VK} (h : PR g Hs H d Q) (k : ∀ v H', Q v H' → Q' v H') : PR g Hs H d Q' := fun v Hs' H' e f => k v H' (h v Hs' H' e f)
end

section
variable (g : G) (F : Fs) (H0 : Hp) (E : XK)
def tM (post : Hp → Hp → D → VK → Prop) (x : Ex) : TE := fun σ H Q => ∃ ρ Hs, RE g H0 Hs H ρ σ ∧ holds (evE F x ρ) (fun d => post Hs H d Q) (EXc g E Hs H)
abbrev tE (x : Ex) : TE := tM g F H0 E (PV g) x
abbrev tO (x : Ex) : TE := tM g F H0 E (PO' g) x
abbrev tR (x : Ex) : TE := tM g F H0 E (PR g) x
def tT (x : Ex) : TT := fun σ H Q => ∃ ρ Hs, RE g H0 Hs H ρ σ ∧ holds (evE F x ρ) (fun d => ∃ b, d = .bl b ∧ ∀ Hs' H', Ext Hs H Hs' H' → Q b H') (EXc g E Hs H)
def tA (es : List Ex) : TA := fun σ H Q => ∃ ρ Hs, RE g H0 Hs H ρ σ ∧ holds (evL F es ρ) (fun ds => ∀ vs Hs' H', Ext Hs H Hs' H' → BReps g Hs' H' vs ds → (lends es = false → Reps g Hs' vs ds) → Q vs H') (EXc g E Hs H)
def tOp' (x : Option Ex) : TO := fun σ H Q => ∃ ρ Hs, RE g H0 Hs H ρ σ ∧ holds (evO F x ρ) (fun o => ∀ Hs' H', Ext Hs H Hs' H' → Q o H') (EXc g E Hs H)
def tI (k : Ik) (es : List Ex) : TI := fun σ H R => ∃ ρ Hs, RE g H0 Hs H ρ σ ∧ holds ((evL F es ρ).bind fun ds => itD k ds) (fun its => ∀ J Hs' H', Ext Hs H Hs' H' → WalkD g Hs' H' J its → R J H') (EXc g E Hs H)
/-- an iterator that gives the items while nothing is changed -/
def WalkC (g : G) (Hs H : Hp) (J : It) (its : List D) : Prop := ∃ (Gd : Hp → Prop) (Y : Nat → Hp → V → Hp → Prop), Walk J its.length Gd Y ∧ (∀ H', Same H H' → Gd H') ∧
  ∀ i Hv Hc x H', i < its.length → Same Hs Hv → Same Hv Hc → Y i Hc x H' → ∃ Hv' d, its[i]? = some d ∧ Ext Hv Hc Hv' H' ∧ Rep g Hv' x d
def tIC (k : Ik) (es : List Ex) : TI := fun σ H R => ∃ ρ Hs, RE g H0 Hs H ρ σ ∧ holds ((evL F es ρ).bind fun ds => itD k ds) (fun its => ∀ J Hs' H', Ext Hs H Hs' H' → WalkC g Hs' H' J its → R J H') (EXc g E Hs H)
/-- a def's promise -/
def spF (i : Nat) (np : Nat) (fr : Bool) : Sp := fun vs H Q E => ∃ Hs ds, Same Hs H ∧ Reps g Hs vs ds ∧ vs.length = np ∧
  holds (F i ds) (fun d => match fr with | true => PR g Hs H d Q | false => PV g Hs H d Q) (EXc g E Hs H)
end
theorem WalkD.toC {g : G} {Hs H : Hp} {J : It} {its : List D} (e : Same Hs H) (h : WalkD g Hs H J its) : WalkC g Hs H J its := by
  obtain ⟨Gd, Y, W, hG, hY⟩ := h
  exact ⟨Gd, Y, W, fun H' x => hG H' (e.trans x), hY⟩
theorem walk_own {g : G} {Hs H : Hp} {a : Addr} {vs : List V} {ds : List D} (s : SqL g.K H a vs) (r : Reps g Hs vs ds) : WalkC g Hs H (Itl g.K a) ds := by
  refine ⟨fun H => SqL g.K H a vs, YAt vs, by rw [← r.length]; exact walk_list, fun H' e => Same.seq e s, fun i Hv Hc x H' hi e1 e2 y => ?_⟩
  obtain ⟨rfl, y⟩ := y
  obtain ⟨v, h1, h2⟩ := r.get (List.getElem?_eq_getElem hi)
  rw [y] at h1; cases h1
  exact ⟨Hv, _, List.getElem?_eq_getElem hi, Ext.refl e2, h2.mono e1⟩
theorem walk_ownT {g : G} {Hs H : Hp} {a : Addr} {vs : List V} {ds : List D} (s : SqT g.K H a vs) (r : Reps g Hs vs ds) : WalkC g Hs H (Itt g.K a) ds := by
  refine ⟨fun H => SqT g.K H a vs, YAt vs, by rw [← r.length]; exact walk_tup, fun H' e => Same.sqT e s, fun i Hv Hc x H' hi e1 e2 y => ?_⟩
  obtain ⟨rfl, y⟩ := y
  obtain ⟨v, h1, h2⟩ := r.get (List.getElem?_eq_getElem hi)
  rw [y] at h1; cases h1
  exact ⟨Hv, _, List.getElem?_eq_getElem hi, Ext.refl e2, h2.mono e1⟩
/-- a def is called by so many values and keywords so named; ord says where the parameters' values stand among values, keywords' values, defaults -/
def KwOk (K : PySem.W.Frag) (fd : FuncData) (ps : List Str) (np : Nat) (ds : List D) (q : Nat × List Str × List Nat) : Prop :=
  ∃ (gf : List Value → List Value → List Value) (dvs : List V), KBn K fd ps q.1 q.2.1 gf (fun vs zs => q.2.2.map fun i => ((vs ++ zs) ++ dvs).getD i .non) ∧ (∀ g H, Reps g H dvs ds) ∧ q.2.2.length = np
/-- what a def is called by -/
structure Callable (g : G) (F : Fs) (CX : CXT) (X : Cx) (i : Nat) (fi : FI) : Prop where
  ex : ∃ (k : Nat) (f : Addr) (fd : FuncData) (ps : List Str), X.mg fi.name = some (.ref f) ∧ PySem.W.keepIn X.K (.ref f) = true ∧ Room k X.A ∧ FnOk X.prog X.w X.K X.mg X.base CX k f fd ps (spF g F i fi.np fi.fr) ∧
    (∀ j, j ≤ fi.ds.length → ∃ dvs dus, Binds X.K fd ps dus ∧ Vals dvs dus ∧ ∀ H, Reps g H dvs (fi.ds.drop j)) ∧ ∀ q ∈ fi.kp, KwOk X.K fd ps fi.np fi.ds q
def biNames : List Str := ["len", "min", "max", "sum", "abs", "tuple", "list", "int", "any", "all", "sorted", "range", "enumerate", "zip", "reversed", "isinstance", "bool", "str"]
/-- an exception's class, under ValueError -/
structure ExM (K : PySem.W.Frag) (mg : Str → Option Value) (C : Addr) (x : Str) : Prop where
  mg : mg x = some (.ref C)
  ex : PySem.W.excIn K C [.type "ValueError", .type "Exception", .type "BaseException", .type "object"] "ValueError.__new__" = true
  kp : PySem.W.keepIn K (.ref C) = true
  bs : PySem.W.subIn K (.ref C) (.type "BaseException") = some true
  ty : PySem.W.typeIn K (.ref C) = some (.type "type")
/-- a class as it stands -/
structure CM (g : G) (K : PySem.W.Frag) (mg : Str → Option Value) (c : Nat) (nm : Str) (fl : List Str) : Prop where
  at_ : mg nm = some (.ref (g.ca c))
  fn : g.fn c = fl
  cl : Cls K (g.ca c)
  na : ∀ f ∈ fl, NoAttr K (g.ca c) f
  nd : fl.Nodup
  mks : PySem.W.makesIn K (g.ca c) = true
  kp : PySem.W.keepIn K (.ref (g.ca c)) = true
  ini : (fl = [] ∧ PySem.W.findIn K (.ref (g.ca c)) "__init__" = some (some (.builtin "object.__init__"))) ∨ (fl ≠ [] ∧ ∃ (f : Addr) (fd : FuncData) (ps : List Str), L2.Mk K (g.ca c) f ∧ Binds K fd ps [] ∧
    ∀ (P : Program) (w : World) (base : Heap) (CX : CXT), FnOk P w K mg base CX 1 f fd ps (spIni (g.ca c) fl))
/-- a method as it is called -/
structure MCallable (g : G) (F : Fs) (CX : CXT) (X : Cx) (m : Str) (c i np : Nat) : Prop where
  ex : ∃ (k : Nat) (f : Addr) (fd : FuncData) (ps : List Str), Cls X.K (g.ca c) ∧ Meth X.K (g.ca c) m f ∧ m ∉ g.fn c ∧ Room k X.A ∧ FnOk X.prog X.w X.K X.mg X.base CX k f fd ps (spF g F i np false) ∧ Binds X.K fd ps []
structure XOk (g : G) (T : Tab) (F : Fs) (CX : CXT) (X : Cx) : Prop where
  K : X.K = g.K
  nd : X.N.Nodup
  calm : X.calm = true
  un : X.A.units + 64 < cLine
  blt : ∀ n ∈ biNames, X.mg n = none
  fns : ∀ (i : Nat) (fi : FI), T.fn i = some fi → Callable g F CX X i fi
  cons : ∀ p ∈ T.cons, ∃ u v, X.mg p.1 = some u ∧ RelV v u ∧ ∀ H, Rep g H v p.2
  exs : ∀ c x, (c, x) ∈ T.exs → ExM X.K X.mg (g.xa c) x
  cls : ∀ c nm fl, (c, nm, fl) ∈ T.cls → CM g X.K X.mg c nm fl
  mts : ∀ m c i np, (m, c, i, np) ∈ T.mts → MCallable g F CX X m c i np
  rm : Room 2 X.A
  px : ∀ X' : Cx, X'.prog = X.prog → X'.w = X.w → Passes CX X' E0

section
variable {g : G} {T : Tab} {F : Fs} {H0 : Hp} {E : XK} {X : Cx} {CX : CXT}
theorem pew {e : Expr} {t t' : TE} (h : PE X e t) (w : ∀ pins s σ H Q, Inv X pins σ H s → t' σ H Q → t σ H Q) : PE X e t' := ⟨fun pins s σ H Q I q => h.run pins s σ H Q I (w pins s σ H Q I q)⟩
theorem ptw {e : Expr} {t t' : TT} (h : PT X e t) (w : ∀ pins s σ H Q, Inv X pins σ H s → t' σ H Q → t σ H Q) : PT X e t' := ⟨fun pins s σ H Q I q => h.run pins s σ H Q I (w pins s σ H Q I q)⟩
theorem pww {e : Expr} {t t' : TT} (h : PW X e t) (w : ∀ pins s σ H Q, Inv X pins σ H s → t' σ H Q → t σ H Q) : PW X e t' := ⟨fun wh pins s σ H Q I q => h.run wh pins s σ H Q I (w pins s σ H Q I q)⟩
theorem paw {es : List Expr} {t t' : TA} (h : PA X es t) (w : ∀ pins s σ H Q, Inv X pins σ H s → t' σ H Q → t σ H Q) : PA X es t' := ⟨fun pos pins s σ H Q I q => h.run pos pins s σ H Q I (w pins s σ H Q I q)⟩
theorem pow {e : Option Expr} {t t' : TO} (h : PO X e t) (w : ∀ σ H Q, t' σ H Q → t σ H Q) : PO X e t' := ⟨fun pins s σ H Q I q => h.run pins s σ H Q I (w σ H Q q)⟩
theorem piw {tg e : Expr} {t t' : TI} (h : PI X tg e t) (w : ∀ pins s σ H Q, Inv X pins σ H s → t' σ H Q → t σ H Q) : PI X tg e t' := ⟨fun pins s σ H Q I q => h.run pins s σ H Q I (w pins s σ H Q I q)⟩

theorem pi_toC {tg e : Expr} {k : Ik} {es : List Ex} (h : PI X tg e (tI g F H0 E k es)) : PI X tg e (tIC g F H0 E k es) :=
  piw h fun pins s σ H R I ⟨ρ, Hs, re, h⟩ => ⟨ρ, Hs, re, holds_mono h (fun its _ q J Hs' H' x w => q J Hs' H' x (w.toC x.sub)) fun _ z => z⟩
/-- what is shown of an expression -/
structure Snd (g : G) (T : Tab) (F : Fs) (H0 : Hp) (E : XK) (X : Cx) (x : Ex) (e : Expr) : Prop where
  v : isBor x = false → PE X e (tE g F H0 E x)
  o : PE X e (tO g F H0 E x)
  r : isFr T x = true → PE X e (tR g F H0 E x)
  t : notIf e = true → isBor x = false → PT X e (tT g F H0 E x)
  w : isBoolOp e = true → PW X e (tT g F H0 E x)
theorem tM_mono {p q : Hp → Hp → D → VK → Prop} {x : Ex} (h : ∀ Hs H d Q, p Hs H d Q → q Hs H d Q) : ∀ σ H Q, tM g F H0 E p x σ H Q → tM g F H0 E q x σ H Q := fun σ H Q ⟨ρ, Hs, re, k⟩ => ⟨ρ, Hs, re, holds_mono k (fun d _ z => h Hs H d Q z) fun _ z => z⟩
theorem val_test {x : Ex} {e : Expr} (h : PE X e (tE g F H0 E x)) (hp : plainT e = true) : PT X e (tT g F H0 E x) := by
  refine ptw (pt_val h ?_) fun pins s σ H Q I ⟨ρ, Hs, re, k⟩ => ⟨ρ, Hs, re, holds_mono k (fun d _ ⟨b, e1, q⟩ => ?_) fun _ z => z⟩
  · intro whole
    cases e <;> first | rfl | (simp only [plainT, Bool.false_eq_true] at hp) | skip
    rename_i op _ _
    cases op <;> first | rfl | (simp only [plainT, Bool.false_eq_true] at hp)
  · subst e1
    intro v Hs' H' ex r
    cases r
    exact ⟨b, rfl, q Hs' H' ex⟩
theorem Snd.ofR {x : Ex} {e : Expr} (h : PE X e (tR g F H0 E x)) (hp : plainT e = true) (hb : isBoolOp e = false) : Snd g T F H0 E X x e :=
  have hv : PE X e (tE g F H0 E x) := pew h fun _ _ _ _ _ _ => tM_mono (fun _ _ _ _ z => z.toR) _ _ _
  ⟨fun _ => hv, pew h fun _ _ _ _ _ _ => tM_mono (fun _ _ _ _ z => z.toR) _ _ _, fun _ => h, fun _ _ => val_test hv hp, fun z => by rw [hb] at z; cases z⟩
theorem Snd.ofV {x : Ex} {e : Expr} (h : PE X e (tE g F H0 E x)) (hp : plainT e = true) (hb : isBoolOp e = false) (hf : isFr T x = false) : Snd g T F H0 E X x e :=
  ⟨fun _ => h, pew h fun _ _ _ _ _ _ => tM_mono (fun _ _ _ _ z => z.toV) _ _ _, fun z => (by rw [hf] at z; cases z), fun _ _ => val_test h hp, fun z => by rw [hb] at z; cases z⟩
/-- two operands, an operation -/
theorem two {a b : Ex} {f : D → D → M D} {ρ : List Sl} {σ : L2.St} {Hs H : Hp} {Q : VK} (re : RE g H0 Hs H ρ σ)
    (h : holds ((evE F a ρ).bind fun x => (evE F b ρ).bind fun y => f x y) (fun d => PR g Hs H d Q) (EXc g E Hs H)) : tO g F H0 E a σ H fun x H1 => tO g F H0 E b σ H1 fun y H2 => rD2 g f x y H2 Q :=
  ⟨ρ, Hs, re, holds_mono (holds_bind h) (fun da _ h2 v Hs1 H1 e1 b1 => ⟨ρ, Hs1, re.ext e1, holds_mono (holds_bind h2) (fun db _ h3 w Hs2 H2 e2 b2 =>
    ⟨Hs2, da, db, e2.sub, b1.ext e2, b2, holds_mono h3 (fun d _ q => q.ext (e1.trans e2)) fun _ _ => trivial⟩) fun _ z => z.ext e1⟩) fun _ z => z⟩
theorem star_cons {e : Expr} {es : List Expr} {env : Env} (h : notStar e = true) : starEach (e :: es) env = (false, eval e env) :: starEach es env := by
  cases e <;> first | rfl | (simp only [notStar, Bool.false_eq_true] at h)
theorem noSet_marks {b : Expr} {op : CmpOp} (h : notSet b = true) : behindInMarks op b = false := by
  cases b <;> first | rfl | (simp only [notSet, Bool.false_eq_true] at h)
theorem noSet_fold {b : Expr} {env : Env} (h : notSet b = true) : ∀ x, foldedSetIterable b env x = pure x := by
  intro x
  cases b <;> first | rfl | (simp only [notSet, Bool.false_eq_true] at h)
theorem plain_ix {b : Expr} (h : notSlice b = true) : PlainIx b := by
  intro o i
  cases b <;> first | rfl | (simp only [notSlice, Bool.false_eq_true] at h)
theorem vis_of {sc : Scope} {x : Str} (h : visB sc x = true) : Vis sc x := by
  unfold visB at h
  unfold Vis
  split at h <;> simp_all
theorem nm_of {N : List Str} {sc : Scope} {i : Nat} {e : Expr} (h : nmOk N sc i e = true) : ∃ x p, e = .Name x p ∧ N[i]? = some x ∧ Vis sc x ∧ (x == ("__debug__" : Str)) = false ∧ (x == ("__classdict__" : Str)) = false := by
  cases e <;> simp only [nmOk, Bool.false_eq_true, Bool.and_eq_true, Bool.not_eq_true', decide_eq_true_eq] at h
  exact ⟨_, _, rfl, h.1.1.1, vis_of h.1.1.2, h.1.2, h.2⟩
theorem gl_of {sc : Scope} {x : Str} {e : Expr} (h : glOk sc x e = true) : ∃ p, e = .Name x p ∧ glB sc x = true ∧ (x == ("__debug__" : Str)) = false ∧ x ≠ "__name__" := by
  cases e <;> simp only [glOk, Bool.false_eq_true, Bool.and_eq_true, Bool.not_eq_true', decide_eq_true_eq, decide_eq_false_iff_not] at h
  obtain ⟨⟨⟨h1, h2⟩, h3⟩, h4⟩ := h
  subst h1
  exact ⟨_, rfl, h2, h3, h4⟩
theorem Gl_of {X : Cx} {x : Str} (h : glB X.env.scope x = true) : Gl X x := by
  unfold glB at h
  unfold Gl Env.kindOf
  split at h <;> simp_all
end
end Dw

namespace Dw
open PySem PySem.Spec PyProof.Rows L2
section
variable {g : G} {Hs H H0 Hs' H' : Hp} {ρ ρ' : List Sl} {σ : L2.St}
/-! ### slots stored, forgotten -/
theorem set_get {α : Type} {l : List α} {i j : Nat} {a b : α} (h : (l.set i a)[j]? = some b) : (i = j ∧ b = a) ∨ (i ≠ j ∧ l[j]? = some b) := by
  by_cases e : i = j
  · subst e
    by_cases hl : i < l.length
    · rw [List.getElem?_set_self hl] at h
      cases h
      exact .inl ⟨rfl, rfl⟩
    · rw [List.getElem?_eq_none (by rw [List.length_set]; omega)] at h
      cases h
  · rw [List.getElem?_set_ne e] at h
    exact .inr ⟨e, h⟩
theorem get_set_self {α : Type} {l : List α} {i : Nat} {a b : α} (h : (l.set i b)[i]? = some a) : ∀ c, (l.set i c)[i]? = some c := fun c => by
  by_cases hl : i < l.length
  · exact List.getElem?_set_self hl
  · rw [List.getElem?_eq_none (by rw [List.length_set]; omega)] at h
    cases h
theorem RE.set (r : RE g H0 Hs H ρ σ) (i : Nat) {v : V} {d : D} (q : Rep g Hs v d) : RE g H0 Hs H (setV ρ i d) (σ.set i (some v)) where
  sub := r.sub
  len := by unfold setV; rw [List.length_set, List.length_set, r.len]
  sh := fun j e h => by
    unfold setV at h
    rcases set_get h with ⟨rfl, h1⟩ | ⟨hn, h1⟩
    · cases h1
      have hl : i < σ.length := by
        rw [← r.len]
        by_cases z : i < ρ.length
        · exact z
        · rw [List.getElem?_eq_none (by rw [List.length_set]; omega)] at h; cases h
      exact ⟨v, List.getElem?_set_self hl, q⟩
    · obtain ⟨w, k1, k2⟩ := r.sh j e h1
      exact ⟨w, by rw [List.getElem?_set_ne hn]; exact k1, k2⟩
  own := fun j s h hs => by
    unfold setV at h
    rcases set_get h with ⟨rfl, h1⟩ | ⟨hn, h1⟩
    · subst h1; cases hs
    · obtain ⟨p, vs, k1, k2⟩ := r.own j s h1 hs
      exact ⟨p, vs, by rw [List.getElem?_set_ne hn]; exact k1, k2⟩
  ap := fun a b s t p hab h1 h2 hs ht h3 h4 => by
    unfold setV at h1 h2
    rcases set_get h1 with ⟨rfl, z⟩ | ⟨n1, z1⟩
    · subst z; cases hs
    rcases set_get h2 with ⟨rfl, z⟩ | ⟨n2, z2⟩
    · subst z; cases ht
    rw [List.getElem?_set_ne n1] at h3
    rw [List.getElem?_set_ne n2] at h4
    exact r.ap a b s t p hab z1 z2 hs ht h3 h4
theorem RE.drop1 (r : RE g H0 Hs H ρ σ) (i : Nat) : RE g H0 Hs H (ρ.set i .no) (σ.set i none) where
  sub := r.sub
  len := by rw [List.length_set, List.length_set, r.len]
  sh := fun j e h => by
    rcases set_get h with ⟨rfl, h1⟩ | ⟨hn, h1⟩
    · cases h1
    · obtain ⟨w, k1, k2⟩ := r.sh j e h1
      exact ⟨w, by rw [List.getElem?_set_ne hn]; exact k1, k2⟩
  own := fun j s h hs => by
    rcases set_get h with ⟨rfl, h1⟩ | ⟨hn, h1⟩
    · subst h1; cases hs
    · obtain ⟨p, vs, k1, k2⟩ := r.own j s h1 hs
      exact ⟨p, vs, by rw [List.getElem?_set_ne hn]; exact k1, k2⟩
  ap := fun a b s t p hab h1 h2 hs ht h3 h4 => by
    rcases set_get h1 with ⟨rfl, z⟩ | ⟨n1, z1⟩
    · subst z; cases hs
    rcases set_get h2 with ⟨rfl, z⟩ | ⟨n2, z2⟩
    · subst z; cases ht
    rw [List.getElem?_set_ne n1] at h3
    rw [List.getElem?_set_ne n2] at h4
    exact r.ap a b s t p hab z1 z2 hs ht h3 h4
theorem RE.wipe (r : RE g H0 Hs H ρ σ) : ∀ is : List Nat, RE g H0 Hs H (wipeD ρ is) (L2.wipe σ is)
  | [] => r
  | i :: is => by
    unfold wipeD L2.wipe
    exact (RE.wipe r is).drop1 i
theorem wipe_at (σ : L2.St) (j : Nat) : ∀ vs : List Nat, (L2.wipe σ vs)[j]? = if j ∈ vs then σ[j]?.map fun _ => none else σ[j]?
  | [] => by simp [L2.wipe]
  | v :: vs => by
    unfold L2.wipe
    by_cases e : v = j
    · subst e
      rw [if_pos List.mem_cons_self]
      by_cases hl : v < σ.length
      · rw [List.getElem?_set_self (by rw [wipe_length]; exact hl), List.getElem?_eq_getElem hl]; rfl
      · rw [List.getElem?_eq_none (by rw [List.length_set, wipe_length]; omega), List.getElem?_eq_none (by omega)]; rfl
    · rw [List.getElem?_set_ne e, wipe_at σ j vs]
      by_cases h : j ∈ vs
      · rw [if_pos h, if_pos (List.mem_cons_of_mem _ h)]
      · rw [if_neg h, if_neg (by intro z; rcases List.mem_cons.mp z with z | z; exact e z.symm; exact h z)]
theorem wipe_set (σ : L2.St) {i : Nat} {vs : List Nat} (a : Option V) (h : i ∈ vs) : L2.wipe (σ.set i a) vs = L2.wipe σ vs := by
  apply List.ext_getElem?
  intro j
  rw [wipe_at, wipe_at]
  by_cases hj : j ∈ vs
  · rw [if_pos hj, if_pos hj]
    by_cases e : i = j
    · subst e
      by_cases hl : i < σ.length
      · rw [List.getElem?_set_self hl, List.getElem?_eq_getElem hl]; rfl
      · rw [List.getElem?_eq_none (by rw [List.length_set]; omega), List.getElem?_eq_none (by omega)]
    · rw [List.getElem?_set_ne e]
  · rw [if_neg hj, if_neg hj, List.getElem?_set_ne (show i ≠ j from fun e => hj (by rw [← e]; exact h))]
theorem wipe_wipe (σ : L2.St) (vs : List Nat) : L2.wipe (L2.wipe σ vs) vs = L2.wipe σ vs := by
  apply List.ext_getElem?
  intro j
  rw [wipe_at, wipe_at]
  by_cases hj : j ∈ vs
  · rw [if_pos hj, if_pos hj]
    first | (rw [wipe_at, if_pos hj]) | skip
    cases σ[j]? <;> rfl
  · rw [if_neg hj, if_neg hj]

/-! ### targets -/
def gsD : List Nat → TGs
  | [] => gNil
  | i :: is => gCons (gName i) (gsD is)
/-- a tuple's items, or a list's -/
def gTL (K : PySem.W.Frag) (n : Nat) (t : TGs) : TG := fun v σ H Q => gTup K n t v σ H Q ∨ gUnl K n t v σ H Q
theorem pg_tl {X : Cx} {pos : Pos} {es : List Expr} {k : Nat} {t : TGs} {n : Nat} (hc : X.calm = true) (h : PGs X es t) (hn : (assignEach es X.env).length = n) (hst : (assignEach es X.env).findIdx? (·.1) = none) : PG X (.Tuple es k pos) (gTL X.K n t) :=
  ⟨fun pins s σ H v u Q I r hw => hw.elim ((pg_tup hc h hn hst).run pins s σ H v u Q I r) ((pg_unl hc h hn hst).run pins s σ H v u Q I r)⟩
def gD (K : PySem.W.Frag) : List Nat → TG
  | [i] => gName i
  | is => gTL K is.length (gsD is)
theorem gsD_ok : ∀ (is : List Nat) {vs : List V} {ds : List D} {σ : L2.St} {ρ ρ' : List Sl} {Q : L2.St → Hp → Prop}, RE g H0 Hs H ρ σ → Reps g Hs vs ds → setVs ρ is ds = .ok ρ' →
    (∀ σ', RE g H0 Hs H ρ' σ' → (∀ ws, (∀ i ∈ is, i ∈ ws) → L2.wipe σ' ws = L2.wipe σ ws) → Q σ' H) → gsD is vs σ H Q
  | [], _, [], σ, ρ, ρ', Q, re, .nil, h, q => by
    simp only [setVs, M.ok.injEq] at h
    subst h
    exact ⟨rfl, q σ re fun _ _ => rfl⟩
  | [], _, _ :: _, _, _, _, _, _, _, h, _ => by simp [setVs] at h
  | _ :: _, _, [], _, _, _, _, _, _, h, _ => by simp [setVs] at h
  | i :: is, _, d :: ds, σ, ρ, ρ', Q, re, .cons r t, h, q => by
    simp only [setVs] at h
    refine ⟨_, _, rfl, ?_⟩
    exact gsD_ok is (re.set i r) t h fun σ' re' hw => q σ' re' fun ws hm => by rw [hw ws fun j hj => hm j (List.mem_cons_of_mem _ hj), wipe_set _ _ (hm i List.mem_cons_self)]
theorem gD_ok {K : PySem.W.Frag} (hK : K = g.K) : ∀ (is : List Nat) {v : V} {d : D} {σ : L2.St} {ρ ρ' : List Sl} {Q : L2.St → Hp → Prop}, RE g H0 Hs H ρ σ → Rep g Hs v d → tgD ρ is d = .ok ρ' →
    (∀ σ', RE g H0 Hs H ρ' σ' → (∀ ws, (∀ i ∈ is, i ∈ ws) → L2.wipe σ' ws = L2.wipe σ ws) → Q σ' H) → gD K is v σ H Q
  | [], _, _, _, _, _, _, _, _, h, _ => by simp [tgD] at h
  | [i], v, d, σ, ρ, ρ', Q, re, r, h, q => by
    simp only [tgD, M.ok.injEq] at h
    subst h
    exact q _ (re.set i r) fun ws hm => wipe_set _ _ (hm i List.mem_cons_self)
  | i :: j :: is, v, d, σ, ρ, ρ', Q, re, r, h, q => by
    have hl : ∀ (is : List Nat) (ρ : List Sl) (ds : List D), setVs ρ is ds = .ok ρ' → is.length = ds.length := by
      intro is
      induction is with
      | nil => intro ρ ds h; cases ds <;> simp [setVs] at h ⊢
      | cons k ks ih => intro ρ ds h; cases ds <;> simp [setVs] at h ⊢; exact ih _ _ h
    cases d <;> simp only [tgD, reduceCtorEq] at h
    · cases r with
      | tup s r =>
        refine .inl ⟨_, _, rfl, by rw [hK]; exact .inl (.inl (re.sub _ _ s)), ?_, gsD_ok (i :: j :: is) re r h q⟩
        rw [r.length]; exact (hl _ _ _ h).symm
    · cases r with
      | lst s r =>
        refine .inr ⟨_, _, rfl, by rw [hK]; exact Same.seq re.sub s, ?_, gsD_ok (i :: j :: is) re r h q⟩
        rw [r.length]; exact (hl _ _ _ h).symm
/-- a target that is stored by name -/
theorem loc_mem {sc : Scope} : ∀ {own : List (Str × Nat)}, locAll sc own = true → ∀ p ∈ own, sc.names.lookup p.1 = some .local
  | [], _, _, hp => nomatch hp
  | (x, i) :: r, h, p, hp => by
    simp only [locAll, Bool.and_eq_true] at h
    rcases List.mem_cons.mp hp with rfl | hp
    · have h1 := h.1
      split at h1 <;> simp_all
    · exact loc_mem h.2 p hp
theorem owns_ok {X : Cx} : ∀ {es : List Expr} {is : List Nat} {own : List (Str × Nat)}, ownOf.ownsOf es is = some own → (∀ p ∈ own, X.N[p.2]? = some p.1 ∧ X.env.scope.names.lookup p.1 = some .local) → X.N.Nodup → PGs X es (gsD is) ∧ own.map (·.2) = is ∧ es.length = is.length
  | [], [], own, h, _, _ => by
    simp only [ownOf.ownsOf, Option.some.injEq] at h
    subst h
    exact ⟨pgs_nil, rfl, rfl⟩
  | [], _ :: _, _, h, _, _ => by simp [ownOf.ownsOf] at h
  | e :: es, [], _, h, _, _ => by cases e <;> simp [ownOf.ownsOf] at h
  | e :: es, i :: is, own, h, k, nd => by
    cases e <;> simp only [ownOf.ownsOf, reduceCtorEq] at h
    cases q : ownOf.ownsOf es is with
    | none => rw [q] at h; cases h
    | some r =>
      rw [q] at h
      cases h
      obtain ⟨h1, h2, h3⟩ := owns_ok q (fun p hp => k p (List.mem_cons_of_mem _ hp)) nd
      have z := k _ List.mem_cons_self
      exact ⟨pgs_cons (pg_name nd z.1 (.inl z.2) (.inr z.2)) h1, by rw [List.map_cons, h2], by rw [List.length_cons, List.length_cons, h3]⟩
theorem owns_each {X : Cx} : ∀ {es : List Expr} {is : List Nat} {own : List (Str × Nat)}, ownOf.ownsOf es is = some own → (assignEach es X.env).length = is.length ∧ (assignEach es X.env).findIdx? (·.1) = none
  | [], [], _, _ => ⟨rfl, rfl⟩
  | [], _ :: _, _, h => by simp [ownOf.ownsOf] at h
  | e :: es, [], _, h => by cases e <;> simp [ownOf.ownsOf] at h
  | e :: es, i :: is, own, h => by
    cases e <;> simp only [ownOf.ownsOf, reduceCtorEq] at h
    cases q : ownOf.ownsOf es is with
    | none => rw [q] at h; cases h
    | some r =>
      obtain ⟨h1, h2⟩ := owns_each (X := X) q
      refine ⟨by simp only [assignEach, List.length_cons]; rw [h1], ?_⟩
      simp only [assignEach, List.findIdx?_cons, h2]
      rfl
theorem own_ok {X : Cx} {e : Expr} {is : List Nat} {own : List (Str × Nat)} (h : ownOf e is = some own) (k : ∀ p ∈ own, X.N[p.2]? = some p.1 ∧ X.env.scope.names.lookup p.1 = some .local) (nd : X.N.Nodup) (hc : X.calm = true) : PG X e (gD X.K is) ∧ own.map (·.2) = is := by
  unfold ownOf at h
  split at h
  · cases h
    have z := k _ List.mem_cons_self
    exact ⟨pg_name nd z.1 (.inl z.2) (.inr z.2), rfl⟩
  · obtain ⟨h1, h2, h3⟩ := owns_ok h k nd
    refine ⟨?_, h2⟩
    obtain ⟨z1, z2⟩ := owns_each (X := X) h
    exact pg_tl (X := X) hc h1 z1 z2
  · cases h
end
end Dw

namespace Dw
open PySem PySem.Spec PyProof.Rows L2
section
variable {g : G} {T : Tab} {F : Fs} {H0 : Hp} {CX : CXT}
theorem boot_bi (b : Bi) : bootBuiltins (biName b) = some (biVal b) := by cases b <;> decide +kernel
theorem bi_in (b : Bi) : biName b ∈ biNames := by cases b <;> decide +kernel
theorem ty_in (t : Ty) : tyStr t ∈ biNames ∨ True := .inr trivial
theorem boot_ty (t : Ty) : bootBuiltins (tyStr t) = some (.type (tyName t)) := by cases t <;> decide +kernel
theorem ty_in' (t : Ty) : tyStr t ∈ biNames := by cases t <;> decide +kernel
/-- a built-in's call, function or class -/
theorem pe_bi {X : Cx} {b : Bi} {r : List V → Hp → VK → Prop} {p pos : Pos} {e : Expr} {es : List Expr} {t : TA} (hc : CallR X (biVal b) r) (hg : Gl X (biName b)) (hm : X.mg (biName b) = none) (ha : PA X (e :: es) t) (hdb : (biName b == ("__debug__" : Str)) = false) (hn : biName b ≠ "__name__")
    (he : starEach (e :: es) X.env = (false, eval e X.env) :: starEach es X.env) (hpl : (backTo pos (starEach es X.env)).any (·.1) = false) : PE X (.Call (.Name (biName b) p) (e :: es) [] pos) (tCB r t) := by
  have hv := boot_bi b
  cases h : biVal b <;> rw [h] at hc hv <;> first | exact pe_callB hc hg hm hv ha hn hdb he hpl | exact pe_callTy hc hg hm hv ha hn hdb he hpl | (cases b <;> cases h)
theorem no_star {N : List Str} {sc : Scope} {env : Env} {pos : Pos} : ∀ (es : List Ex) (xs : List Expr), chkL T N es sc xs = true → (backTo pos (starEach xs env)).any (·.1) = false
  | [], [], _ => rfl
  | [], _ :: _, h => by simp [chkL] at h
  | _ :: _, [], h => by simp [chkL] at h
  | e :: es, x :: xs, h => by
    simp only [chkL, Bool.and_eq_true] at h
    rw [star_cons h.1.2]
    have ih := no_star (env := env) (pos := pos) es xs h.2
    unfold backTo at ih ⊢
    rw [List.map_cons, List.any_cons, ih]
    rfl
/-- the view with all lists of the heap -/
def lstView (Hs H : Hp) : Hp := fun a => match Hs a with
  | some o => some o
  | none => match H a with
    | some (.lst vs) => some (.lst vs)
    | some (.dK vs) => some (.dK vs)
    | some (.dT vs) => some (.dT vs)
    | _ => none
theorem lv_sub {Hs H : Hp} (e : Same Hs H) : Same (lstView Hs H) H := fun a o h => by
  unfold lstView at h
  cases q : Hs a with
  | some u => rw [q] at h; cases h; exact e a _ q
  | none =>
    rw [q] at h
    simp only at h
    split at h <;> first | (rename_i vs hv; cases h; exact hv) | cases h
theorem lv_view {Hs H : Hp} : Same Hs (lstView Hs H) := fun a o h => by
  unfold lstView
  rw [h]
theorem lv_rep {Hs H : Hp} (e : Same Hs H) {v : V} {d : D} (b : BRep g Hs H v d) : Rep g (lstView Hs H) v d := by
  have at_ : ∀ {p : Addr} {o : HO}, H p = some o → (∀ a, (match a with | some (HO.lst vs) => some (HO.lst vs) | some (.dK vs) => some (.dK vs) | some (.dT vs) => some (.dT vs) | _ => none) = a ∨ a ≠ some o) → lstView Hs H p = some o := fun {p o} h3 hk => by
    unfold lstView
    cases q : Hs p with
    | some u => rw [e p u q] at h3; cases h3; rfl
    | none =>
      simp only
      rcases hk (H p) with z | z
      · rw [z]; exact h3
      · exact absurd h3 z
  rcases b with b | ⟨p, vs, ds, rfl, rfl, h3, h4⟩ | ⟨p, o, rfl, h3, h4⟩
  · exact b.mono lv_view
  · refine .lst (.inl (.inl (at_ h3 fun a => ?_))) (h4.mono lv_view)
    by_cases z : a = some (.lst vs)
    · subst z; exact .inl rfl
    · exact .inr z
  · cases d <;> first | exact h4.elim | skip
    · obtain ⟨us, rfl, l, r⟩ := h4
      refine .dcK (at_ h3 fun a => ?_) l (r.mono lv_view)
      by_cases z : a = some (.dK (List.zip ‹List Key› us))
      · subst z; exact .inl rfl
      · exact .inr z
    · obtain ⟨us, rfl, l, r⟩ := h4
      refine .dcT (at_ h3 fun a => ?_) l (r.mono lv_view)
      by_cases z : a = some (.dT (List.zip ‹List (List Key)› us))
      · subst z; exact .inl rfl
      · exact .inr z
theorem lv_reps {Hs H : Hp} (e : Same Hs H) : ∀ {vs : List V} {ds : List D}, BReps g Hs H vs ds → Reps g (lstView Hs H) vs ds
  | _, _, .nil => .nil
  | _, _, .cons b t => .cons (lv_rep e b) (lv_reps e t)
/-- a view without what was in H but not in Hs -/
def cutView (Hs H Hs' : Hp) : Hp := fun a => match Hs a, H a with
  | none, some o => if isTp o = true then Hs' a else none
  | _, _ => Hs' a
mutual
theorem cut_rep {Hs H Hs' H' : Hp} (x : Ext (lstView Hs H) H Hs' H') : ∀ {v : V} {d : D}, noLst d = true → Rep g Hs' v d → Rep g (cutView Hs H Hs') v d
  | _, _, _, .non => .non
  | _, _, _, .bl b => .bl b
  | _, _, _, .int i => .int i
  | _, _, _, .str z => .str z
  | _, _, h, .tup (a := a) (vs := vs) s r => by
    refine .tup ?_ (cut_reps' x (by simpa only [noLst] using h) r)
    unfold cutView
    cases q : Hs a with
    | some u => simp only; exact s
    | none =>
      cases q2 : H a with
      | none => simp only; exact s
      | some u =>
        have h1 := x.all a u q2
        have h2 := x.sub a _ s
        rw [h1] at h2
        cases h2
        simp only [isTp, if_true]
        exact s
  | _, _, h, .lst _ _ => by simp only [noLst, Bool.false_eq_true] at h
  | _, _, h, .ins _ _ _ => by simp only [noLst, Bool.false_eq_true] at h
  | _, _, h, .dcK _ _ _ => by simp only [noLst, Bool.false_eq_true] at h
  | _, _, h, .dcT _ _ _ => by simp only [noLst, Bool.false_eq_true] at h
theorem cut_reps' {Hs H Hs' H' : Hp} (x : Ext (lstView Hs H) H Hs' H') : ∀ {vs : List V} {ds : List D}, noLsts ds = true → Reps g Hs' vs ds → Reps g (cutView Hs H Hs') vs ds
  | _, _, _, .nil => .nil
  | _, _, h, .cons r t => by
    simp only [noLsts, Bool.and_eq_true] at h
    exact .cons (cut_rep x h.1 r) (cut_reps' x h.2 t)
end
theorem cut_ext {Hs H Hs' H' : Hp} (e : Same Hs H) (x : Ext (lstView Hs H) H Hs' H') : Ext Hs H (cutView Hs H Hs') H' := by
  refine ⟨x.all, fun a o h => ?_, fun a o h => ?_, fun a o h t hn => ?_⟩
  · unfold cutView
    rw [h]
    exact x.view a o (lv_view a o h)
  · unfold cutView at h
    cases q : Hs a with
    | some u => rw [q] at h; exact x.sub a o h
    | none =>
      cases q2 : H a with
      | some u =>
        rw [q, q2] at h
        simp only at h
        split at h
        · exact x.sub a o h
        · cases h
      | none => rw [q, q2] at h; exact x.sub a o h
  · unfold cutView
    rw [hn, h]
    simp only [t, Bool.false_eq_true, if_false]
/-- the callee's promise from the arguments' -/
theorem callee {i np : Nat} {fr lb : Bool} {vs dvs : List V} {ds dfl : List D} {Hs H : Hp} {Q : VK} {E : XK} (sub : Same Hs H) (bs : BReps g Hs H vs ds) (rs : lb = false → Reps g Hs vs ds) (hd : ∀ H, Reps g H dvs dfl) (hl : (vs ++ dvs).length = np)
    (h : holds (lent lb (F i (ds ++ dfl))) (fun d => match fr with | true => PR g Hs H d Q | false => PV g Hs H d Q) (EXc g E Hs H)) : spF g F i np fr (vs ++ dvs) H Q E := by
  cases lb with
  | false =>
    refine ⟨Hs, ds ++ dfl, sub, (rs rfl).append (hd _), hl, ?_⟩
    cases q : F i (ds ++ dfl) with
    | no => rw [q] at h; exact h
    | ok d => rw [q] at h; exact h
    | ex c => rw [q] at h; exact h
  | true =>
    refine ⟨lstView Hs H, ds ++ dfl, lv_sub sub, (lv_reps sub bs).append (hd _), hl, ?_⟩
    cases q : F i (ds ++ dfl) with
    | no => rw [q] at h; exact h
    | ok d =>
      rw [q] at h
      obtain ⟨hn, h⟩ := holds_gd (show holds (gd (!true || noLst d) d) _ _ from h)
      have hn : noLst d = true := hn
      cases fr with
      | false => exact fun v Hs' H' x r => h v _ H' (cut_ext sub x) (cut_rep x hn r)
      | true =>
        intro v Hs' H' x r
        rcases r with ⟨r, z⟩ | ⟨_, _, _, _, z, _⟩
        · exact h v _ H' (cut_ext sub x) (.inl ⟨cut_rep x hn r, z⟩)
        · subst z; simp only [noLst, Bool.false_eq_true] at hn
    | ex c =>
      rw [q] at h
      exact fun Hs' H' x => h Hs H' ⟨x.all, Same.refl _, sub.trans x.all, fun _ _ _ _ n => n⟩
end
end Dw

namespace Dw
open PySem PySem.Spec PyProof.Rows L2
section
variable {g : G} {T : Tab} {F : Fs} {H0 : Hp} {CX : CXT}
/-- what is shown of an argument list, of a walk -/
def SndL (g : G) (F : Fs) (H0 : Hp) (E : XK) (X : Cx) (es : List Ex) (xs : List Expr) : Prop := PA X xs (tA g F H0 E es)
theorem lends_cons {x : Ex} {es : List Ex} : lends (x :: es) = (isBor x || lends es) := by cases x <;> rfl
theorem sargs_cons {x : Ex} {es : List Ex} {E : XK} {X : Cx} {e : Expr} {xs : List Expr} (hx : Snd g T F H0 E X x e) (hn : notStar e = true) (hs : PA X xs (tA g F H0 E es)) : PA X (e :: xs) (tA g F H0 E (x :: es)) := by
  cases hb : isBor x with
  | false =>
    refine paw (pa_cons (hx.v hb) hs (star_cons hn)) fun pins s σ H Q I ⟨ρ, Hs, re, h⟩ => ?_
    unfold evL at h
    refine ⟨ρ, Hs, re, holds_mono (holds_bind h) (fun d _ h2 v Hs1 H1 e1 r1 => ⟨ρ, Hs1, re.ext e1, holds_mono (holds_bind h2) (fun ds _ q vs Hs2 H2 e2 b2 r2 => ?_) fun _ z => z.ext e1⟩) fun _ z => z⟩
    refine q (v :: vs) Hs2 H2 (e1.trans e2) (.cons (.inl (r1.mono e2.view)) b2) fun hl => .cons (r1.mono e2.view) (r2 ?_)
    rw [lends_cons, hb] at hl
    exact hl
  | true =>
    refine paw (pa_cons hx.o hs (star_cons hn)) fun pins s σ H Q I ⟨ρ, Hs, re, h⟩ => ?_
    unfold evL at h
    refine ⟨ρ, Hs, re, holds_mono (holds_bind h) (fun d _ h2 v Hs1 H1 e1 r1 => ⟨ρ, Hs1, re.ext e1, holds_mono (holds_bind h2) (fun ds _ q vs Hs2 H2 e2 b2 r2 => ?_) fun _ z => z.ext e1⟩) fun _ z => z⟩
    refine q (v :: vs) Hs2 H2 (e1.trans e2) (.cons (r1.ext e2) b2) fun hl => ?_
    rw [lends_cons, hb] at hl
    cases hl
theorem sargs_nil {E : XK} {X : Cx} : PA X [] (tA g F H0 E []) := paw pa_nil fun pins s σ H Q I ⟨ρ, Hs, re, h⟩ => by
  unfold evL at h
  exact h [] Hs H (Ext.refl re.sub) .nil fun _ => .nil
theorem pkw {X : Cx} {kws : List Keyword} {t t' : TA} (h : PK X kws t) (w : ∀ pins s σ H Q, Inv X pins σ H s → t' σ H Q → t σ H Q) : PK X kws t' := ⟨fun pos pins s σ H Q I q => h.run pos pins s σ H Q I (w pins s σ H Q I q)⟩
theorem skargs_nil {E : XK} {X : Cx} : PK X [] (tA g F H0 E []) := pkw pk_nil fun pins s σ H Q I ⟨ρ, Hs, re, h⟩ => by
  unfold evL at h
  exact h [] Hs H (Ext.refl re.sub) .nil fun _ => .nil
theorem skargs_cons {x : Ex} {es : List Ex} {E : XK} {X : Cx} {e : Expr} {nm : Option Str} {kp : Pos} {kws : List Keyword} (hx : Snd g T F H0 E X x e) (hb : isBor x = false) (hs : PK X kws (tA g F H0 E es)) : PK X (⟨nm, e, kp⟩ :: kws) (tA g F H0 E (x :: es)) := by
  refine pkw (pk_cons (hx.v hb) hs) fun pins s σ H Q I ⟨ρ, Hs, re, h⟩ => ?_
  unfold evL at h
  refine ⟨ρ, Hs, re, holds_mono (holds_bind h) (fun d _ h2 v Hs1 H1 e1 r1 => ⟨ρ, Hs1, re.ext e1, holds_mono (holds_bind h2) (fun ds _ q vs Hs2 H2 e2 b2 r2 => ?_) fun _ z => z.ext e1⟩) fun _ z => z⟩
  refine q (v :: vs) Hs2 H2 (e1.trans e2) (.cons (.inl (r1.mono e2.view)) b2) fun hl => .cons (r1.mono e2.view) (r2 ?_)
  rw [lends_cons, hb] at hl
  exact hl
theorem XOk.wish {X : Cx} (ok : XOk g T F CX X) (ex : Value → Shared → Prop) : XOk g T F CX (X.wish ex) :=
  ⟨ok.K, ok.nd, ok.calm, ok.un, ok.blt, fun i fi h => ⟨(ok.fns i fi h).ex⟩, ok.cons, ok.exs, ok.cls, fun m c i np h => ⟨(ok.mts m c i np h).ex⟩, ok.rm, ok.px⟩
theorem XOk.blk {X : Cx} (ok : XOk g T F CX X) (s : Shared) (H : Hp) (sc : Scope) (env : Env) (fp : List Addr) : XOk g T F CX (X.blk s H sc env fp) :=
  ⟨ok.K, ok.nd, ok.calm, ok.un, ok.blt, fun i fi h => ⟨(ok.fns i fi h).ex⟩, ok.cons, ok.exs, ok.cls, fun m c i np h => ⟨(ok.mts m c i np h).ex⟩, ok.rm, ok.px⟩
theorem or_pi {X : Cx} {tg e : Expr} {a b : TI} (h1 : PI X tg e a) (h2 : PI X tg e b) : PI X tg e (fun σ H R => a σ H R ∨ b σ H R) := ⟨fun pins s σ H R I h => h.elim (h1.run pins s σ H R I) (h2.run pins s σ H R I)⟩

/-- a walk's reading through its arguments' -/
theorem itr_args {k : Ik} {es : List Ex} {E : XK} {σ : L2.St} {H : Hp} {R : It → Hp → Prop} (h : tI g F H0 E k es σ H R) : tA g F H0 E es σ H fun vs H1 => ∃ Hs1 ds, Same Hs1 H1 ∧ BReps g Hs1 H1 vs ds ∧ (lends es = false → Reps g Hs1 vs ds) ∧
    ∃ its, itD k ds = .ok its ∧ ∀ J Hs' H', Ext Hs1 H1 Hs' H' → WalkD g Hs' H' J its → R J H' := by
  obtain ⟨ρ, Hs, re, h⟩ := h
  refine ⟨ρ, Hs, re, holds_mono (holds_bind h) (fun ds _ h2 vs Hs1 H1 e1 b1 r1 => ?_) fun _ z => z⟩
  refine ⟨Hs1, ds, e1.sub, b1, r1, ?_⟩
  cases q : itD k ds with
  | no => rw [q] at h2; exact h2.elim
  | ok its => rw [q] at h2; exact ⟨its, rfl, fun J Hs' H' e' w => h2 J Hs' H' (e1.trans e') w⟩
  | ex c =>
    exfalso
    unfold itD at q
    split at q <;> first | (unfold gd at q; split at q <;> cases q) | cases q
theorem rg_of {a b : Int} {its : List D} {l : List D} (h : gd (rgOk a b) l = .ok its) : (-(2 ^ 62) ≤ a ∧ a < 2 ^ 62 ∧ -(2 ^ 62) ≤ b ∧ b < 2 ^ 62) ∧ its = l := by
  unfold gd at h
  split at h
  · rename_i q
    cases h
    unfold rgOk at q
    simp only [Bool.and_eq_true, decide_eq_true_eq] at q
    exact ⟨⟨q.1.1.1, q.1.1.2, q.1.2, q.2⟩, rfl⟩
  · cases h
theorem itD_rng1 {ds its : List D} (h : itD .rng1 ds = .ok its) : ∃ j, ds = [.int j] ∧ gd (rgOk 0 j) (rgD 0 j.toNat) = .ok its := by
  unfold itD at h
  split at h <;> first | contradiction | exact ⟨_, rfl, h⟩
theorem itD_rng2 {ds its : List D} (h : itD .rng2 ds = .ok its) : ∃ i j, ds = [.int i, .int j] ∧ its = rgD i (j - i).toNat := by
  unfold itD at h
  split at h <;> first | (rename_i z _; cases z; done) | skip
  all_goals (try cases h)
  all_goals (try (rename_i z; cases z))
  all_goals (exact ⟨_, _, rfl, rfl⟩)
def isSeq (k : Bool) (d : D) (xs : List D) : Prop := match k with
  | true => d = .tup xs
  | false => d = .lst xs
theorem itD_zip {ds its : List D} (h : itD .zip ds = .ok its) : ∃ k m d e xs ys, ds = [d, e] ∧ isSeq k d xs ∧ isSeq m e ys ∧ its = (xs.zip ys).map fun p => .tup [p.1, p.2] := by
  unfold itD at h
  split at h <;> first | contradiction | skip
  · cases h; exact ⟨true, true, _, _, _, _, rfl, rfl, rfl, rfl⟩
  · cases h; exact ⟨false, false, _, _, _, _, rfl, rfl, rfl, rfl⟩
  · cases h; exact ⟨false, true, _, _, _, _, rfl, rfl, rfl, rfl⟩
  · cases h; exact ⟨true, false, _, _, _, _, rfl, rfl, rfl, rfl⟩
theorem rep_seq {Hs : Hp} {k : Bool} {v : V} {d : D} {xs : List D} (r : Rep g Hs v d) (h : isSeq k d xs) : ∃ a vs, v = .ref a ∧ SqK g.K k Hs a vs ∧ Reps g Hs vs xs := by
  cases k
  · cases h
    cases r with
    | lst s r => exact ⟨_, _, rfl, s, r⟩
  · cases h
    cases r with
    | tup s r => exact ⟨_, _, rfl, .inl (.inl s), r⟩
theorem SqK.up {K : PySem.W.Frag} {Hs H : Hp} {k : Bool} {a : Addr} {vs : List V} (e : Same Hs H) (s : SqK K k Hs a vs) : SqK K k H a vs := by
  cases k
  · exact Same.seq e s
  · exact Same.sqT e s
theorem walk_zipK {Hs H : Hp} {k m : Bool} {a b : Addr} {vs ws : List V} {ds es : List D} (s : SqK g.K k Hs a vs) (r : Reps g Hs vs ds) (s2 : SqK g.K m Hs b ws) (r2 : Reps g Hs ws es) : WalkD g Hs H (ItzK g.K k m a b) ((ds.zip es).map fun p => .tup [p.1, p.2]) := by
  refine walk_pair (n := min vs.length ws.length) (by rw [List.length_map, List.length_zip, r.length, r2.length]) (walk_zk rfl) (fun H' e => ⟨SqK.up e s, SqK.up e s2⟩) fun i x y hi h1 h2 => ?_
  have l1 := r.length
  have l2 := r2.length
  obtain ⟨v, k1, k2⟩ := r.get (d := ds[i]'(by omega)) (List.getElem?_eq_getElem (by omega))
  obtain ⟨v', k3, k4⟩ := r2.get (d := es[i]'(by omega)) (List.getElem?_eq_getElem (by omega))
  rw [h1] at k1; cases k1
  rw [h2] at k3; cases k3
  exact ⟨_, _, by rw [List.getElem?_map, zip_get ds es i _ _ (List.getElem?_eq_getElem (by omega)) (List.getElem?_eq_getElem (by omega))]; rfl, k2, k4⟩
theorem itD_enm {ds its : List D} (h : itD .enm ds = .ok its) : ∃ xs, (ds = [.lst xs] ∨ ds = [.tup xs]) ∧ its = (xs.zip (rgD 0 xs.length)).map fun p => .tup [p.2, p.1] := by
  unfold itD at h
  split at h <;> first | contradiction | (cases h; exact ⟨_, .inl rfl, rfl⟩) | (cases h; exact ⟨_, .inr rfl, rfl⟩)
theorem pi_seq {X : Cx} {x : Ex} {E : XK} {tg e : Expr} (hK : X.K = g.K) (hx : PE X e (tE g F H0 E x)) : PI X tg e (tI g F H0 E .seq [x]) := by
  refine piw (or_pi (pi_list hx) (pi_tup hx)) fun pins s σ H R I ⟨ρ, Hs, re, h⟩ => ?_
  unfold evL evL at h
  cases q : evE F x ρ with
  | no => rw [q] at h; exact h.elim
  | ex c => rw [q] at h; exact .inl ⟨ρ, Hs, re, by rw [q]; exact h⟩
  | ok d =>
    rw [q] at h
    cases d <;> first | exact h.elim | skip
    · refine .inr ⟨ρ, Hs, re, ?_⟩
      rw [q]
      intro v Hs1 H1 e1 r1
      cases r1 with
      | tup s r => exact ⟨_, rfl, ⟨_, by rw [hK]; exact .inl (.inl (e1.sub _ _ s))⟩, by rw [hK]; exact h _ Hs1 H1 e1 (walk_seqT (.inl (.inl s)) r)⟩
    · refine .inl ⟨ρ, Hs, re, ?_⟩
      rw [q]
      intro v Hs1 H1 e1 r1
      cases r1 with
      | lst s r => exact ⟨_, rfl, ⟨_, by rw [hK]; exact Same.seq e1.sub s⟩, by rw [hK]; exact h _ Hs1 H1 e1 (walk_seqL s r)⟩
/-- an own list, walked where nothing is changed -/
theorem pi_own {X : Cx} {i : Nat} {E : XK} {tg e : Expr} (hK : X.K = g.K) (hx : PE X e (tO g F H0 E (.bor i))) : PI X tg e (tIC g F H0 E .seq [.bor i]) := by
  refine piw (or_pi (pi_list hx) (pi_tup hx)) fun pins s σ H R I ⟨ρ, Hs, re, h⟩ => ?_
  unfold evL evL at h
  cases q : evE F (.bor i) ρ with
  | no => rw [q] at h; exact h.elim
  | ex c => rw [q] at h; exact .inl ⟨ρ, Hs, re, by rw [q]; exact h⟩
  | ok d =>
    rw [q] at h
    cases d <;> first | exact h.elim | skip
    · refine .inr ⟨ρ, Hs, re, ?_⟩
      rw [q]
      intro v Hs1 H1 e1 r1
      obtain ⟨p, vs, rfl, s, r⟩ := r1.tuple e1.sub
      exact ⟨_, rfl, ⟨_, by rw [hK]; exact s⟩, by rw [hK]; exact h _ Hs1 H1 e1 (walk_ownT s r)⟩
    · refine .inl ⟨ρ, Hs, re, ?_⟩
      rw [q]
      intro v Hs1 H1 e1 r1
      obtain ⟨p, vs, rfl, s, r⟩ := r1.list e1.sub
      exact ⟨_, rfl, ⟨_, by rw [hK]; exact s⟩, by rw [hK]; exact h _ Hs1 H1 e1 (walk_own s r)⟩
theorem reps_one {Hs : Hp} {vs : List V} {d : D} (r : Reps g Hs vs [d]) : ∃ v, vs = [v] ∧ Rep g Hs v d := by
  cases r with
  | cons a t => cases t; exact ⟨_, rfl, a⟩
theorem reps_two {Hs : Hp} {vs : List V} {d e : D} (r : Reps g Hs vs [d, e]) : ∃ v w, vs = [v, w] ∧ Rep g Hs v d ∧ Rep g Hs w e := by
  cases r with
  | cons a t =>
    obtain ⟨w, rfl, b⟩ := reps_one t
    exact ⟨_, _, rfl, a, b⟩
theorem it_one {k : Ik} {ds its : List D} {x : Ex} {es : List Ex} {ρ : List Sl} (h : evL F [x] ρ = .ok ds) : ∃ d, ds = [d] := by
  unfold evL evL at h
  cases q : evE F x ρ with
  | no => rw [q] at h; cases h
  | ex c => rw [q] at h; cases h
  | ok d => rw [q] at h; cases h; exact ⟨d, rfl⟩
theorem nolend1 {x : Ex} (h : isBor x = false) : lends [x] = false := by
  cases x <;> first | rfl | (simp only [isBor, Bool.true_eq_false] at h)
theorem nolend2 {x y : Ex} (h : isBor x = false) (h2 : isBor y = false) : lends [x, y] = false := by
  cases x <;> first | exact nolend1 h2 | (simp only [isBor, Bool.true_eq_false] at h)
theorem pi_rng1 {X : Cx} {x : Ex} {E : XK} {tg a : Expr} {p pos : Pos} (hg : Gl X "range") (hm : X.mg "range" = none) (ha : PA X [a] (tA g F H0 E [x])) (na : notStar a = true) : PI X tg (.Call (.Name "range" p) [a] [] pos) (tI g F H0 E .rng1 [x]) := by
  refine piw (pi_range1 hg hm ha (star_cons na)) fun pins s σ H R I h => ?_
  obtain ⟨ρ, Hs, re, h⟩ := itr_args h
  refine ⟨ρ, Hs, re, holds_mono h (fun ds hd q vs Hs1 H1 e1 b1 r1 => ?_) fun _ z => z⟩
  obtain ⟨Hs2, es, sub, b2, _, its, hi, q⟩ := q vs Hs1 H1 e1 b1 r1
  obtain ⟨j, rfl, hi⟩ := itD_rng1 hi
  obtain ⟨v, rfl, b⟩ := b2.one
  cases b.rint
  obtain ⟨⟨_, _, h3, h4⟩, rfl⟩ := rg_of hi
  exact ⟨_, rfl, h3, h4, q _ Hs2 H1 (Ext.refl sub) walk_rg⟩
theorem turn_long {P : Program} {w : World} {K : PySem.W.Frag} {tg : Expr} (it : Addr) (lo : Int) (n : Nat) : Turn P w K tg (Itr lo n) [it] it (fun i h => IsLongIter h it (lo + (i : Nat) * 1) ((n : Int) - (i : Nat)) 1) where
  mem := by simp
  obj := fun i h st b hb => by
    have e : b = it := by simpa using hb
    subst e
    exact ⟨_, st, fun v z => by
      have z' : Data.fields _ = Data.cell v := z
      cases z'⟩
  keep := fun i h h' st k => k it (by simp) _ st
  item := by
    intro X hP hw hK hc i pins s σ H E I hf st hg
    subst hP hw hK
    obtain ⟨f0, f1, f2, f3, f4, f5⟩ := hf it (by simp)
    have W := Walks.longrange (prog := X.prog) (w := X.w) (I.ok.hd hc) it lo 1 n
    refine W.item i s _ _ hg st fun v h' tk hv st' kk => ?_
    obtain ⟨t, rfl⟩ := hv
    have I1 : Inv X pins σ H { s with heap := h', toks := tk } := I.turned (fun b o hb e => kk b o (by simpa using hb) e) f0 f1 f3 f4 f5
    refine ⟨_, rfl, go_of (s := { s with heap := h', toks := tk }) (n := "longrange_iterator") st' rfl rfl (by decide) ⟨.int (lo + i), H, I1, ⟨t, ?_⟩, ⟨rfl, rfl⟩, st', fun b hb => (hf b hb).1⟩⟩
    rw [Int.mul_one]
  done := by
    intro X hP hw hK hc i pins s σ H E I hf st hg
    subst hP hw hK
    obtain ⟨f0, f1, f2, f3, f4, f5⟩ := hf it (by simp)
    exact wpAny_pyNext_long_end (I.ok.hd hc) st (by have : n ≤ i := hg; omega) fun h' eb => ⟨rfl, I.turned (t' := s.toks) (fun b o hb e => eb b o hb e) f0 f1 f3 f4 f5⟩
  self := fun _ _ _ _ _ st h => wpAny_pyIter_longiter st h
/-- range(i, j) of any two numbers -/
theorem range_any {X : Cx} {tg : Expr} {pins : List (Addr × Obj)} {σ : L2.St} {H : Hp} {s : Shared} {R : It → Hp → Prop} {E : Value → Shared → Prop} {lo hi : Int} {t u v : Tok} {tk : Nat} (I : Inv X pins σ H s)
    (q : R (Itr lo (hi - lo).toNat) H) : wpAny (model X.prog X.w) X.A (pyIter (.ref s.heap.objs.size)) (PIE X pins σ tg R) E { s with heap := s.heap.push { cls := .type "range", data := .fields #[.int lo t, .int hi u, .int 1 v] }, toks := tk } := by
  have I1 : Inv X pins σ H { s with heap := s.heap.push { cls := .type "range", data := .fields #[.int lo t, .int hi u, .int 1 v] }, toks := tk } := I.kept fun b o e => Heap.get?_push_of_some _ e
  have e1 : lo + ((0 : Nat) : Int) * 1 = lo := by simp
  have e2 : (((hi - lo).toNat : Nat) : Int) - ((0 : Nat) : Int) = Builtin.Range.rangeSize lo hi 1 := by rw [rangeSize_one]; split <;> omega
  have hfp : ∀ b, b ∈ [(s.heap.push { cls := .type "range", data := .fields #[.int lo t, .int hi u, .int 1 v] }).objs.size] → FpOk X pins H b := fun b hb => by
    have e : b = (s.heap.push { cls := .type "range", data := .fields #[.int lo t, .int hi u, .int 1 v] }).objs.size := by simpa using hb
    subst e
    exact I1.fpOk (Nat.le_refl _) (I1.hok.fresh (Nat.le_refl _))
  cases hs : Builtin.Range.small lo hi 1 with
  | true =>
    refine wpAny_pyIter_range (IsRange.new ..) hs ?_
    refine ⟨(s.heap.push { cls := .type "range", data := .fields #[.int lo t, .int hi u, .int 1 v] }).objs.size, [(s.heap.push { cls := .type "range", data := .fields #[.int lo t, .int hi u, .int 1 v] }).objs.size], _, _, H, rfl,
      I1.kept (t' := tk) fun b o e => Heap.get?_push_of_some _ e, turn_range _ lo (hi - lo).toNat, ?_, hfp, q⟩
    show IsRangeIter _ _ (lo + ((0 : Nat) : Int) * 1) ((((hi - lo).toNat : Nat) : Int) - ((0 : Nat) : Int)) 1
    rw [e1, e2]
    exact Heap.get?_push_size _ rfl
  | false =>
    refine wpAny_pyIter_longrange (IsRange.new ..) hs ?_
    refine ⟨(s.heap.push { cls := .type "range", data := .fields #[.int lo t, .int hi u, .int 1 v] }).objs.size, [(s.heap.push { cls := .type "range", data := .fields #[.int lo t, .int hi u, .int 1 v] }).objs.size], _, _, H, rfl,
      I1.kept (t' := tk) fun b o e => Heap.get?_push_of_some _ e, turn_long _ lo (hi - lo).toNat, ?_, hfp, q⟩
    show IsLongIter _ _ (lo + ((0 : Nat) : Int) * 1) ((((hi - lo).toNat : Nat) : Int) - ((0 : Nat) : Int)) 1
    rw [e1, e2]
    exact Heap.get?_push_size _ rfl
def iRng2B (ta : TA) : TI := fun σ H R => ta σ H fun vs H1 => ∃ i j : Int, vs = [.int i, .int j] ∧ R (Itr i (j - i).toNat) H1
theorem pi_range2B {X : Cx} {tg a b : Expr} {ta : TA} {p pos : Pos} (hg : Gl X "range") (hm : X.mg "range" = none) (ha : PA X [a, b] ta) (hs : starEach [a, b] X.env = [(false, eval a X.env), (false, eval b X.env)]) (hs2 : starEach [b] X.env = [(false, eval b X.env)]) :
    PI X tg (.Call (.Name "range" p) [a, b] [] pos) (iRng2B ta) := by
  refine ⟨fun pins s σ H R I h => ?_⟩
  refine Call_ (ld_blt I hg hm boot_range (PyProof.Rows.callWith_type1 (thn (ha.run pos pins s σ H _ I h) fun us s1 ⟨vs, H1, I1, r1, q1⟩ => ?_) (by rw [hs, hs2]) (by rw [hs2]; rfl)))
  obtain ⟨i, j, e, q⟩ := q1
  subst e
  cases r1 with
  | cons r rr =>
    cases rr with
    | cons r' rr =>
      cases rr
      obtain ⟨t, rfl⟩ := r
      obtain ⟨t', rfl⟩ := r'
      exact call_range_2 (range_any I1 q)
theorem pi_rng2 {X : Cx} {x y : Ex} {E : XK} {tg a b : Expr} {p pos : Pos} (hg : Gl X "range") (hm : X.mg "range" = none) (ha : PA X [a, b] (tA g F H0 E [x, y])) (na : notStar a = true) (nb : notStar b = true) : PI X tg (.Call (.Name "range" p) [a, b] [] pos) (tI g F H0 E .rng2 [x, y]) := by
  refine piw (pi_range2B hg hm ha (by rw [star_cons na, star_cons nb]; rfl) (star_cons nb)) fun pins s σ H R I h => ?_
  obtain ⟨ρ, Hs, re, h⟩ := itr_args h
  refine ⟨ρ, Hs, re, holds_mono h (fun ds hd q vs Hs1 H1 e1 b1 r1 => ?_) fun _ z => z⟩
  obtain ⟨Hs2, es, sub, b2, _, its, hi, q⟩ := q vs Hs1 H1 e1 b1 r1
  obtain ⟨i, j, rfl, rfl⟩ := itD_rng2 hi
  obtain ⟨v, w, rfl, b, c⟩ := b2.two
  cases b.rint; cases c.rint
  exact ⟨_, _, rfl, q _ Hs2 H1 (Ext.refl sub) walk_rg⟩
theorem itD_rng3 {ds its : List D} (h : itD .rng3 ds = .ok its) : ∃ i j c, ds = [.int i, .int j, .int c] ∧ gd (rgOk i j && decide (0 < c) && decide (c < 1073741824)) (rgS i c (rgN i j c)) = .ok its := by
  unfold itD at h
  split at h <;> first | (rename_i z _; cases z; done) | skip
  all_goals (try cases h)
  all_goals (try (rename_i z; cases z))
  all_goals (exact ⟨_, _, _, rfl, h⟩)
theorem pi_rng3 {X : Cx} {x y z : Ex} {E : XK} {tg a b c : Expr} {p pos : Pos} (hg : Gl X "range") (hm : X.mg "range" = none) (ha : PA X [a, b, c] (tA g F H0 E [x, y, z])) (na : notStar a = true) (nb : notStar b = true) (nc : notStar c = true) : PI X tg (.Call (.Name "range" p) [a, b, c] [] pos) (tI g F H0 E .rng3 [x, y, z]) := by
  refine piw (pi_range3 hg hm ha (by rw [star_cons na]) (by rw [star_cons nb, star_cons nc]; rfl)) fun pins s σ H R I h => ?_
  obtain ⟨ρ, Hs, re, h⟩ := itr_args h
  refine ⟨ρ, Hs, re, holds_mono h (fun ds hd q vs Hs1 H1 e1 b1 r1 => ?_) fun _ z => z⟩
  obtain ⟨Hs2, es, sub, b2, _, its, hi, q⟩ := q vs Hs1 H1 e1 b1 r1
  obtain ⟨i, j, k, rfl, hk⟩ := itD_rng3 hi
  obtain ⟨v, w, u, rfl, b, c, d⟩ := b2.three
  cases b.rint; cases c.rint; cases d.rint
  cases hz : (rgOk i j && decide (0 < k) && decide (k < 1073741824)) with
  | false => rw [hz] at hk; cases hk
  | true =>
    rw [hz] at hk
    cases hk
    simp only [Bool.and_eq_true, decide_eq_true_eq, rgOk] at hz
    obtain ⟨⟨⟨⟨⟨h1, h2⟩, h3⟩, h4⟩, h5⟩, h6⟩ := hz
    exact ⟨_, _, _, _, rfl, rgN_ok h1 h2 h3 h4 h5 h6, q _ Hs2 H1 (Ext.refl sub) walk_rgs⟩
theorem pi_zp {X : Cx} {x y : Ex} {E : XK} {a b : Expr} {elts : List Expr} {kk : Nat} {tpos p pos : Pos} (hK : X.K = g.K) (hg : Gl X "zip") (hm : X.mg "zip" = none) (ha : PA X [a, b] (tA g F H0 E [x, y])) (na : notStar a = true) (nb : notStar b = true) (h1 : isBor x = false) (h2 : isBor y = false)
    (hpl : (backTo pos (starEach [b] X.env)).any (·.1) = false) : PI X (.Tuple elts kk tpos) (.Call (.Name "zip" p) [a, b] [] pos) (tI g F H0 E .zip [x, y]) := by
  refine piw (pi_zipK hg hm ha (star_cons na) hpl) fun pins s σ H R I h => ?_
  obtain ⟨ρ, Hs, re, h⟩ := itr_args h
  refine ⟨ρ, Hs, re, holds_mono h (fun ds hd q vs Hs1 H1 e1 b1 r1 => ?_) fun _ z => z⟩
  obtain ⟨Hs2, es, sub, b2, r2, its, hi, q⟩ := q vs Hs1 H1 e1 b1 r1
  have r2 := r2 (nolend2 h1 h2)
  obtain ⟨k, m, d, e, xs, ys, rfl, sd, se, rfl⟩ := itD_zip hi
  obtain ⟨v, w, rfl, b, c⟩ := reps_two r2
  obtain ⟨a1, vs1, rfl, q1, p1⟩ := rep_seq b sd
  obtain ⟨a2, vs2, rfl, q2, p2⟩ := rep_seq c se
  exact ⟨_, _, _, _, k, m, rfl, by rw [hK]; exact SqK.up sub q1, by rw [hK]; exact SqK.up sub q2, by rw [hK]; exact q _ Hs2 H1 (Ext.refl sub) (walk_zipK q1 p1 q2 p2)⟩
theorem pi_en {X : Cx} {x : Ex} {E : XK} {a : Expr} {elts : List Expr} {kk : Nat} {tpos p pos : Pos} (hK : X.K = g.K) (hg : Gl X "enumerate") (hm : X.mg "enumerate" = none) (ha : PA X [a] (tA g F H0 E [x])) (na : notStar a = true) (h1 : isBor x = false) :
    PI X (.Tuple elts kk tpos) (.Call (.Name "enumerate" p) [a] [] pos) (tI g F H0 E .enm [x]) := by
  refine piw (pi_enumA hg hm ha (star_cons na)) fun pins s σ H R I h => ?_
  obtain ⟨ρ, Hs, re, h⟩ := itr_args h
  refine ⟨ρ, Hs, re, holds_mono h (fun ds hd q vs Hs1 H1 e1 b1 r1 => ?_) fun _ z => z⟩
  obtain ⟨Hs2, es, sub, b2, r2, its, hi, q⟩ := q vs Hs1 H1 e1 b1 r1
  have r2 := r2 (nolend1 h1)
  obtain ⟨xs, rfl | rfl, rfl⟩ := itD_enm hi
  · obtain ⟨v, rfl, b⟩ := reps_one r2
    cases b with
    | lst s r => exact ⟨_, _, rfl, .inl ⟨by rw [hK]; exact Same.seq sub s, by rw [hK]; exact q _ Hs2 H1 (Ext.refl sub) (walk_enm s r)⟩⟩
  · obtain ⟨v, rfl, b⟩ := reps_one r2
    cases b with
    | tup s r => exact ⟨_, _, rfl, .inr ⟨by rw [hK]; exact .inl (.inl (sub _ _ s)), by rw [hK]; exact q _ Hs2 H1 (Ext.refl sub) (walk_enmT (.inl (.inl s)) r)⟩⟩
theorem pi_rv {X : Cx} {x : Ex} {E : XK} {tg a : Expr} {p pos : Pos} (hK : X.K = g.K) (hg : Gl X "reversed") (hm : X.mg "reversed" = none) (ha : PE X a (tE g F H0 E x)) (na : notStar a = true) : PI X tg (.Call (.Name "reversed" p) [a] [] pos) (tI g F H0 E .rev [x]) := by
  refine piw (RT.pi_revA hg hm ha (star_cons na)) fun pins s σ H R I ⟨ρ, Hs, re, h⟩ => ?_
  unfold evL evL at h
  refine ⟨ρ, Hs, re, ?_⟩
  cases q : evE F x ρ with
  | no => rw [q] at h; exact h
  | ex c => rw [q] at h; exact h
  | ok d =>
    rw [q] at h
    cases d <;> first | exact h.elim | skip
    · intro v Hs1 H1 e1 r1
      cases r1 with
      | tup s r => exact ⟨_, _, rfl, .inr ⟨by rw [hK]; exact .inl (.inl (e1.sub _ _ s)), by rw [hK]; exact h _ Hs1 H1 e1 (walk_revT (.inl (.inl s)) r)⟩⟩
    · intro v Hs1 H1 e1 r1
      cases r1 with
      | lst s r => exact ⟨_, _, rfl, .inl ⟨by rw [hK]; exact Same.seq e1.sub s, by rw [hK]; exact h _ Hs1 H1 e1 (walk_revL s r)⟩⟩
theorem pi_rr1 {X : Cx} {x : Ex} {E : XK} {tg a : Expr} {p pos p2 pos2 : Pos} (hg : Gl X "reversed") (hm : X.mg "reversed" = none) (hg2 : Gl X "range") (hm2 : X.mg "range" = none) (ha : PE X a (tE g F H0 E x)) (na : notStar a = true) : PI X tg (.Call (.Name "reversed" p) [.Call (.Name "range" p2) [a] [] pos2] [] pos) (tI g F H0 E .rvr1 [x]) := by
  refine piw (pi_revR hg hm (prg_1 hg2 hm2 ha (star_cons na)) (star_cons rfl)) fun pins s σ H R I ⟨ρ, Hs, re, h⟩ => ?_
  unfold evL evL at h
  refine ⟨ρ, Hs, re, ?_⟩
  cases q : evE F x ρ with
  | no => rw [q] at h; exact h
  | ex c => rw [q] at h; exact h
  | ok d =>
    rw [q] at h
    cases d <;> first | exact h.elim | skip
    rename_i j
    intro v Hs1 H1 e1 r1
    cases r1
    obtain ⟨hr, h⟩ := holds_gd (show holds (gd (rgOk 0 j) (rgD 0 j.toNat).reverse) _ _ from h)
    unfold rgOk at hr
    simp only [Bool.and_eq_true, decide_eq_true_eq] at hr
    refine ⟨j, rfl, hr.1.1.1, hr.1.1.2, hr.1.2, hr.2, ?_⟩
    rw [show (j - 0).toNat = j.toNat by rw [Int.sub_zero]]
    exact h _ Hs1 H1 e1 walk_rgr
theorem pi_rr2 {X : Cx} {x y : Ex} {E : XK} {tg a b : Expr} {p pos p2 pos2 : Pos} (hg : Gl X "reversed") (hm : X.mg "reversed" = none) (hg2 : Gl X "range") (hm2 : X.mg "range" = none) (ha : PE X a (tE g F H0 E x)) (na : notStar a = true) (hb : PE X b (tE g F H0 E y)) (nb : notStar b = true)
    (hpl : (backTo pos2 (starEach [b] X.env)).any (·.1) = false) : PI X tg (.Call (.Name "reversed" p) [.Call (.Name "range" p2) [a, b] [] pos2] [] pos) (tI g F H0 E .rvr2 [x, y]) := by
  refine piw (pi_revR hg hm (prg_2 hg2 hm2 ha hb (star_cons na) (star_cons nb) hpl) (star_cons rfl)) fun pins s σ H R I ⟨ρ, Hs, re, h⟩ => ?_
  unfold evL evL evL at h
  refine ⟨ρ, Hs, re, ?_⟩
  cases q : evE F x ρ with
  | no => rw [q] at h; exact h
  | ex c => rw [q] at h; exact h
  | ok d =>
    rw [q] at h
    intro v Hs1 H1 e1 r1
    refine ⟨ρ, Hs1, re.ext e1, ?_⟩
    cases q2 : evE F y ρ with
    | no => rw [q2] at h; exact h
    | ex c => rw [q2] at h; exact EXc.ext h e1
    | ok d2 =>
      rw [q2] at h
      cases d <;> first | exact h.elim | skip
      cases d2 <;> first | exact h.elim | skip
      rename_i i j
      intro w Hs2 H2 e2 r2
      cases r1; cases r2
      obtain ⟨hr, h⟩ := holds_gd (show holds (gd (rgOk i j) (rgD i (j - i).toNat).reverse) _ _ from h)
      unfold rgOk at hr
      simp only [Bool.and_eq_true, decide_eq_true_eq] at hr
      exact ⟨i, j, rfl, rfl, hr.1.1.1, hr.1.1.2, hr.1.2, hr.2, h _ Hs2 H2 (e1.trans e2) walk_rgr⟩
end
end Dw

namespace Dw
open PySem PySem.Spec PyProof.Rows L2
section
variable {g : G} {T : Tab} {F : Fs} {H0 : Hp} {CX : CXT}
/-- a comprehension's test -/
def tCnd (g : G) (F : Fs) (H0 : Hp) : Option Ex → TT
  | none => tYes
  | some c => tT g F H0 E0 c
/-- one turn of a comprehension -/
def compF (F : Fs) (ρ : List Sl) (tg : List Nat) (cond : Option Ex) (elt : Ex) (d : D) : M (Option D) := (tgD (wipeD ρ tg) tg d).bind fun ρ' => match cond with
  | none => (evE F elt ρ').bind fun y => .ok (some y)
  | some c => (evE F c ρ').bind fun b => match b with
    | .bl true => (evE F elt ρ').bind fun y => .ok (some y)
    | .bl false => .ok none
    | _ => .no
theorem ev_comp {ρ : List Sl} {tg : List Nat} {cond : Option Ex} {elt : Ex} {k : Ik} {es : List Ex} : evE F (.comp elt tg k es cond) ρ = ((evL F es ρ).bind fun ds => itD k ds).bind fun its => (gd (fits its.length) its).bind fun its => (compD (compF F ρ tg cond elt) its).bind fun r => .ok (.lst r) := by
  unfold evE
  rfl
theorem ok_bind {α β : Type} {m : M α} {f : α → M β} {b : β} (h : m.bind f = .ok b) : ∃ a, m = .ok a ∧ f a = .ok b := by
  cases m with
  | no => cases h
  | ok a => exact ⟨a, rfl, h⟩
  | ex c => cases h
theorem compD_cons {f : D → M (Option D)} {x : D} {xs r : List D} (h : compD f (x :: xs) = .ok r) : (∃ y r', f x = .ok (some y) ∧ compD f xs = .ok r' ∧ r = y :: r') ∨ (f x = .ok none ∧ compD f xs = .ok r) := by
  unfold compD at h
  split at h
  · rename_i y e
    obtain ⟨r', h1, h2⟩ := ok_bind h
    cases h2
    exact .inl ⟨y, r', e, h1, rfl⟩
  · rename_i e
    exact .inr ⟨e, h⟩
  · cases h
theorem compD_ex {f : D → M (Option D)} {c : Nat} : ∀ {xs : List D}, compD f xs ≠ .ex c
  | [] => by simp [compD]
  | x :: xs => by
    intro h
    unfold compD at h
    split at h
    · cases q : compD f xs with
      | no => rw [q] at h; cases h
      | ok a => rw [q] at h; cases h
      | ex c => exact compD_ex q
    · exact compD_ex h
    · cases h
/-- a comprehension's reading -/
theorem lc_read {X : Cx} {tg : List Nat} {cond : Option Ex} {elt : Ex} {k : Ik} {es : List Ex} {E : XK} (hK : X.K = g.K) {σ : L2.St} {H : Hp} {Q : VK} (h : tR g F H0 E (.comp elt tg k es cond) σ H Q) : tLc (tIC g F H0 E k es) (gD X.K tg) (tCnd g F H0 cond) (tE g F H0 E0 elt) tg σ H Q := by
  obtain ⟨ρ, Hs, re, h⟩ := h
  rw [ev_comp] at h
  refine ⟨ρ, Hs, re, holds_mono (holds_bind h) (fun its _ h2 J Hs1 H1 e1 w D hD => ?_) fun _ z => z⟩
  obtain ⟨hfit, h3⟩ := holds_gd (holds_bind h2)
  have hlen : its.length ≤ sizeLine := of_decide_eq_true hfit
  cases hr : compD (compF F ρ tg cond elt) its with
  | no => rw [hr] at h3; exact h3.elim
  | ex c => exact (compD_ex hr).elim
  | ok r =>
    rw [hr] at h3
    have h3 : PR g Hs H (.lst r) Q := h3
    obtain ⟨Gd, Y, W, hG, hY⟩ := w
    have re1 := (re.ext e1).wipe tg
    have hs1D : Hs1 D = none := e1.sub.free hD
    refine lc_it W (fun i Hc => ∃ Hv acc ys rest, Ext Hs1 H1 Hv Hc ∧ Hv D = none ∧ Hc D = some (.lst acc) ∧ Reps g Hv acc ys ∧ compD (compF F ρ tg cond elt) (its.drop i) = .ok rest ∧ r = ys ++ rest ∧ ys.length ≤ i) ?_ ?_ ?_ ?_
    · exact ⟨Hs1, [], [], r, Ext.newOut e1.sub hD, hs1D, upd_same, .nil, by simpa using hr, rfl, Nat.zero_le _⟩
    · rintro i Hc hi ⟨Hv, acc, ys, rest, x, _⟩
      exact hG Hc x.all
    · rintro i x Hc H' hi ⟨Hv, acc, ys, rest, ex, nD, cD, ra, hc, er, hy⟩ y
      obtain ⟨Hv', d, hd, e2, rd⟩ := hY i Hv Hc x H' hi ex.view ex.sub y
      have hdrop : its.drop i = d :: its.drop (i + 1) := by
        have := List.getElem?_eq_some_iff.mp hd
        obtain ⟨hlt, e⟩ := this
        rw [List.drop_eq_getElem_cons hlt, e]
      rw [hdrop] at hc
      have re2 : RE g H0 Hv' H' (wipeD ρ tg) (L2.wipe σ tg) := (re1.ext ex).ext e2
      have nD2 : Hv' D = none := e2.out D _ cD rfl nD
      have cD2 : H' D = some (.lst acc) := e2.all _ _ cD
      -- what a kept item leads to
      have keep : ∀ y rest', compD (compF F ρ tg cond elt) (its.drop (i + 1)) = .ok rest' → rest = y :: rest' → ∀ v Hv4 H4, Ext Hv' H' Hv4 H4 → Rep g Hv4 v y →
          ∃ acc, H4 D = some (.lst acc) ∧ acc.length < sizeLine ∧ ∃ Hv acc' ys rest, Ext Hs1 H1 Hv (upd H4 D (.lst (acc ++ [v]))) ∧ Hv D = none ∧ (upd H4 D (.lst (acc ++ [v]))) D = some (.lst acc') ∧ Reps g Hv acc' ys ∧ compD (compF F ρ tg cond elt) (its.drop (i + 1)) = .ok rest ∧ r = ys ++ rest ∧ ys.length ≤ i + 1 := by
        intro y rest' h1 h2 v Hv4 H4 e4 r4
        have nD4 : Hv4 D = none := e4.out D _ cD2 rfl nD2
        have cD4 : H4 D = some (.lst acc) := e4.all _ _ cD2
        have eall : Ext Hs1 H1 Hv4 H4 := ex.trans (e2.trans e4)
        refine ⟨acc, cD4, ?_, Hv4, acc ++ [v], ys ++ [y], rest', ⟨fun a o q => ?_, eall.view, fun a o q => ?_, eall.out⟩, nD4, upd_same, ?_, h1, ?_, ?_⟩
        · have := ra.length
          omega
        · rw [upd_ne (ne_of_none q hD)]; exact eall.all a o q
        · rw [upd_ne (ne_of_none q nD4)]; exact eall.sub a o q
        · exact (ra.mono (e2.view.trans e4.view)).append (.cons r4 .nil)
        · rw [er, h2, List.append_assoc]; rfl
        · rw [List.length_append, List.length_singleton]; omega
      have skip : ∀ Hv4 H4, Ext Hv' H' Hv4 H4 → compD (compF F ρ tg cond elt) (its.drop (i + 1)) = .ok rest → ∃ Hv acc ys rest, Ext Hs1 H1 Hv H4 ∧ Hv D = none ∧ H4 D = some (.lst acc) ∧ Reps g Hv acc ys ∧ compD (compF F ρ tg cond elt) (its.drop (i + 1)) = .ok rest ∧ r = ys ++ rest ∧ ys.length ≤ i + 1 := by
        intro Hv4 H4 e4 h1
        exact ⟨Hv4, acc, ys, rest, ex.trans (e2.trans e4), e4.out D _ cD2 rfl nD2, e4.all _ _ cD2, ra.mono (e2.view.trans e4.view), h1, er, by omega⟩
      -- the turn
      have turn : ∀ ro, compF F ρ tg cond elt d = .ok ro → (∀ y, ro = some y → ∃ rest', compD (compF F ρ tg cond elt) (its.drop (i + 1)) = .ok rest' ∧ rest = y :: rest') → (ro = none → compD (compF F ρ tg cond elt) (its.drop (i + 1)) = .ok rest) →
          gD X.K tg x (L2.wipe σ tg) H' fun σ2 H2 => L2.wipe σ2 tg = L2.wipe σ tg ∧ tCnd g F H0 cond σ2 H2 fun b H3 => if b = true then tE g F H0 E0 elt σ2 H3 fun y H4 => ∃ acc, H4 D = some (.lst acc) ∧ acc.length < sizeLine ∧ ∃ Hv acc' ys rest, Ext Hs1 H1 Hv (upd H4 D (.lst (acc ++ [y]))) ∧ Hv D = none ∧ (upd H4 D (.lst (acc ++ [y]))) D = some (.lst acc') ∧ Reps g Hv acc' ys ∧ compD (compF F ρ tg cond elt) (its.drop (i + 1)) = .ok rest ∧ r = ys ++ rest ∧ ys.length ≤ i + 1
            else ∃ Hv acc ys rest, Ext Hs1 H1 Hv H3 ∧ Hv D = none ∧ H3 D = some (.lst acc) ∧ Reps g Hv acc ys ∧ compD (compF F ρ tg cond elt) (its.drop (i + 1)) = .ok rest ∧ r = ys ++ rest ∧ ys.length ≤ i + 1 := by
        intro ro hro k1 k2
        unfold compF at hro
        obtain ⟨ρ', ht, hro⟩ := ok_bind hro
        refine gD_ok hK tg re2 rd ht fun σ2 re3 hw => ⟨by rw [hw tg fun i h => h, wipe_wipe], ?_⟩
        cases cond with
        | none =>
          obtain ⟨y, hy1, hy2⟩ := ok_bind hro
          cases hy2
          obtain ⟨rest', q1, q2⟩ := k1 y rfl
          dsimp only [tCnd, tYes]
          rw [if_pos rfl]
          exact ⟨ρ', Hv', re3, by rw [hy1]; exact fun v Hv4 H4 e4 r4 => keep y rest' q1 q2 v Hv4 H4 e4 r4⟩
        | some c =>
          obtain ⟨b, hb, hro⟩ := ok_bind hro
          refine ⟨ρ', Hv', re3, ?_⟩
          rw [hb]
          cases b <;> first | cases hro | skip
          rename_i b
          refine ⟨b, rfl, fun Hv3 H3 e3 => ?_⟩
          cases b with
          | true =>
            rw [if_pos rfl]
            obtain ⟨y, hy1, hy2⟩ := ok_bind hro
            cases hy2
            obtain ⟨rest', q1, q2⟩ := k1 y rfl
            exact ⟨ρ', Hv3, re3.ext e3, by rw [hy1]; exact fun v Hv4 H4 e4 r4 => keep y rest' q1 q2 v Hv4 H4 (e3.trans e4) r4⟩
          | false =>
            cases hro
            rw [if_neg Bool.false_ne_true]
            exact skip Hv3 H3 e3 (k2 rfl)
      rcases compD_cons hc with ⟨y, r', k1, k2, k3⟩ | ⟨k1, k2⟩
      · exact turn _ k1 (fun y' e => by cases e; exact ⟨r', k2, k3⟩) (fun z => by cases z)
      · exact turn _ k1 (fun y' e => by cases e) (fun _ => k2)
    · rintro Hc ⟨Hv, acc, ys, rest, x, nD, cD, ra, hc, er, hy⟩
      rw [List.drop_length] at hc
      cases hc
      rw [List.append_nil] at er
      subst er
      exact h3 (.ref D) Hv Hc (e1.trans x) (.inr ⟨D, acc, _, rfl, rfl, e1.all.free hD, nD, cD, ra⟩)
end
end Dw

namespace Dw
open PySem PySem.Spec PyProof.Rows L2
section
variable {g : G} {T : Tab} {F : Fs} {H0 : Hp} {CX : CXT}
theorem sameDs_of {a b : List D} (h : sameDs a b = true) : a = b := sameDs_eq a b h
theorem notT {X : Cx} {E : XK} {x : Ex} {e : Expr} (h : Snd g T F H0 E X x e) (hb : isBor x = false) (hn : notIf e = true) : PT X e (tT g F H0 E x) := h.t hn hb
/-- what a comprehension is made of -/
structure Parts (g : G) (F : Fs) (H0 : Hp) (E : XK) (X : Cx) (elt : Ex) (tg : List Nat) (k : Ik) (es : List Ex) (cond : Option Ex) (ee te iter : Expr) (ifs : List Expr) (cs : Scope) : Prop where
  ex : ∃ own : List (Str × Nat), own.map (·.2) = tg ∧ BlkOk X.N X.env.scope cs own
  it : PI X te iter (tIC g F H0 E k es)
  pg : ∀ (s : Shared) (H : Hp) (C : Addr) (cl : List (Str × Addr)) (fp : List Addr), PG (X.blk s H cs (compEnvC cs cl C X.env) fp) te (gD X.K tg)
  pt : ∀ (s : Shared) (H : Hp) (C : Addr) (cl : List (Str × Addr)) (fp : List Addr), PTs (X.blk s H cs (compEnvC cs cl C X.env) fp) ifs (tCnd g F H0 cond)
  pe' : ∀ (s : Shared) (H : Hp) (C : Addr) (cl : List (Str × Addr)) (fp : List Addr), PE (X.blk s H cs (compEnvC cs cl C X.env) fp) ee (tE g F H0 E0 elt)
  fs : ∀ x, foldedSetIterable iter X.env x = pure x
theorem Parts.pe {E : XK} {X : Cx} {elt : Ex} {tg : List Nat} {k : Ik} {es : List Ex} {cond : Option Ex} {ee te iter : Expr} {ifs : List Expr} {cs : Scope} {p : Pos} (P : Parts g F H0 E X elt tg k es cond ee te iter ifs cs) (ok : XOk g T F CX X) :
    PE X (.ListComp ee [⟨te, iter, ifs, 0⟩] cs p) (tR g F H0 E (.comp elt tg k es cond)) := by
  obtain ⟨own, h1, h2⟩ := P.ex
  have := pe_lc (pos := p) ok.calm ok.nd P.it h2 P.pg P.pt P.pe' P.fs
  rw [h1] at this
  exact pew this fun pins s σ H Q I h => lc_read ok.K h

theorem borOk_inv {N : List Str} {sc : Scope} {k : Ik} {es : List Ex} {e : Expr} (h : borOk N sc k es e = true) : ∃ i, k = .seq ∧ es = [.bor i] ∧ nmOk N sc i e = true := by
  unfold borOk at h
  split at h
  · exact ⟨_, rfl, rfl, h⟩
  · cases h
theorem pe_own {X : Cx} {i : Nat} {E : XK} {e : Expr} (h : nmOk X.N X.env.scope i e = true) : PE X e (tO g F H0 E (.bor i)) := by
  obtain ⟨n, p, rfl, hN, hv, hd, hc⟩ := nm_of h
  refine pew (pe_var hN hv hd hc) fun pins s σ H Q I ⟨ρ, Hs, re, h⟩ => ?_
  unfold evE getB at h
  split at h
  · rename_i d hd
    obtain ⟨q, vs, h1, h2, h3, _, h4⟩ := re.ow i d hd
    exact ⟨_, h1, h _ Hs H (Ext.refl re.sub) (.inr (.inl ⟨q, vs, d, rfl, rfl, h2, h4⟩))⟩
  · rename_i d hd
    obtain ⟨q, o, h1, h2, h3, _, h4⟩ := re.od i d hd
    exact ⟨_, h1, h _ Hs H (Ext.refl re.sub) (.inr (.inr ⟨q, o, rfl, h2, h4⟩))⟩
  · exact h.elim
theorem sndIC {X : Cx} {E : XK} {tg e : Expr} {k : Ik} {es : List Ex} (hK : X.K = g.K) (h : (borOk X.N X.env.scope k es e || chkI T X.N k es X.env.scope tg e) = true) (go : chkI T X.N k es X.env.scope tg e = true → PI X tg e (tI g F H0 E k es)) : PI X tg e (tIC g F H0 E k es) := by
  rw [Bool.or_eq_true] at h
  rcases h with h | h
  · obtain ⟨i, rfl, rfl, h⟩ := borOk_inv h
    exact pi_own hK (pe_own h)
  · exact pi_toC (go h)
theorem asCallK_eq {e fe : Expr} {xs : List Expr} {kws : List Keyword} (h : asCallK e = some (fe, xs, kws)) : ∃ p k r, e = .Call fe xs (k :: r) p ∧ kws = k :: r := by
  unfold asCallK at h
  split at h
  · cases h; exact ⟨_, _, _, rfl, rfl⟩
  · cases h
theorem kw_all {pos : Pos} {env : Env} : ∀ {kws : List Keyword} {kn : List Str}, kwNames kws = some kn → (backToKw pos (keywordEach kws env)).all (·.1.isSome) = true
  | [], _, _ => rfl
  | ⟨none, _, _⟩ :: r, _, h => by cases h
  | ⟨some n, v, _⟩ :: r, kn, h => by
    unfold kwNames at h
    split at h
    · rename_i l e
      show ((some n).isSome && (backToKw pos (keywordEach r env)).all (·.1.isSome)) = true
      rw [kw_all e]; rfl
    · cases h
theorem kw_names {pos : Pos} {env : Env} : ∀ {kws : List Keyword} {kn : List Str}, kwNames kws = some kn → (backToKw pos (keywordEach kws env)).filterMap (·.1) = kn
  | [], _, h => by cases h; rfl
  | ⟨none, _, _⟩ :: r, _, h => by cases h
  | ⟨some n, v, _⟩ :: r, kn, h => by
    unfold kwNames at h
    split at h
    · rename_i l e
      cases h
      show n :: (backToKw pos (keywordEach r env)).filterMap (·.1) = _
      rw [kw_names e]
    · cases h
theorem kw_any {pos : Pos} {env : Env} : ∀ {kws : List Keyword} {kn : List Str}, kwNames kws = some kn → (backToKw pos (keywordEach kws env)).any (·.1.isNone) = false
  | [], _, _ => rfl
  | ⟨none, _, _⟩ :: r, _, h => by cases h
  | ⟨some n, v, _⟩ :: r, kn, h => by
    unfold kwNames at h
    split at h
    · rename_i l e
      show ((some n).isNone || (backToKw pos (keywordEach r env)).any (·.1.isNone)) = false
      rw [kw_any e]; rfl
    · cases h
theorem kw_len : ∀ {kws : List Keyword} {kn : List Str}, kwNames kws = some kn → (kwVals kws).length = kn.length
  | [], _, h => by cases h; rfl
  | ⟨none, _, _⟩ :: r, _, h => by cases h
  | ⟨some n, v, _⟩ :: r, kn, h => by
    unfold kwNames at h
    split at h
    · rename_i l e
      cases h
      show (kwVals r).length + 1 = l.length + 1
      rw [kw_len e]
    · cases h
theorem reps_ord {Hs : Hp} {vs : List V} {ds : List D} (ord : List Nat) (r : Reps g Hs vs ds) : Reps g Hs (ord.map fun i => vs.getD i .non) (ord.map fun i => ds.getD i .non) := by
  induction ord with
  | nil => exact .nil
  | cons i l ih =>
    refine .cons ?_ ih
    show Rep g Hs (vs.getD i .non) (ds.getD i .non)
    by_cases hi : i < ds.length
    · obtain ⟨v, k1, k2⟩ := r.get (List.getElem?_eq_getElem hi)
      rw [List.getD_eq_getElem?_getD, List.getD_eq_getElem?_getD, k1, List.getElem?_eq_getElem hi]
      exact k2
    · have hl := r.length
      rw [List.getD_eq_getElem?_getD, List.getD_eq_getElem?_getD, List.getElem?_eq_none (by omega), List.getElem?_eq_none (by omega)]
      exact .non
theorem len_evL : ∀ {es : List Ex} {xs : List Expr} {N : List Str} {sc : Scope} {ρ : List Sl} {ds : List D}, evL F es ρ = .ok ds → chkL T N es sc xs = true → ds.length = xs.length
  | [], [], _, _, _, _, h, _ => by unfold evL at h; cases h; rfl
  | [], _ :: _, _, _, _, _, _, h => by simp [chkL] at h
  | _ :: _, [], _, _, _, _, _, h => by simp [chkL] at h
  | e :: es, x :: xs, _, _, _, _, h, k => by
    simp only [chkL, Bool.and_eq_true] at k
    unfold evL at h
    obtain ⟨d, _, h⟩ := ok_bind h
    obtain ⟨ds, h1, h⟩ := ok_bind h
    cases h
    rw [List.length_cons, List.length_cons, len_evL h1 k.2]
theorem parts_of {E : XK} {X : Cx} {elt : Ex} {tg : List Nat} {k : Ik} {es : List Ex} {cond : Option Ex} {ee te iter : Expr} {ifs : List Expr} {cs : Scope}
    (h1 : (match ownOf te tg with
      | some own => blkC X.N X.env.scope cs own && decide (own.map (·.2) = tg) && locAll (relS cs X.env.scope) own
      | none => false) = true) (h2 : PI X te iter (tIC g F H0 E k es)) (h3 : notSet iter = true)
    (h4 : ∀ (s : Shared) (H : Hp) (C : Addr) (cl : List (Str × Addr)) (fp : List Addr), Snd g T F H0 E0 (X.blk s H cs (compEnvC cs cl C X.env) fp) elt ee) (h5 : isBor elt = false)
    (h6 : ∀ (s : Shared) (H : Hp) (C : Addr) (cl : List (Str × Addr)) (fp : List Addr), PTs (X.blk s H cs (compEnvC cs cl C X.env) fp) ifs (tCnd g F H0 cond)) (ok : XOk g T F CX X) : Parts g F H0 E X elt tg k es cond ee te iter ifs cs := by
  cases ho : ownOf te tg with
  | none => rw [ho] at h1; cases h1
  | some own =>
    rw [ho] at h1
    simp only [Bool.and_eq_true, decide_eq_true_eq] at h1
    have B := blkOk_by h1.1.1
    refine ⟨⟨own, h1.1.2, B⟩, h2, fun s H C cl fp => ?_, h6, fun s H C cl fp => (h4 s H C cl fp).v h5, noSet_fold h3⟩
    exact (own_ok (X := X.blk s H cs (compEnvC cs cl C X.env) fp) ho (fun p hp => ⟨B.ix p hp, loc_mem h1.2 p hp⟩) ok.nd ok.calm).1
theorem lookup_memN {β : Type} {i : Nat} {b : β} : ∀ {l : List (Nat × β)}, l.lookup i = some b → (i, b) ∈ l
  | [], h => by cases h
  | (j, c) :: l, h => by
    rw [List.lookup_cons] at h
    cases e : i == j with
    | true => rw [e] at h; cases h; rw [beq_iff_eq] at e; subst e; exact List.mem_cons_self
    | false => rw [e] at h; exact List.mem_cons_of_mem _ (lookup_memN h)
theorem lookup_zip {f : Str} {v : V} : ∀ {fl : List Str} {vs : List V} {i : Nat}, fl.Nodup → fl[i]? = some f → vs[i]? = some v → (fl.zip vs).lookup f = some v
  | [], _, _, _, h, _ => by simp at h
  | _ :: _, [], _, _, _, h => by simp at h
  | g :: fl, u :: vs, 0, nd, h, h2 => by
    simp only [List.getElem?_cons_zero, Option.some.injEq] at h h2
    subst h h2
    rw [List.zip_cons_cons, List.lookup_cons, beq_self_eq_true]
  | g :: fl, u :: vs, i + 1, nd, h, h2 => by
    rw [List.getElem?_cons_succ] at h h2
    have ne : (f == g) = false := by
      rw [beq_eq_false_iff_ne]
      intro e
      subst e
      exact (List.nodup_cons.1 nd).1 (List.mem_of_getElem? h)
    rw [List.zip_cons_cons, List.lookup_cons, ne]
    exact lookup_zip (List.nodup_cons.1 nd).2 h h2
theorem lookup_zipN {m : Str} : ∀ {fl : List Str} {vs : List V}, m ∉ fl → (fl.zip vs).lookup m = none
  | [], _, _ => rfl
  | _ :: _, [], _ => rfl
  | g :: fl, u :: vs, h => by
    have ne : (m == g) = false := by
      rw [beq_eq_false_iff_ne]
      intro e
      subst e
      exact h List.mem_cons_self
    rw [List.zip_cons_cons, List.lookup_cons, ne]
    exact lookup_zipN fun z => h (List.mem_cons_of_mem _ z)
theorem noBase {o : Expr} {f : Str} {env : Env} {w : Sem Value} (h : notCall o = true) : attributeBase o f env w = w := by
  cases o <;> first | rfl | skip
  rename_i f xs ks p
  cases xs with
  | nil => simp only [notCall, Bool.false_eq_true] at h
  | cons x xs => cases f <;> rfl
theorem mth_eq {o : Expr} {m : Str} {apos pos : Pos} {xs : List Expr} {env : Env} (hc : notCall o = true) (hl : (apos.endLine == pos.line) = true) (hf : (backTo pos (starEach xs env)).any (·.1) = false) (hn : xs.length < 20) :
    eval (.Call (.Attribute o m apos) xs [] pos) env = (do
      let ov ← eval o env
      standAt apos.atName
      let (f, first) ← holding [ov] (getMethod ov m (do return (← importBound o env).getD true))
      callWith pos f first (backTo pos (starEach xs env)) (backToKw pos (keywordEach [] env))) := by
  have few : methodCallForm (xs.length + ([] : List Keyword).length) (backTo pos (starEach xs env)) (backToKw pos (keywordEach [] env)) = true := by
    unfold methodCallForm
    have e1 : (backTo pos (starEach xs env)).all (fun x => !x.1) = true := by
      rw [List.all_eq_not_any_not]
      simp only [Bool.not_not]
      rw [hf]; rfl
    rw [e1]
    show (true && true && decide (_ < 30)) = true
    simp only [Bool.true_and, decide_eq_true_eq]
    show xs.length + 0 + 0 < 30
    omega
  rw [arm_eval_Call, noBase hc]
  unfold methodCall
  rw [few]
  unfold calleeOf methodCallPos
  rw [hl]
  rfl
theorem pe_some {X : Cx} {e : Expr} {α : Type} {l : List α} {t : α → TE} (h : ∀ a ∈ l, PE X e (t a)) : PE X e (fun σ H Q => ∃ a ∈ l, t a σ H Q) := ⟨fun pins s σ H Q I ⟨a, ha, q⟩ => (h a ha).run pins s σ H Q I q⟩
mutual
theorem sndE : ∀ (x : Ex) {X : Cx} {E : XK} {e : Expr}, XOk g T F CX X → Passes CX X E → chkE T X.N x X.env.scope e = true → Snd g T F H0 E X x e
  | .var i, X, E, e, ok, hx, h => by
    unfold chkE at h
    obtain ⟨n, p, rfl, hN, hv, hd, hc⟩ := nm_of h
    refine Snd.ofV (pew (pe_var hN hv hd hc) fun pins s σ H Q I ⟨ρ, Hs, re, h⟩ => ?_) rfl rfl rfl
    unfold evE getV at h
    split at h
    · rename_i d hd
      obtain ⟨v, h1, h2⟩ := re.sh i d hd
      exact ⟨v, h1, h v Hs H (Ext.refl re.sub) h2⟩
    · exact h.elim
  | .bor i, X, E, e, ok, hx, h => by
    unfold chkE at h
    obtain ⟨n, p, rfl, hN, hv, hd, hc⟩ := nm_of h
    refine ⟨fun z => (by cases z), pew (pe_var hN hv hd hc) fun pins s σ H Q I ⟨ρ, Hs, re, h⟩ => ?_, fun z => (by cases z), fun _ z => (by cases z), fun z => (by cases z)⟩
    unfold evE getB at h
    split at h
    · rename_i d hd
      obtain ⟨q, vs, h1, h2, h3, _, h4⟩ := re.ow i d hd
      exact ⟨_, h1, h _ Hs H (Ext.refl re.sub) (.inr (.inl ⟨q, vs, d, rfl, rfl, h2, h4⟩))⟩
    · rename_i d hd
      obtain ⟨q, o, h1, h2, h3, _, h4⟩ := re.od i d hd
      exact ⟨_, h1, h _ Hs H (Ext.refl re.sub) (.inr (.inr ⟨q, o, rfl, h2, h4⟩))⟩
    · exact h.elim
  | .con d, X, E, e, ok, hx, h => by
    unfold chkE at h
    split at h
    · rename_i c hc
      obtain ⟨j, p, rfl⟩ := asCon_eq hc
      have fin : ∀ v, PE X (.Constant c j p) (tC v) → (∀ H, Rep g H v d) → (∀ ds, d ≠ .lst ds) → Snd g T F H0 E X (.con d) (.Constant c j p) := fun v hp hr hn =>
        Snd.ofR (pew hp fun pins s σ H Q I ⟨ρ, Hs, re, h⟩ => by unfold evE at h; exact h v Hs H (Ext.refl re.sub) (.inl ⟨hr _, hn⟩)) rfl rfl
      cases d <;> cases c <;> simp only [conOk, Bool.false_eq_true, decide_eq_true_eq] at h
      · exact fin _ pe_non (fun _ => .non) (fun _ z => nomatch z)
      · subst h; exact fin _ pe_bl (fun _ => .bl _) (fun _ z => nomatch z)
      · subst h; exact fin _ pe_int (fun _ => .int _) (fun _ z => nomatch z)
      · subst h; exact fin _ pe_str (fun _ => .str _) (fun _ z => nomatch z)
    · cases h
  | .glb d, X, E, e, ok, hx, h => by
    unfold chkE at h
    split at h
    · rename_i n hn
      obtain ⟨p, rfl⟩ := asNm_eq hn
      simp only [Bool.and_eq_true, Bool.not_eq_true', List.any_eq_true, decide_eq_true_eq] at h
      obtain ⟨⟨h1, h2⟩, ⟨y, d'⟩, hm, h3, h4⟩ := h
      have e4 := sameD_eq _ _ h4
      simp only at h3 e4
      subst h3 e4
      obtain ⟨u, v, k1, k2, k3⟩ := ok.cons _ hm
      refine Snd.ofV (pew (pe_glob (Gl_of h1) k1 k2 h2) fun pins s σ H Q I ⟨ρ, Hs, re, h⟩ => ?_) rfl rfl rfl
      unfold evE at h
      exact h v Hs H (Ext.refl re.sub) (k3 _)
    · cases h
  | .bin op a b, X, E, e, ok, hx, h => by
    unfold chkE at h
    split at h
    · rename_i ea o eb hb
      obtain ⟨p, rfl⟩ := asBin_eq hb
      simp only [Bool.and_eq_true] at h
      obtain ⟨⟨h1, h2⟩, h3⟩ := h
      have A := sndE a ok hx h2
      have B := sndE b ok hx h3
      split at h1
      · rename_i hr
        rw [Bool.and_eq_true] at h1
        have ho : o = .Mult := by cases o <;> first | rfl | exact absurd h1.1 Bool.false_ne_true
        have hop : op = .rep := by cases op <;> first | rfl | exact absurd hr Bool.false_ne_true
        subst ho hop
        refine Snd.ofR (pew (pe_op op_rep (A.r h1.2) B.o) fun pins s σ H Q I ⟨ρ, Hs, re, h⟩ => ?_) rfl rfl
        unfold evE at h
        refine ⟨ρ, Hs, re, holds_mono (holds_bind h) (fun da _ h2 v Hs1 H1 e1 f1 => ⟨ρ, Hs1, re.ext e1, holds_mono (holds_bind h2) (fun db _ h3 w Hs2 H2 e2 b2 => ?_) fun _ z => z.ext e1⟩) fun _ z => z⟩
        unfold binD at h3
        split at h3 <;> first | exact h3.elim | contradiction | skip
        obtain ⟨hf, h3⟩ := holds_gd h3
        cases b2.rint
        simp only [Bool.and_eq_true, decide_eq_true_eq] at hf
        rcases f1 with ⟨_, z⟩ | ⟨q, vs, ds, rfl, z, k1, k2, k3, k4⟩
        · exact absurd rfl (z _)
        · cases z
          have hf2 := of_decide_eq_true hf.2
          refine ⟨q, _, vs, rfl, rfl, e2.all _ _ k3, by omega, by omega, by rw [k4.length]; exact hf2, ?_⟩
          exact (h3.ext (e1.trans e2)).list e2.sub ((k4.mono e2.view).rep _)
      · refine Snd.ofR (pew (pe_op (bin_ok (g := g) ok.K op o h1) A.o B.o) fun pins s σ H Q I ⟨ρ, Hs, re, h⟩ => ?_) rfl rfl
        unfold evE at h
        exact two re h
    · cases h
  | .neg a, X, E, e, ok, hx, h => by
    unfold chkE at h
    split at h
    · rename_i ea hb
      obtain ⟨p, rfl⟩ := asNeg_eq hb
      have A := sndE a ok hx h
      refine Snd.ofR (pew (pe_un un_neg A.o) fun pins s σ H Q I ⟨ρ, Hs, re, h⟩ => ?_) rfl rfl
      unfold evE at h
      refine ⟨ρ, Hs, re, holds_mono (holds_bind h) (fun da _ h2 v Hs1 H1 e1 b1 => ?_) fun _ z => z⟩
      cases da <;> first | exact h2.elim | skip
      cases b1.rint
      exact ⟨_, rfl, (PR.ext h2 e1).int e1.sub⟩
    · cases h
  | .nt a, X, E, e, ok, hx, h => by
    unfold chkE at h
    split at h
    · rename_i ea hb
      obtain ⟨p, rfl⟩ := asNot_eq hb
      simp only [Bool.and_eq_true, Bool.not_eq_true'] at h
      have A := sndE a ok hx h.1.1
      have hr : PE X (.UnaryOp .Not ea p) (tR g F H0 E (.nt a)) := by
        refine pew (pe_not A.o) fun pins s σ H Q I ⟨ρ, Hs, re, h⟩ => ?_
        unfold evE at h
        refine ⟨ρ, Hs, re, holds_mono (holds_bind h) (fun da _ h2 v Hs1 H1 e1 b1 => ?_) fun _ z => z⟩
        cases da <;> first | exact h2.elim | skip
        cases b1.rbl
        exact ⟨_, rfl, (PR.ext h2 e1).bool e1.sub⟩
      refine ⟨fun _ => pew hr fun _ _ _ _ _ _ => tM_mono (fun _ _ _ _ z => z.toR) _ _ _, pew hr fun _ _ _ _ _ _ => tM_mono (fun _ _ _ _ z => z.toR) _ _ _, fun _ => hr, fun _ _ => ?_, fun z => (by cases z)⟩
      refine ptw (pt_not (A.t h.1.2 h.2)) fun pins s σ H Q I ⟨ρ, Hs, re, h⟩ => ⟨ρ, Hs, re, ?_⟩
      unfold evE at h
      refine holds_mono (holds_bind h) (fun da _ h2 => ?_) fun _ z => z
      cases da <;> first | exact h2.elim | skip
      obtain ⟨b, e1, q⟩ := h2
      cases e1
      exact ⟨_, rfl, q⟩
    · cases h
  | .cmp op a b, X, E, e, ok, hx, h => by
    unfold chkE at h
    split at h
    · rename_i ea o eb hb
      obtain ⟨p, rfl⟩ := asCmp1_eq hb
      simp only [Bool.and_eq_true] at h
      obtain ⟨⟨⟨h1, h2⟩, h3⟩, h4⟩ := h
      have A := sndE a ok hx h3
      have B := sndE b ok hx h4
      have C := cmp_ok (g := g) ok.K ok.un op o h1
      have hr : PE X (.Compare ea [o] [eb] p) (tR g F H0 E (.cmp op a b)) := by
        refine pew (pe_cmpR C A.o B.o (noSet_marks h2)) fun pins s σ H Q I ⟨ρ, Hs, re, h⟩ => ?_
        unfold evE at h
        exact two re h
      refine ⟨fun _ => pew hr fun _ _ _ _ _ _ => tM_mono (fun _ _ _ _ z => z.toR) _ _ _, pew hr fun _ _ _ _ _ _ => tM_mono (fun _ _ _ _ z => z.toR) _ _ _, fun _ => hr, fun _ _ => ?_, fun z => (by cases z)⟩
      refine ptw (pt_cmpR C A.o B.o (noSet_marks h2)) fun pins s σ H Q I ⟨ρ, Hs, re, h⟩ => ?_
      unfold evE at h
      refine two (Q := fun x H' => ∃ k, x = .bl k ∧ Q k H') re (holds_mono h (fun d _ ⟨b, e1, q⟩ => ?_) fun _ z => z)
      subst e1
      intro v Hs' H' e2 f
      exact ⟨b, f.b.rbl, q Hs' H' e2⟩
    · cases h
  | .chain o q a b c, X, E, e, ok, hx, h => by
    unfold chkE at h
    split at h
    · rename_i ea oa eb ob ec hb
      obtain ⟨p, rfl⟩ := asCmp2_eq hb
      simp only [Bool.and_eq_true, Bool.not_eq_true'] at h
      obtain ⟨⟨⟨⟨⟨⟨h1, h2⟩, h3⟩, h4⟩, h5⟩, h6⟩, h7⟩ := h
      have A := sndE a ok hx h4
      have B := sndE b ok hx h5
      have C := sndE c ok hx h6
      have O1 := cmp_ok (g := g) ok.K ok.un o oa h1
      have O2 := cmp_ok (g := g) ok.K ok.un q ob h2
      have hm : lastMarks [oa, ob] [eb, ec] = false := noSet_marks h3
      have key : ∀ {ρ : List Sl} {σ : L2.St} {Hs H : Hp} {Q : VK}, RE g H0 Hs H ρ σ → holds (evE F (.chain o q a b c) ρ) (fun d => PR g Hs H d Q) (EXc g E Hs H) → tChain (rD2 g (cmpD o)) (rD2 g (cmpD q)) (tO g F H0 E a) (tO g F H0 E b) (tO g F H0 E c) σ H Q := by
        intro ρ σ Hs H Q re h
        unfold evE at h
        refine ⟨ρ, Hs, re, holds_mono (holds_bind h) (fun da _ h2 v Hs1 H1 e1 b1 => ⟨ρ, Hs1, re.ext e1, holds_mono (holds_bind h2) (fun db _ h3 w Hs2 H2 e2 b2 => ?_) fun _ z => z.ext e1⟩) fun _ z => z⟩
        refine ⟨Hs2, da, db, e2.sub, b1.ext e2, b2, holds_mono (holds_bind h3) (fun r _ h4 => ?_) fun _ _ => trivial⟩
        intro z Hs3 H3 e3 f3
        cases r <;> first | exact h4.elim | skip
        rename_i bb _
        cases f3.b.rbl
        refine ⟨bb, rfl, ?_⟩
        have e123 := e1.trans (e2.trans e3)
        cases bb with
        | false =>
          rw [if_neg Bool.false_ne_true]
          exact PR.bool (PR.ext h4 e123) e3.sub
        | true =>
          rw [if_pos rfl]
          refine ⟨ρ, Hs3, re.ext e123, holds_mono (holds_bind h4) (fun dc _ h5 u Hs4 H4 e4 b4 => ?_) fun _ z => z.ext e123⟩
          exact ⟨Hs4, db, dc, e4.sub, (b2.ext e3).ext e4, b4, holds_mono h5 (fun d _ z => z.ext (e123.trans e4)) fun _ _ => trivial⟩
      have hr : PE X (.Compare ea [oa, ob] [eb, ec] p) (tR g F H0 E (.chain o q a b c)) := pew (pe_chain O1 O2 A.o B.o C.o hm) fun pins s σ H Q I ⟨ρ, Hs, re, h⟩ => key re h
      refine ⟨fun _ => pew hr fun _ _ _ _ _ _ => tM_mono (fun _ _ _ _ z => z.toR) _ _ _, pew hr fun _ _ _ _ _ _ => tM_mono (fun _ _ _ _ z => z.toR) _ _ _, fun _ => hr, fun _ _ => ?_, fun z => (by cases z)⟩
      refine ptw (pt_chain O1 O2 A.o B.o C.o hm) fun pins s σ H Q I ⟨ρ, Hs, re, h⟩ => ?_
      refine key (Q := fun x H' => ∃ k, x = .bl k ∧ Q k H') re (holds_mono h (fun d _ ⟨b, e1, q⟩ => ?_) fun _ z => z)
      subst e1
      intro v Hs' H' e2 f
      exact ⟨b, f.b.rbl, q Hs' H' e2⟩
    · cases h
  | .and a b, X, E, e, ok, hx, h => by
    unfold chkE at h
    split at h
    · rename_i ea eb rest pos hb
      have he := asAnd_eq hb
      subst he
      simp only [Bool.and_eq_true, Bool.not_eq_true'] at h
      obtain ⟨⟨⟨⟨h1, h2⟩, h3⟩, h4⟩, h5⟩ := h
      have A := sndE a ok hx h1
      have key : PE X (.BoolOp .And (eb :: rest) pos) (tE g F H0 E b) ∧ PW X (.BoolOp .And (eb :: rest) pos) (tT g F H0 E b) := by
        cases rest with
        | nil =>
          rw [Bool.and_eq_true] at h5
          have B := sndE b ok hx h5.1
          exact ⟨pe_one (B.v h4), pw_and1 (B.t h5.2 h4)⟩
        | cons r rs =>
          have B := sndE b ok hx h5
          exact ⟨B.v h4, B.w rfl⟩
      have hv : PE X (.BoolOp .And (ea :: eb :: rest) pos) (tE g F H0 E (.and a b)) := by
        refine pew (pe_and A.o key.1) fun pins s σ H Q I ⟨ρ, Hs, re, h⟩ => ?_
        unfold evE at h
        refine ⟨ρ, Hs, re, holds_mono (holds_bind h) (fun da _ h2 v Hs1 H1 e1 b1 => ?_) fun _ z => z⟩
        cases da <;> first | exact h2.elim | skip
        rename_i bb _
        cases b1.rbl
        refine ⟨bb, rfl, ?_⟩
        cases bb with
        | true =>
          rw [if_pos rfl]
          exact ⟨ρ, Hs1, re.ext e1, holds_mono h2 (fun d _ z => z.ext e1) fun _ z => z.ext e1⟩
        | false =>
          rw [if_neg Bool.false_ne_true]
          exact h2 _ Hs1 H1 e1 (.bl false)
      have hw : PW X (.BoolOp .And (ea :: eb :: rest) pos) (tT g F H0 E (.and a b)) := by
        refine pww (pw_and (A.t h2 h3) key.2) fun pins s σ H Q I ⟨ρ, Hs, re, h⟩ => ?_
        unfold evE at h
        refine ⟨ρ, Hs, re, holds_mono (holds_bind h) (fun da _ h2 => ?_) fun _ z => z⟩
        cases da <;> first | exact h2.elim | skip
        rename_i bb _
        refine ⟨bb, rfl, fun Hs1 H1 e1 => ?_⟩
        cases bb with
        | true =>
          rw [if_pos rfl]
          exact ⟨ρ, Hs1, re.ext e1, holds_mono h2 (fun d _ ⟨b, z1, z⟩ => ⟨b, z1, fun Hs' H' e' => z Hs' H' (e1.trans e')⟩) fun _ z => z.ext e1⟩
        | false =>
          rw [if_neg Bool.false_ne_true]
          obtain ⟨b, z1, z⟩ := h2
          cases z1
          exact z Hs1 H1 e1
      exact ⟨fun _ => hv, pew hv fun _ _ _ _ _ _ => tM_mono (fun _ _ _ _ z => z.toV) _ _ _, fun z => (by cases z), fun _ _ => hw.pt, fun _ => hw⟩
    · cases h
  | .or a b, X, E, e, ok, hx, h => by
    unfold chkE at h
    split at h
    · rename_i ea eb rest pos hb
      have he := asOr_eq hb
      subst he
      simp only [Bool.and_eq_true, Bool.not_eq_true'] at h
      obtain ⟨⟨⟨⟨h1, h2⟩, h3⟩, h4⟩, h5⟩ := h
      have A := sndE a ok hx h1
      have key : PE X (.BoolOp .Or (eb :: rest) pos) (tE g F H0 E b) ∧ PW X (.BoolOp .Or (eb :: rest) pos) (tT g F H0 E b) := by
        cases rest with
        | nil =>
          rw [Bool.and_eq_true] at h5
          have B := sndE b ok hx h5.1
          exact ⟨pe_one (B.v h4), pw_or1 (B.t h5.2 h4)⟩
        | cons r rs =>
          have B := sndE b ok hx h5
          exact ⟨B.v h4, B.w rfl⟩
      have hv : PE X (.BoolOp .Or (ea :: eb :: rest) pos) (tE g F H0 E (.or a b)) := by
        refine pew (pe_or A.o key.1) fun pins s σ H Q I ⟨ρ, Hs, re, h⟩ => ?_
        unfold evE at h
        refine ⟨ρ, Hs, re, holds_mono (holds_bind h) (fun da _ h2 v Hs1 H1 e1 b1 => ?_) fun _ z => z⟩
        cases da <;> first | exact h2.elim | skip
        rename_i bb _
        cases b1.rbl
        refine ⟨bb, rfl, ?_⟩
        cases bb with
        | false =>
          rw [if_neg Bool.false_ne_true]
          exact ⟨ρ, Hs1, re.ext e1, holds_mono h2 (fun d _ z => z.ext e1) fun _ z => z.ext e1⟩
        | true =>
          rw [if_pos rfl]
          exact h2 _ Hs1 H1 e1 (.bl true)
      have hw : PW X (.BoolOp .Or (ea :: eb :: rest) pos) (tT g F H0 E (.or a b)) := by
        refine pww (pw_or (A.t h2 h3) key.2) fun pins s σ H Q I ⟨ρ, Hs, re, h⟩ => ?_
        unfold evE at h
        refine ⟨ρ, Hs, re, holds_mono (holds_bind h) (fun da _ h2 => ?_) fun _ z => z⟩
        cases da <;> first | exact h2.elim | skip
        rename_i bb _
        refine ⟨bb, rfl, fun Hs1 H1 e1 => ?_⟩
        cases bb with
        | false =>
          rw [if_neg Bool.false_ne_true]
          exact ⟨ρ, Hs1, re.ext e1, holds_mono h2 (fun d _ ⟨b, z1, z⟩ => ⟨b, z1, fun Hs' H' e' => z Hs' H' (e1.trans e')⟩) fun _ z => z.ext e1⟩
        | true =>
          rw [if_pos rfl]
          obtain ⟨b, z1, z⟩ := h2
          cases z1
          exact z Hs1 H1 e1
      exact ⟨fun _ => hv, pew hv fun _ _ _ _ _ _ => tM_mono (fun _ _ _ _ z => z.toV) _ _ _, fun z => (by cases z), fun _ _ => hw.pt, fun _ => hw⟩
    · cases h
  | .ite c a b, X, E, e, ok, hx, h => by
    unfold chkE at h
    split at h
    · rename_i ec ea eb hb
      obtain ⟨p, rfl⟩ := asIf_eq hb
      simp only [Bool.and_eq_true, Bool.not_eq_true'] at h
      obtain ⟨⟨⟨⟨⟨⟨h1, h2⟩, h3⟩, h4⟩, h5⟩, h6⟩, h7⟩ := h
      have C := sndE c ok hx h1
      have A := sndE a ok hx h4
      have B := sndE b ok hx h6
      have hv : PE X (.IfExp ec ea eb p) (tE g F H0 E (.ite c a b)) := by
        refine pew (pe_ifExp (C.t h2 h3) (A.v h5) (B.v h7)) fun pins s σ H Q I ⟨ρ, Hs, re, h⟩ => ?_
        unfold evE at h
        refine ⟨ρ, Hs, re, holds_mono (holds_bind h) (fun da _ h2 => ?_) fun _ z => z⟩
        cases da <;> first | exact h2.elim | skip
        rename_i bb _
        refine ⟨bb, rfl, fun Hs1 H1 e1 => ?_⟩
        cases bb with
        | true =>
          rw [if_pos rfl]
          exact ⟨ρ, Hs1, re.ext e1, holds_mono h2 (fun d _ z => z.ext e1) fun _ z => z.ext e1⟩
        | false =>
          rw [if_neg Bool.false_ne_true]
          exact ⟨ρ, Hs1, re.ext e1, holds_mono h2 (fun d _ z => z.ext e1) fun _ z => z.ext e1⟩
      exact ⟨fun _ => hv, pew hv fun _ _ _ _ _ _ => tM_mono (fun _ _ _ _ z => z.toV) _ _ _, fun z => (by cases z), fun z => (by cases z), fun z => (by cases z)⟩
    · cases h
  | .tup es, X, E, e, ok, hx, h => by
    unfold chkE at h
    split at h
    · rename_i xs hb
      obtain ⟨k, p, rfl⟩ := asTup_eq hb
      simp only [Bool.and_eq_true, Bool.not_eq_true', decide_eq_true_eq] at h
      obtain ⟨⟨h1, h2⟩, h3⟩ := h
      have A := sndL es ok hx h1
      refine Snd.ofR (pew (pe_tup A) fun pins s σ H Q I ⟨ρ, Hs, re, h⟩ => ?_) rfl rfl
      unfold evE at h
      refine ⟨ρ, Hs, re, holds_mono (holds_bind h) (fun ds hds q vs Hs1 H1 e1 b1 r1 => ?_) fun _ z => z⟩
      have r1 := r1 h2
      have hl : ds.length ≤ 1000 := by rw [len_evL hds h1]; exact h3
      refine ⟨?_, (PR.ext q e1).tuple e1.sub r1⟩
      rw [r1.length]
      exact Nat.le_of_lt (small1000 hl)
    · cases h
  | .lst es, X, E, e, ok, hx, h => by
    unfold chkE at h
    split at h
    · rename_i xs hb
      obtain ⟨p, rfl⟩ := asLst_eq hb
      simp only [Bool.and_eq_true, Bool.not_eq_true', decide_eq_true_eq] at h
      obtain ⟨⟨h1, h2⟩, h3⟩ := h
      have A := sndL es ok hx h1
      refine Snd.ofR (pew (pe_lst A) fun pins s σ H Q I ⟨ρ, Hs, re, h⟩ => ?_) rfl rfl
      unfold evE at h
      refine ⟨ρ, Hs, re, holds_mono (holds_bind h) (fun ds hds q vs Hs1 H1 e1 b1 r1 => ?_) fun _ z => z⟩
      have r1 := r1 h2
      have hl : ds.length ≤ 1000 := by rw [len_evL hds h1]; exact h3
      refine ⟨?_, (PR.ext q e1).list e1.sub r1⟩
      rw [r1.length]
      exact Nat.le_of_lt (small1000 hl)
    · cases h
  | .idx a b, X, E, e, ok, hx, h => by
    unfold chkE at h
    split at h
    · rename_i ea eb hb
      obtain ⟨p, rfl⟩ := asSub_eq hb
      simp only [Bool.and_eq_true] at h
      obtain ⟨⟨h1, h2⟩, h3⟩ := h
      have A := sndE a ok hx h1
      have B := sndE b ok hx h2
      refine Snd.ofV (pew (pe_ix (ix_ok (g := g) ok.K (by have := ok.un; omega)) A.o B.o (plain_ix h3)) fun pins s σ H Q I ⟨ρ, Hs, re, h⟩ => ?_) rfl rfl rfl
      unfold evE at h
      exact ⟨ρ, Hs, re, holds_mono (holds_bind h) (fun da _ h2 v Hs1 H1 e1 b1 => ⟨ρ, Hs1, re.ext e1, holds_mono (holds_bind h2) (fun db _ h3 w Hs2 H2 e2 b2 =>
        ⟨Hs2, da, db, e2.sub, b1.ext e2, b2, holds_mono h3 (fun d _ q => q.ext (e1.trans e2)) fun _ _ => trivial⟩) fun _ z => z.ext e1⟩) fun _ z => z⟩
    · cases h
  | .slc a lo hi, X, E, e, ok, hx, h => by
    unfold chkE at h
    split at h
    · rename_i ea eb hb
      obtain ⟨p, rfl⟩ := asSub_eq hb
      split at h
      · rename_i l u hb2
        obtain ⟨p2, rfl⟩ := asSlc_eq hb2
        simp only [Bool.and_eq_true] at h
        obtain ⟨⟨h1, h2⟩, h3⟩ := h
        have A := sndE a ok hx h1
        have B := sndO lo ok hx h2
        have C := sndO hi ok hx h3
        refine Snd.ofR (pew (pe_slice (sl_ok (g := g) ok.K) A.o B C) fun pins s σ H Q I ⟨ρ, Hs, re, h⟩ => ?_) rfl rfl
        unfold evE at h
        exact ⟨ρ, Hs, re, holds_mono (holds_bind h) (fun da _ h2 v Hs1 H1 e1 b1 => ⟨ρ, Hs1, re.ext e1, holds_mono (holds_bind h2) (fun l _ h3 Hs2 H2 e2 => ⟨ρ, Hs2, re.ext (e1.trans e2), holds_mono (holds_bind h3) (fun u _ h4 Hs3 H3 e3 =>
          ⟨Hs3, da, e3.sub, b1.ext (e2.trans e3), holds_mono h4 (fun d _ q => q.ext (e1.trans (e2.trans e3))) fun _ _ => trivial⟩) fun _ z => z.ext (e1.trans e2)⟩) fun _ z => z.ext e1⟩) fun _ z => z⟩
      · cases h
    · cases h
  | .rvs false a, X, E, e, ok, hx, h => by
    unfold chkE at h
    split at h
    · rename_i ea hb
      obtain ⟨k, p1, p2, p3, p, rfl⟩ := asRvs_eq hb
      have A := sndE a ok hx h
      refine Snd.ofR (pew (pe_revA A.o) fun pins s σ H Q I ⟨ρ, Hs, re, h⟩ => ?_) rfl rfl
      unfold evE at h
      refine ⟨ρ, Hs, re, holds_mono (holds_bind h) (fun da _ h2 v Hs1 H1 e1 b1 => ?_) fun _ z => z⟩
      cases da <;> first | exact h2.elim | skip
      · obtain ⟨q, vs, rfl, s1, r1⟩ := b1.tuple e1.sub
        exact ⟨q, vs, rfl, .inr ⟨by rw [ok.K]; exact s1, PR.tuple (PR.ext h2 e1) e1.sub r1.reverse⟩⟩
      · obtain ⟨q, vs, rfl, s1, r1⟩ := b1.list e1.sub
        exact ⟨q, vs, rfl, .inl ⟨by rw [ok.K]; exact s1, PR.list (PR.ext h2 e1) e1.sub r1.reverse⟩⟩
    · cases h
  | .rvs true a, X, E, e, ok, hx, h => by
    unfold chkE at h
    split at h
    · rename_i fe r hb
      obtain ⟨p, rfl⟩ := asCall_eq hb
      split at h
      · rename_i fr x hb2
        obtain ⟨p2, rfl⟩ := asCall_eq hb2
        simp only [Bool.and_eq_true] at h
        obtain ⟨⟨⟨h1, h2⟩, h3⟩, h4⟩ := h
        obtain ⟨q1, rfl, g1, g2, g3⟩ := gl_of h1
        obtain ⟨q2, rfl, k1, k2, k3⟩ := gl_of h2
        have A := sndE a ok hx h3
        refine Snd.ofR (pew (pe_lstRev ok.calm (Gl_of g1) (ok.blt _ (by decide +kernel)) (Gl_of k1) (ok.blt _ (by decide +kernel)) A.o (star_cons h4)) fun pins s σ H Q I ⟨ρ, Hs, re, h⟩ => ?_) rfl rfl
        unfold evE at h
        refine ⟨ρ, Hs, re, holds_mono (holds_bind h) (fun da _ h2 v Hs1 H1 e1 b1 => ?_) fun _ z => z⟩
        cases da <;> first | exact h2.elim | skip
        · obtain ⟨q, vs, rfl, s1, r1⟩ := b1.list e1.sub
          exact ⟨q, vs, rfl, by rw [ok.K]; exact s1, PR.list (PR.ext h2 e1) e1.sub r1.reverse⟩
      · cases h
    · cases h
  | .lrg a b, X, E, e, ok, hx, h => by
    unfold chkE at h
    split at h
    · rename_i fe r hb
      obtain ⟨p, rfl⟩ := asCall_eq hb
      split at h
      · rename_i fr x y hb2
        obtain ⟨p2, rfl⟩ := asCall_eq hb2
        simp only [Bool.and_eq_true, Bool.not_eq_true'] at h
        obtain ⟨⟨⟨⟨⟨⟨⟨h1, h2⟩, h3⟩, h4⟩, h5⟩, h6⟩, h7⟩, h8⟩ := h
        obtain ⟨q1, rfl, g1, g2, g3⟩ := gl_of h1
        obtain ⟨q2, rfl, k1, k2, k3⟩ := gl_of h2
        have A := sndE a ok hx h3
        have B := sndE b ok hx h6
        refine Snd.ofR (pew (pe_listRg ok.calm (Gl_of g1) (ok.blt _ (by decide +kernel)) (prg_2 (Gl_of k1) (ok.blt _ (by decide +kernel)) (A.v h5) (B.v h8) (star_cons h4) (star_cons h7) (by rw [star_cons h7]; rfl))) fun pins s σ H Q I ⟨ρ, Hs, re, h⟩ => ?_) rfl rfl
        unfold evE at h
        refine ⟨ρ, Hs, re, holds_mono (holds_bind h) (fun da _ h2 v Hs1 H1 e1 r1 => ⟨ρ, Hs1, re.ext e1, holds_mono (holds_bind h2) (fun db _ h3 w Hs2 H2 e2 r2 => ?_) fun _ z => z.ext e1⟩) fun _ z => z⟩
        cases da <;> first | exact h3.elim | skip
        cases db <;> first | exact h3.elim | skip
        cases r1
        cases r2
        obtain ⟨hg, h3⟩ := holds_gd (show holds (gd _ _) _ _ from h3)
        unfold rgOk at hg
        simp only [Bool.and_eq_true, decide_eq_true_eq] at hg
        exact ⟨_, _, rfl, rfl, ⟨hg.1.1.1.1, hg.1.1.1.2, hg.1.1.2, hg.1.2, hg.2⟩, PR.list (PR.ext h3 (e1.trans e2)) e2.sub (reps_rgV _ _ _)⟩
      · cases h
    · cases h
  | .call f es dfl, X, E, e, ok, hx, h => by
    unfold chkE at h
    split at h
    · rename_i fe xs hb
      obtain ⟨p, rfl⟩ := asCall_eq hb
      simp only [Bool.and_eq_true, Bool.not_eq_true'] at h
      obtain ⟨⟨h1, h2⟩, h3⟩ := h
      cases hf : T.fn f with
      | none => rw [hf] at h1; cases h1
      | some fi =>
        rw [hf] at h1
        simp only [Bool.and_eq_true, decide_eq_true_eq] at h1
        obtain ⟨⟨⟨⟨k1, _⟩, k2⟩, k3⟩, k4⟩ := h1
        obtain ⟨p2, rfl, g1, g2, g3⟩ := gl_of k1
        obtain ⟨k, fa, fd, ps, m1, m2, m3, m4, m5, _⟩ := (ok.fns f fi hf).ex
        obtain ⟨dvs, dus, d1, d2, d3⟩ := m5 (fi.ds.length - dfl.length) (Nat.sub_le _ _)
        rw [sameDs_of k4] at d3
        have A := sndL es ok hx h3
        cases xs with
        | nil => cases h2
        | cons y ys =>
          have hst : notStar y = true := by
            cases es with
            | nil => simp [chkL] at h3
            | cons z zs => simp only [chkL, Bool.and_eq_true] at h3; exact h3.1.2
          have hpl : (backTo p (starEach ys X.env)).any (·.1) = false := by
            cases es with
            | nil => simp [chkL] at h3
            | cons z zs => simp only [chkL, Bool.and_eq_true] at h3; exact no_star zs ys h3.2
          have base := pe_call (pos := p) (p := p2) m4 m3 (Gl_of g1) m1 m2 d1 d2 hx A g2 (star_cons hst) hpl
          have key : ∀ {ρ : List Sl} {σ : L2.St} {Hs H : Hp} {Q : VK}, RE g H0 Hs H ρ σ → holds (evE F (.call f es dfl) ρ) (fun d => match fi.fr with | true => PR g Hs H d Q | false => PV g Hs H d Q) (EXc g E Hs H) → tCall (spF g F f fi.np fi.fr) dvs E (tA g F H0 E es) σ H Q := by
            intro ρ σ Hs H Q re h
            unfold evE at h
            refine ⟨ρ, Hs, re, holds_mono (holds_bind h) (fun ds hds h2 vs Hs1 H1 e1 b1 r1 => ?_) fun _ z => z⟩
            have l1 : vs.length = ds.length := (b1.reps e1.sub).length
            have l2 : ds.length = (y :: ys).length := len_evL hds h3
            have l3 : dvs.length = dfl.length := (d3 H).length
            refine callee e1.sub b1 r1 d3 (by rw [List.length_append]; omega) (holds_mono h2 (fun d _ z => ?_) fun _ z => z.ext e1)
            cases hfr : fi.fr with
            | true => rw [hfr] at z; exact PR.ext z e1
            | false => rw [hfr] at z; exact PV.ext z e1
          cases hfr : fi.fr with
          | true =>
            refine Snd.ofR (pew base fun pins s σ H Q I ⟨ρ, Hs, re, h⟩ => key re (holds_mono h (fun d _ z => ?_) fun _ z => z)) rfl rfl
            rw [hfr]; exact z
          | false =>
            refine Snd.ofV (pew base fun pins s σ H Q I ⟨ρ, Hs, re, h⟩ => key re (holds_mono h (fun d _ z => ?_) fun _ z => z)) rfl rfl ?_
            · rw [hfr]; exact z
            · simp only [isFr, hf]; exact hfr
    · cases h
  | .callk f es ks dfl ord, X, E, e, ok, hx, h => by
    unfold chkE at h
    split at h
    · rename_i fe xs kws hb
      obtain ⟨p, kw0, kwr, rfl, rfl⟩ := asCallK_eq hb
      simp only [Bool.and_eq_true, Bool.not_eq_true'] at h
      obtain ⟨⟨⟨⟨h1, h2⟩, h3, h4⟩, h5⟩, h6⟩ := h
      cases hf : T.fn f with
      | none => rw [hf] at h1; cases h1
      | some fi =>
        rw [hf] at h1
        simp only [Bool.and_eq_true] at h1
        obtain ⟨⟨k1, k2⟩, k3⟩ := h1
        cases hn : kwNames (kw0 :: kwr) with
        | none => rw [hn] at k2; cases k2
        | some kn =>
          rw [hn] at k2
          have k2 := List.contains_iff_mem.1 k2
          obtain ⟨p2, rfl, g1, g2, g3⟩ := gl_of k1
          obtain ⟨k, fa, fd, ps, m1, m2, m3, m4, _, m6⟩ := (ok.fns f fi hf).ex
          obtain ⟨gf, dvs, d1, d2, d3⟩ := m6 _ k2
          rw [sameDs_of k3] at d2
          have A := sndL es ok hx h3
          have B : PK X (kw0 :: kwr) (tA g F H0 E ks) := sndK ks ok hx (kw0 :: kwr) h5 h6
          cases xs with
          | nil => cases h2
          | cons y ys =>
            have hst : notStar y = true := by
              cases es with
              | nil => simp [chkL] at h3
              | cons z zs => simp only [chkL, Bool.and_eq_true] at h3; exact h3.1.2
            have hpl : (backTo p (starEach ys X.env)).any (·.1) = false := by
              cases es with
              | nil => simp [chkL] at h3
              | cons z zs => simp only [chkL, Bool.and_eq_true] at h3; exact no_star zs ys h3.2
            have base := pe_callN (pos := p) (p := p2) m4 m3 (Gl_of g1) m1 m2 d1 hx A B (kw_all hn) (kw_names hn) g2 (star_cons hst) (by rw [star_cons hst, kw_any hn, Bool.or_false]; exact hpl)
            have key : ∀ {ρ : List Sl} {σ : L2.St} {Hs H : Hp} {Q : VK}, RE g H0 Hs H ρ σ → holds (evE F (.callk f es ks dfl ord) ρ) (fun d => match fi.fr with | true => PR g Hs H d Q | false => PV g Hs H d Q) (EXc g E Hs H) → tCallN (y :: ys).length kn.length (spF g F f fi.np fi.fr) (fun vs zs => ord.map fun i => ((vs ++ zs) ++ dvs).getD i .non) E (tA g F H0 E es) (tA g F H0 E ks) σ H Q := by
              intro ρ σ Hs H Q re h
              unfold evE at h
              refine ⟨ρ, Hs, re, holds_mono (holds_bind h) (fun ds hds h2 vs Hs1 H1 e1 b1 r1 => ⟨ρ, Hs1, re.ext e1, holds_mono (holds_bind h2) (fun zs hzs h3' ws Hs2 H2 e2 b2 r2 => ?_) fun _ z => z.ext e1⟩) fun _ z => z⟩
              have l1 : ds.length = (y :: ys).length := len_evL hds h3
              have l2 : zs.length = (kwVals (kw0 :: kwr)).length := len_evL hzs h5
              have R1 := (r1 h4).mono e2.view
              have R2 := r2 h6
              refine ⟨by rw [R1.length]; exact l1, by rw [R2.length, l2, kw_len hn], Hs2, _, e2.sub, reps_ord ord ((R1.append R2).append (d2 g Hs2)), by rw [List.length_map]; exact d3, holds_mono h3' (fun d _ z => ?_) fun _ z => (z.ext e1).ext e2⟩
              cases hfr : fi.fr with
              | true => rw [hfr] at z; exact PR.ext (PR.ext z e1) e2
              | false => rw [hfr] at z; exact PV.ext (PV.ext z e1) e2
            cases hfr : fi.fr with
            | true =>
              refine Snd.ofR (pew base fun pins s σ H Q I ⟨ρ, Hs, re, h⟩ => key re (holds_mono h (fun d _ z => ?_) fun _ z => z)) rfl rfl
              rw [hfr]; exact z
            | false =>
              refine Snd.ofV (pew base fun pins s σ H Q I ⟨ρ, Hs, re, h⟩ => key re (holds_mono h (fun d _ z => ?_) fun _ z => z)) rfl rfl ?_
              · rw [hfr]; exact z
              · simp only [isFr, hf]; exact hfr
    · cases h
  | .bi b es, X, E, e, ok, hx, h => by
    unfold chkE at h
    split at h
    · rename_i fe xs hb
      obtain ⟨p, rfl⟩ := asCall_eq hb
      simp only [Bool.and_eq_true, Bool.not_eq_true'] at h
      obtain ⟨⟨h1, h2⟩, h3⟩ := h
      obtain ⟨p2, rfl, g1, g2, g3⟩ := gl_of h1
      have A := sndL es ok hx h3
      cases xs with
      | nil => cases h2
      | cons y ys =>
        have hst : notStar y = true := by
          cases es with
          | nil => simp [chkL] at h3
          | cons z zs => simp only [chkL, Bool.and_eq_true] at h3; exact h3.1.2
        have hpl : (backTo p (starEach ys X.env)).any (·.1) = false := by
          cases es with
          | nil => simp [chkL] at h3
          | cons z zs => simp only [chkL, Bool.and_eq_true] at h3; exact no_star zs ys h3.2
        refine Snd.ofR (pew (pe_bi (bi_ok (g := g) ok.K ok.calm b) (Gl_of g1) (ok.blt _ (bi_in b)) A g2 g3 (star_cons hst) hpl) fun pins s σ H Q I ⟨ρ, Hs, re, h⟩ => ?_) rfl rfl
        unfold evE at h
        exact ⟨ρ, Hs, re, holds_mono (holds_bind h) (fun ds _ h2 vs Hs1 H1 e1 b1 r1 => ⟨Hs1, ds, e1.sub, b1, holds_mono h2 (fun d _ z => z.ext e1) fun _ _ => trivial⟩) fun _ z => z⟩
    · cases h
  | .isi a t, X, E, e, ok, hx, h => by
    unfold chkE at h
    split at h
    · rename_i fe xa ty hb
      obtain ⟨p, rfl⟩ := asCall_eq hb
      simp only [Bool.and_eq_true] at h
      obtain ⟨⟨⟨h1, h2⟩, h3⟩, h4⟩ := h
      obtain ⟨p2, rfl, g1, g2, g3⟩ := gl_of h1
      obtain ⟨p3, rfl, k1, k2, k3⟩ := gl_of h2
      have A := sndE a ok hx h3
      have hty : PE X (.Name (tyStr t) p3) (tC (.ty (tyName t))) := pe_bltn (Gl_of k1) (ok.blt _ (ty_in' t)) (boot_ty t) rfl k3 k2
      refine Snd.ofR (pew (pe_callB call_isi (Gl_of g1) (ok.blt _ (by decide +kernel)) (by decide +kernel) (pa_cons A.o (pa_cons hty pa_nil) (by rw [star_cons h4])) (by decide) g2 (star_cons h4) rfl) fun pins s σ H Q I ⟨ρ, Hs, re, h⟩ => ?_) rfl rfl
      unfold evE at h
      refine ⟨ρ, Hs, re, holds_mono (holds_bind h) (fun d _ h2 v Hs1 H1 e1 b1 => ?_) fun _ z => z⟩
      obtain ⟨hn, h2⟩ := holds_gd h2
      exact isi_ok ok.K t e1.sub b1 hn ((PR.ext h2 e1).bool e1.sub)
    · cases h
  | .comp elt tg k es cond, X, E, e, ok, hx, h => by
    unfold chkE at h
    split at h
    · rename_i ee te iter ifs cs hb
      obtain ⟨p, rfl⟩ := asComp_eq hb
      simp only [Bool.and_eq_true, Bool.not_eq_true'] at h
      obtain ⟨⟨⟨⟨⟨h1, h2⟩, h3⟩, h4⟩, h5⟩, h6⟩ := h
      exact Snd.ofR (Parts.pe (parts_of h1 (sndIC ok.K h2 (fun h2 => sndI k es ok hx h2)) h3 (fun s H C cl fp => sndE elt (ok.blk s H cs (compEnvC cs cl C X.env) fp) (ok.px _ rfl rfl) h4) h5 (fun s H C cl fp => sndC cond (ok.blk s H cs (compEnvC cs cl C X.env) fp) (ok.px _ rfl rfl) h6) ok) ok) rfl rfl
    · cases h
  | .fld tbl a, X, E, e, ok, hx, h => by
    unfold chkE at h
    split at h
    · rename_i o f hb
      obtain ⟨p, rfl⟩ := asAttr_eq hb
      simp only [Bool.and_eq_true, Bool.not_eq_true'] at h
      obtain ⟨⟨⟨h1, h2⟩, h3⟩, h4⟩ := h
      have A := sndE a ok hx h1
      refine Snd.ofV (pew (pe_fld (A.v h2) (noBase h3)) fun pins s σ H Q I ⟨ρ, Hs, re, h⟩ => ?_) rfl rfl rfl
      unfold evE at h
      refine ⟨ρ, Hs, re, holds_mono (holds_bind h) (fun da _ h2 v Hs1 H1 e1 r1 => ?_) fun _ z => z⟩
      obtain ⟨c, fs, rfl⟩ : ∃ c fs, da = .ins c fs := by
        cases da <;> first | exact ⟨_, _, rfl⟩ | exact h2.elim
      simp only [fldD] at h2
      cases hk : tbl.lookup c with
      | none => rw [hk] at h2; exact h2.elim
      | some i =>
        rw [hk] at h2
        have h2 : holds (optM fs[i]?) (fun d => PV g Hs H d Q) (EXc g E Hs H) := h2
        have hm := lookup_memN hk
        have h4 := List.all_eq_true.1 h4 _ hm
        obtain ⟨⟨c', nm, fl⟩, m1, m2⟩ := List.any_eq_true.1 h4
        simp only [Bool.and_eq_true, beq_iff_eq, decide_eq_true_eq] at m2
        obtain ⟨rfl, m3⟩ := m2
        have C := ok.cls _ _ _ m1
        cases r1 with
        | ins s1 l1 r1 =>
          rename_i pa dx vs
          cases hd : fs[i]? with
          | none => rw [hd] at h2; exact h2.elim
          | some d =>
            rw [hd] at h2
            obtain ⟨u, k1, k2⟩ := r1.get hd
            have hfl : fl = g.fn c' := C.fn.symm
            refine ⟨pa, g.ca c', dx, _, u, rfl, e1.sub _ _ s1, C.cl, C.na f (List.mem_of_getElem? m3), ?_, h2 u Hs1 H1 e1 k2⟩
            exact lookup_zip (by rw [← hfl]; exact C.nd) (by rw [← hfl]; exact m3) k1
    · cases h
  | .mth tbl a es, X, E, e, ok, hx, h => by
    unfold chkE at h
    split at h
    · rename_i o m xs hb
      obtain ⟨ap, cp, rfl, hline⟩ := asMth_eq hb
      simp only [Bool.and_eq_true, Bool.not_eq_true', decide_eq_true_eq] at h
      obtain ⟨⟨⟨⟨⟨⟨⟨h1, h2⟩, h3⟩, h4⟩, h5⟩, h6⟩, h7⟩, h8⟩ := h
      have A := sndE a ok hx h1
      have B := sndL es ok hx h6
      have hstar : (backTo cp (starEach xs X.env)).any (·.1) = false := no_star es xs h6
      have each : ∀ q ∈ tbl, PE X (.Call (.Attribute o m ap) xs [] cp) (tMeth (g.ca q.1) m (spF g F q.2 (xs.length + 1) false) [] E (tE g F H0 E a) (tA g F H0 E es)) := fun q hq => by
        have hq2 := List.all_eq_true.1 h5 _ hq
        obtain ⟨k, f, fd, ps, c1, c2, c3, c4, c5, c6⟩ := (ok.mts m q.1 q.2 _ (by simpa using hq2)).ex
        cases xs with
        | nil =>
          cases es with
          | cons _ _ => simp [chkL] at h6
          | nil =>
            have base := pe_meth0 (apos := ap) (pos := cp) (A.v h2) c1 c2 c5 c4 c6 .nil hx (mth_eq h3 hline hstar h8)
            refine pew base fun pins s σ H Q I z => ?_
            obtain ⟨ρ, Hs, re, z⟩ := z
            refine ⟨ρ, Hs, re, holds_mono z (fun d _ y v Hs' H' e1 r1 => ?_) fun _ w => w⟩
            obtain ⟨pa, dx, fs, k1, k2, k3, ρ2, Hs2, re2, k4⟩ := y v Hs' H' e1 r1
            unfold evL at k4
            exact ⟨pa, dx, fs, k1, k2, k3, k4 [] Hs2 H' (Ext.refl re2.sub) .nil fun _ => .nil⟩
        | cons y ys =>
          have hst : notStar y = true := by
            cases es with
            | nil => simp [chkL] at h6
            | cons z zs => simp only [chkL, Bool.and_eq_true] at h6; exact h6.1.2
          have hpl : (backTo cp (starEach ys X.env)).any (·.1) = false := by
            cases es with
            | nil => simp [chkL] at h6
            | cons z zs => simp only [chkL, Bool.and_eq_true] at h6; exact no_star zs ys h6.2
          exact pe_meth (apos := ap) (pos := cp) (A.v h2) c1 c2 c5 c4 c6 .nil hx B (star_cons hst) hpl (mth_eq h3 hline hstar h8)
      refine Snd.ofV (pew (pe_some each) fun pins s σ H Q I ⟨ρ, Hs, re, h⟩ => ?_) rfl rfl rfl
      unfold evE at h
      cases tbl with
      | nil => cases h4
      | cons q0 tb =>
        cases hk : evE F a ρ with
        | no => rw [hk] at h; exact h.elim
        | ex c => exact ⟨q0, List.mem_cons_self, ρ, Hs, re, by rw [hk] at h ⊢; exact h⟩
        | ok x =>
          rw [hk] at h
          have h : holds ((mthD (q0 :: tb) x).bind fun f => (evL F es ρ).bind fun ds => F f (x :: ds)) _ _ := h
          obtain ⟨c, fs, rfl⟩ : ∃ c fs, x = .ins c fs := by
            cases x <;> first | exact ⟨_, _, rfl⟩ | exact h.elim
          simp only [mthD] at h
          cases hl : List.lookup c (q0 :: tb) with
          | none => rw [hl] at h; exact h.elim
          | some i =>
            rw [hl] at h
            have h : holds ((evL F es ρ).bind fun ds => F i (D.ins c fs :: ds)) _ _ := h
            have hm := lookup_memN hl
            refine ⟨(c, i), hm, ρ, Hs, re, ?_⟩
            rw [hk]
            intro v Hs1 H1 e1 r1
            have r0 := r1
            cases r1 with
            | ins s1 l1 r1 =>
              rename_i pa dx vs
              have hq2 := List.all_eq_true.1 h5 _ hm
              obtain ⟨_, _, _, _, _, _, c3, _⟩ := (ok.mts m c i _ (by simpa using hq2)).ex
              refine ⟨pa, dx, _, rfl, e1.sub _ _ s1, lookup_zipN c3, ρ, Hs1, re.ext e1, holds_mono (holds_bind h) (fun ds hds h2 us Hs2 H2 e2 b2 r2 => ?_) fun _ z => z.ext e1⟩
              have r2 := r2 h7
              refine ⟨Hs2, D.ins c fs :: ds, e2.sub, ?_, ?_, holds_mono h2 (fun d _ z => PV.ext z (e1.trans e2)) fun _ z => z.ext (e1.trans e2)⟩
              · rw [List.append_nil]; exact .cons (r0.mono e2.view) r2
              · rw [List.append_nil, List.length_cons, r2.length, len_evL hds h6]
    · cases h
  | .mk c n es, X, E, e, ok, hx, h => by
    unfold chkE at h
    split at h
    · rename_i fe xs hb
      obtain ⟨p, rfl⟩ := asCall_eq hb
      simp only [Bool.and_eq_true, Bool.not_eq_true', decide_eq_true_eq] at h
      obtain ⟨⟨⟨h1, h2⟩, h3⟩, h4⟩ := h
      obtain ⟨⟨c', nm, fl⟩, m1, m2⟩ := List.any_eq_true.1 h1
      simp only [Bool.and_eq_true, beq_iff_eq, decide_eq_true_eq] at m2
      obtain ⟨⟨rfl, m3⟩, m4⟩ := m2
      obtain ⟨p2, rfl, g1, g2, g3⟩ := gl_of m3
      have C := ok.cls _ _ _ m1
      have A := sndL es ok hx h3
      have fin : ∀ {Hs0 H0' Hs1 H1 : Hp} {vs : List V} {ds : List D} {Q : VK}, Ext Hs0 H0' Hs1 H1 → Reps g Hs1 vs ds → vs.length = fl.length → PR g Hs0 H0' (.ins c' ds) Q → ∀ x dx, H1 x = none → H1 dx = none → dx ≠ x → Q (.ref x) (upd (upd H1 dx (.own x)) x (.ins (g.ca c') dx (fl.zip vs))) := by
        intro Hs0 H0' Hs1 H1 vs ds Q e1 r1 l1 q x dx n1 n2 ne
        have x1 := Ext.new e1.sub (o := .own x) n2
        have n3 : (upd H1 dx (.own x)) x = none := by rw [upd_ne (Ne.symm ne)]; exact n1
        have x2 := Ext.new x1.sub (o := .ins (g.ca c') dx (fl.zip vs)) n3
        refine q _ _ _ (e1.trans (x1.trans x2)) (.inl ⟨?_, fun _ z => nomatch z⟩)
        refine .ins (dx := dx) (vs := vs) ?_ (by rw [C.fn]; exact l1) (r1.mono (x1.view.trans x2.view))
        rw [C.fn]; exact upd_same
      rcases C.ini with ⟨hfl, i1⟩ | ⟨hfl, f, fd, ps, M1, b1, F1⟩
      · have hn0 : n = 0 := by rw [← m4, hfl]; rfl
        have hx0 : xs = [] := List.length_eq_zero_iff.1 (by rw [h2, hn0])
        subst hx0
        cases es with
        | cons _ _ => simp [chkL] at h3
        | nil =>
          refine Snd.ofR (pew (pe_make00 C.mks C.kp i1 (Gl_of g1) C.at_ g2) fun pins s σ H Q I ⟨ρ, Hs, re, h⟩ => ?_) rfl rfl
          unfold evE evL at h
          have h : holds (gd (decide (([] : List D).length = n)) (D.ins c' [])) (fun d => PR g Hs H d Q) (EXc g E Hs H) := h
          obtain ⟨_, q⟩ := holds_gd h
          intro x dx k1 k2 k3
          have := fin (Ext.refl re.sub) (.nil : Reps g Hs [] []) (by rw [hfl]; rfl) q x dx k1 k2 k3
          rw [hfl] at this
          exact this
      · cases xs with
        | nil => exact absurd (List.length_eq_zero_iff.1 (by rw [m4, ← h2]; rfl)) hfl
        | cons y ys =>
          have hst : notStar y = true := by
            cases es with
            | nil => simp [chkL] at h3
            | cons z zs => simp only [chkL, Bool.and_eq_true] at h3; exact h3.1.2
          have hpl : (backTo p (starEach ys X.env)).any (·.1) = false := by
            cases es with
            | nil => simp [chkL] at h3
            | cons z zs => simp only [chkL, Bool.and_eq_true] at h3; exact no_star zs ys h3.2
          refine Snd.ofR (pew (pe_make (pos := p) (p := p2) M1 (F1 X.prog X.w X.base CX) ok.rm (Gl_of g1) C.at_ b1 .nil hx A g2 (star_cons hst) hpl) fun pins s σ H Q I ⟨ρ, Hs, re, h⟩ => ?_) rfl rfl
          unfold evE at h
          refine ⟨ρ, Hs, re, holds_mono (holds_bind h) (fun ds hds h2' vs Hs1 H1 e1 b1 r1 x dx k1 k2 k3 => ?_) fun _ z => z⟩
          obtain ⟨hl, q⟩ := holds_gd h2'
          have hl := of_decide_eq_true hl
          have r1 := r1 h4
          have lv : vs.length = fl.length := by rw [r1.length, hl, m4]
          refine ⟨x, dx, vs, by rw [List.append_nil], lv, upd_same, rfl, ?_⟩
          rw [upd_upd]
          exact fin e1 r1 lv q x dx k1 k2 k3
    · cases h
theorem sndL : ∀ (es : List Ex) {X : Cx} {E : XK} {xs : List Expr}, XOk g T F CX X → Passes CX X E → chkL T X.N es X.env.scope xs = true → PA X xs (tA g F H0 E es)
  | [], X, E, xs, ok, hx, h => by
    cases xs with
    | nil => exact sargs_nil
    | cons y ys => simp [chkL] at h
  | e :: es, X, E, xs, ok, hx, h => by
    cases xs with
    | nil => simp [chkL] at h
    | cons y ys =>
      simp only [chkL, Bool.and_eq_true] at h
      exact sargs_cons (sndE e ok hx h.1.1) h.1.2 (sndL es ok hx h.2)
theorem sndK : ∀ (ks : List Ex) {X : Cx} {E : XK}, XOk g T F CX X → Passes CX X E → ∀ kws : List Keyword, chkL T X.N ks X.env.scope (kwVals kws) = true → lends ks = false → PK X kws (tA g F H0 E ks)
  | [], X, E, ok, hx, kws, h, hl => by
    cases kws with
    | nil => exact skargs_nil
    | cons y ys => simp [chkL, kwVals] at h
  | k :: ks, X, E, ok, hx, kws, h, hl => by
    cases kws with
    | nil => simp [chkL, kwVals] at h
    | cons y ys =>
      obtain ⟨nm, e, kp⟩ := y
      simp only [kwVals, List.map_cons, chkL, Bool.and_eq_true] at h
      rw [lends_cons, Bool.or_eq_false_iff] at hl
      exact skargs_cons (sndE k ok hx h.1.1) hl.1 (sndK ks ok hx ys h.2 hl.2)
theorem sndO : ∀ (o : Option Ex) {X : Cx} {E : XK} {e : Option Expr}, XOk g T F CX X → Passes CX X E → chkO T X.N o X.env.scope e = true → PO X e (tOp' g F H0 E o)
  | none, X, E, e, ok, hx, h => by
    cases e with
    | none => exact pow po_none fun σ H Q ⟨ρ, Hs, re, h⟩ => by unfold evO at h; exact h Hs H (Ext.refl re.sub)
    | some e => simp [chkO] at h
  | some x, X, E, e, ok, hx, h => by
    cases e with
    | none => simp [chkO] at h
    | some e =>
      simp only [chkO, Bool.and_eq_true, Bool.not_eq_true'] at h
      have A := sndE x ok hx h.1
      refine pow (po_some A.o) fun σ H Q ⟨ρ, Hs, re, h⟩ => ?_
      unfold evO at h
      refine ⟨ρ, Hs, re, holds_mono (holds_bind h) (fun d _ h2 v Hs1 H1 e1 b1 => ?_) fun _ z => z⟩
      cases d <;> first | exact h2.elim | skip
      cases b1.rint
      exact ⟨_, rfl, h2 Hs1 H1 e1⟩
theorem sndC : ∀ (o : Option Ex) {X : Cx} {ifs : List Expr}, XOk g T F CX X → Passes CX X E0 → chkC T X.N o X.env.scope ifs = true → PTs X ifs (tCnd g F H0 o)
  | none, X, ifs, ok, hx, h => by
    cases ifs with
    | nil => exact pts_nil
    | cons y ys => simp [chkC] at h
  | some x, X, ifs, ok, hx, h => by
    cases ifs with
    | nil => simp [chkC] at h
    | cons y ys =>
      cases ys with
      | cons z zs => simp [chkC] at h
      | nil =>
        simp only [chkC, Bool.and_eq_true, Bool.not_eq_true'] at h
        exact pts_one ((sndE x ok hx h.1.1).t h.1.2 h.2)
theorem sndI : ∀ (k : Ik) (es : List Ex) {X : Cx} {E : XK} {tg e : Expr}, XOk g T F CX X → Passes CX X E → chkI T X.N k es X.env.scope tg e = true → PI X tg e (tI g F H0 E k es)
  | k, [], X, E, tg, e, ok, hx, h => by cases k <;> simp [chkI] at h
  | k, [x], X, E, tg, e, ok, hx, h => by
    cases k <;> simp only [chkI, Bool.false_eq_true] at h
    · simp only [Bool.and_eq_true, Bool.not_eq_true'] at h
      exact pi_seq ok.K ((sndE x ok hx h.1).v h.2)
    · split at h <;> first | cases h | skip
      rename_i fe a hb
      obtain ⟨p, rfl⟩ := asCall_eq hb
      simp only [Bool.and_eq_true, Bool.not_eq_true'] at h
      obtain ⟨⟨⟨h1, h2⟩, h3⟩, h4⟩ := h
      obtain ⟨p2, rfl, g1, g2, g3⟩ := gl_of h1
      exact pi_rng1 (Gl_of g1) (ok.blt _ (by decide +kernel)) (sargs_cons (sndE x ok hx h2) h3 sargs_nil) h3
    · split at h <;> first | cases h | skip
      rename_i fe a hb
      obtain ⟨p, rfl⟩ := asCall_eq hb
      simp only [Bool.and_eq_true, Bool.not_eq_true'] at h
      obtain ⟨⟨⟨⟨h0, h1⟩, h2⟩, h3⟩, h4⟩ := h
      obtain ⟨p2, rfl, g1, g2, g3⟩ := gl_of h1
      cases tg <;> simp only [isTupE, Bool.false_eq_true] at h0
      exact pi_en ok.K (Gl_of g1) (ok.blt _ (by decide +kernel)) (sargs_cons (sndE x ok hx h2) h3 sargs_nil) h3 h4
    · split at h <;> first | cases h | skip
      rename_i fe a hb
      obtain ⟨p, rfl⟩ := asCall_eq hb
      simp only [Bool.and_eq_true, Bool.not_eq_true'] at h
      obtain ⟨⟨⟨h1, h2⟩, h3⟩, h4⟩ := h
      obtain ⟨p2, rfl, g1, g2, g3⟩ := gl_of h1
      exact pi_rv ok.K (Gl_of g1) (ok.blt _ (by decide +kernel)) ((sndE x ok hx h2).v h4) h3
    · split at h <;> first | cases h | skip
      rename_i fe r hb
      obtain ⟨p, rfl⟩ := asCall_eq hb
      split at h <;> first | cases h | skip
      rename_i fr a hb2
      obtain ⟨p3, rfl⟩ := asCall_eq hb2
      simp only [Bool.and_eq_true, Bool.not_eq_true'] at h
      obtain ⟨⟨⟨⟨h1, h0⟩, h2⟩, h3⟩, h4⟩ := h
      obtain ⟨p2, rfl, g1, g2, g3⟩ := gl_of h1
      obtain ⟨p4, rfl, k1, k2, k3⟩ := gl_of h0
      exact pi_rr1 (Gl_of g1) (ok.blt _ (by decide +kernel)) (Gl_of k1) (ok.blt _ (by decide +kernel)) ((sndE x ok hx h2).v h4) h3
  | k, [x, y], X, E, tg, e, ok, hx, h => by
    cases k <;> simp only [chkI, Bool.false_eq_true] at h
    · split at h <;> first | cases h | skip
      rename_i fe a b hb
      obtain ⟨p, rfl⟩ := asCall_eq hb
      simp only [Bool.and_eq_true, Bool.not_eq_true'] at h
      obtain ⟨⟨⟨⟨⟨⟨h1, h2⟩, h3⟩, h4⟩, h5⟩, h6⟩, h7⟩ := h
      obtain ⟨p2, rfl, g1, g2, g3⟩ := gl_of h1
      exact pi_rng2 (Gl_of g1) (ok.blt _ (by decide +kernel)) (sargs_cons (sndE x ok hx h2) h3 (sargs_cons (sndE y ok hx h4) h5 sargs_nil)) h3 h5
    · split at h <;> first | cases h | skip
      rename_i fe a b hb
      obtain ⟨p, rfl⟩ := asCall_eq hb
      simp only [Bool.and_eq_true, Bool.not_eq_true'] at h
      obtain ⟨⟨⟨⟨⟨⟨⟨h0, h1⟩, h2⟩, h3⟩, h4⟩, h5⟩, h6⟩, h7⟩ := h
      obtain ⟨p2, rfl, g1, g2, g3⟩ := gl_of h1
      cases tg <;> simp only [isTupE, Bool.false_eq_true] at h0
      exact pi_zp ok.K (Gl_of g1) (ok.blt _ (by decide +kernel)) (sargs_cons (sndE x ok hx h2) h3 (sargs_cons (sndE y ok hx h4) h5 sargs_nil)) h3 h5 h6 h7 (by rw [star_cons h5]; rfl)
    · split at h <;> first | cases h | skip
      rename_i fe r hb
      obtain ⟨p, rfl⟩ := asCall_eq hb
      split at h <;> first | cases h | skip
      rename_i fr a b hb2
      obtain ⟨p3, rfl⟩ := asCall_eq hb2
      simp only [Bool.and_eq_true, Bool.not_eq_true'] at h
      obtain ⟨⟨⟨⟨⟨⟨⟨h1, h0⟩, h2⟩, h3⟩, h4⟩, h5⟩, h6⟩, h7⟩ := h
      obtain ⟨p2, rfl, g1, g2, g3⟩ := gl_of h1
      obtain ⟨p4, rfl, k1, k2, k3⟩ := gl_of h0
      exact pi_rr2 (Gl_of g1) (ok.blt _ (by decide +kernel)) (Gl_of k1) (ok.blt _ (by decide +kernel)) ((sndE x ok hx h2).v h6) h3 ((sndE y ok hx h4).v h7) h5 (by rw [star_cons h5]; rfl)
  | k, [x, y, z], X, E, tg, e, ok, hx, h => by
    cases k <;> simp only [chkI, Bool.false_eq_true] at h
    · split at h <;> first | cases h | skip
      rename_i fe a b c hb
      obtain ⟨p, rfl⟩ := asCall_eq hb
      simp only [Bool.and_eq_true, Bool.not_eq_true'] at h
      obtain ⟨⟨⟨⟨⟨⟨⟨⟨⟨h1, h2⟩, h3⟩, h4⟩, h5⟩, h6⟩, h7⟩, h8⟩, h9⟩, h10⟩ := h
      obtain ⟨p2, rfl, g1, g2, g3⟩ := gl_of h1
      exact pi_rng3 (Gl_of g1) (ok.blt _ (by decide +kernel)) (sargs_cons (sndE x ok hx h2) h3 (sargs_cons (sndE y ok hx h4) h5 (sargs_cons (sndE z ok hx h6) h7 sargs_nil))) h3 h5 h7
  | k, _ :: _ :: _ :: _ :: _, X, E, tg, e, ok, hx, h => by cases k <;> simp [chkI] at h
end
end
end Dw

/-! Statements: how they run, how they are checked. -/
namespace Dw
open PySem PySem.Spec PyProof.Rows L2

/-- more turns than any loop here takes -/
def FUEL : Nat := 2 ^ 2000
inductive Sx where
  | asg (i : Nat) (e : Ex)
  | own (i : Nat) (e : Ex)
  | unp (is : List Nat) (e : Ex)
  | aug (i : Nat) (op : Bop) (e : Ex)
  | put (i : Nat) (ix e : Ex)
  | app (i : Nat) (e : Ex)
  | ext (i : Nat) (e : Ex)
  | pop (is : List Nat) (i : Nat)
  | ite (c : Ex) (a b : List Sx)
  | for_ (tg : List Nat) (k : Ik) (es : List Ex) (body : List Sx)
  | while_ (fuel : Nat) (c : Ex) (body : List Sx)
  | ret (e : Ex)
  | retR (e : Ex)
  | retN
  | brk
  | cnt
  | pas
  | frz (i : Nat)
  | del (is : List Nat)
  | dnew (i : Nat) (t : Bool)
  | dput (i : Nat) (k e : Ex)
  | rse (c : Nat)
  | popE (i : Nat)
  | popK (is : List Nat) (i : Nat) (k : Ex)
/-- where a statement leads to -/
inductive O where
  | nx (ρ : List Sl)
  | bk (ρ : List Sl)
  | ct (ρ : List Sl)
  | rt (d : D)
def isLst : D → Bool
  | .lst _ => true
  | _ => false
def forD (f : D → List Sl → M O) : List D → List Sl → M O
  | [], ρ => .ok (.nx ρ)
  | x :: xs, ρ => (f x ρ).bind fun o => match o with
    | .nx ρ' => forD f xs ρ'
    | .ct ρ' => forD f xs ρ'
    | .bk ρ' => .ok (.nx ρ')
    | .rt d => .ok (.rt d)
def whlD (c : List Sl → M D) (f : List Sl → M O) : Nat → List Sl → M O
  | 0, _ => .no
  | n + 1, ρ => (c ρ).bind fun b => match b with
    | .bl true => (f ρ).bind fun o => match o with
      | .nx ρ' => whlD c f n ρ'
      | .ct ρ' => whlD c f n ρ'
      | .bk ρ' => .ok (.nx ρ')
      | .rt d => .ok (.rt d)
    | .bl false => .ok (.nx ρ)
    | _ => .no
def getO (ρ : List Sl) (i : Nat) : M (List D) := match ρ[i]? with
  | some (.ow ds) => .ok ds
  | _ => .no
def getOd (ρ : List Sl) (i : Nat) : M D := match ρ[i]? with
  | some (.od d) => .ok d
  | _ => .no
def frzD (ρ : List Sl) (i : Nat) : List Sl := match ρ[i]? with
  | some (.ow ds) => ρ.set i (.sh (.lst ds))
  | some (.od d) => ρ.set i (.sh d)
  | _ => ρ
def dNew (t : Bool) : D := match t with
  | true => .dcT [] []
  | false => .dcK [] []
/-- x op= y, of whole numbers -/
def augD : Bop → D → D → M D
  | .add, .int i, .int j => .ok (.int (i + j))
  | .sub, .int i, .int j => .ok (.int (i - j))
  | _, _, _ => .no
mutual
def exS (F : Fs) (fr : Bool) : Sx → List Sl → M O
  | .asg i e, ρ => (evE F e ρ).bind fun d => .ok (.nx (setV ρ i d))
  | .own i e, ρ => (evE F e ρ).bind fun d => match d with
    | .lst ds => .ok (.nx (ρ.set i (.ow ds)))
    | _ => .no
  | .unp is e, ρ => (evE F e ρ).bind fun d => (tgD ρ is d).bind fun ρ' => .ok (.nx ρ')
  | .aug i op e, ρ => (getV ρ i).bind fun x => (evE F e ρ).bind fun y => (augD op x y).bind fun d => .ok (.nx (setV ρ i d))
  | .put i ix e, ρ => (evE F e ρ).bind fun d => (getO ρ i).bind fun ds => (evE F ix ρ).bind fun k => match k with
    | .int k => match ixN ds.length k with
      | some j => .ok (.nx (ρ.set i (.ow (ds.set j d))))
      | none => .no
    | _ => .no
  | .app i e, ρ => (getO ρ i).bind fun ds => (evE F e ρ).bind fun d => gd (decide (ds.length < sizeLine)) (.nx (ρ.set i (.ow (ds ++ [d]))))
  | .ext i e, ρ => (getO ρ i).bind fun ds => (evE F e ρ).bind fun d => match seqOf d with
    | some es => gd (fits (ds.length + es.length)) (.nx (ρ.set i (.ow (ds ++ es))))
    | none => .no
  | .pop is i, ρ => (getO ρ i).bind fun ds => match ds[ds.length - 1]? with
    | some d => (tgD (ρ.set i (.ow ds.dropLast)) is d).bind fun ρ' => .ok (.nx ρ')
    | none => .no
  | .ite c a b, ρ => (evE F c ρ).bind fun d => match d with
    | .bl true => exB F fr a ρ
    | .bl false => exB F fr b ρ
    | _ => .no
  | .for_ tg k es body, ρ => ((evL F es ρ).bind fun ds => itD k ds).bind fun its => forD (fun d ρ => (tgD ρ tg d).bind fun ρ' => exB F fr body ρ') its ρ
  | .while_ fuel c body, ρ => whlD (evE F c) (exB F fr body) fuel ρ
  | .ret e, ρ => (evE F e ρ).bind fun d => gd (!fr || !isLst d) (.rt d)
  | .retR e, ρ => (evE F e ρ).bind fun d => .ok (.rt d)
  | .retN, _ => .ok (.rt .non)
  | .brk, ρ => .ok (.bk ρ)
  | .cnt, ρ => .ok (.ct ρ)
  | .pas, ρ => .ok (.nx ρ)
  | .del is, ρ => .ok (.nx (wipeD ρ is))
  | .frz i, ρ => .ok (.nx (frzD ρ i))
  | .dnew i t, ρ => .ok (.nx (ρ.set i (.od (dNew t))))
  | .dput i k e, ρ => (evE F e ρ).bind fun d => (getOd ρ i).bind fun dd => (evE F k ρ).bind fun kk => (dputD dd kk d).bind fun d' => .ok (.nx (ρ.set i (.od d')))
  | .rse c, _ => .ex c
  | .popE i, ρ => (getO ρ i).bind fun ds => match ds[ds.length - 1]? with
    | some _ => .ok (.nx (ρ.set i (.ow ds.dropLast)))
    | none => .no
  | .popK is i k, ρ => (getO ρ i).bind fun ds => (evE F k ρ).bind fun kk => match kk with
    | .int z => match (if 0 ≤ z then ds[z.toNat]? else none) with
      | some d => gd (decide (z < 2 ^ 62)) () |>.bind fun _ => (tgD (ρ.set i (.ow (ds.eraseIdx z.toNat))) is d).bind fun ρ' => .ok (.nx ρ')
      | none => .no
    | _ => .no
def exB (F : Fs) (fr : Bool) : List Sx → List Sl → M O
  | [], ρ => .ok (.nx ρ)
  | s :: ss, ρ => (exS F fr s ρ).bind fun o => match o with
    | .nx ρ' => exB F fr ss ρ'
    | .bk ρ' => .ok (.bk ρ')
    | .ct ρ' => .ok (.ct ρ')
    | .rt d => .ok (.rt d)
end
/-- a def: how many slots, its body -/
structure Df where
  n : Nat
  fr : Bool
  body : List Sx
def runD (F : Fs) (d : Df) (args : List D) : M D := match exB F d.fr d.body (args.map Sl.sh ++ List.replicate (d.n - args.length) .no) with
  | .ok (.rt r) => .ok r
  | .ok (.nx _) => .ok .non
  | .ex c => .ex c
  | _ => .no
/-- the defs, called to a depth -/
def callN (P : Nat → Option Df) : Nat → Fs
  | 0, _, _ => .no
  | n + 1, f, args => match P f with
    | some d => runD (callN P n) d args
    | none => .no

/-! ### checks -/
def locB (sc : Scope) (x : Str) : Bool := match sc.names.lookup x with
  | some .local => true
  | some .cell => true
  | _ => false
def isLocal (sc : Scope) (x : Str) : Bool := match sc.names.lookup x with
  | some .local => true
  | _ => false
def nmSt (N : List Str) (sc : Scope) (i : Nat) (x : Str) : Bool := decide (N[i]? = some x) && locB sc x
/-- a comprehension goes to a local name on its own line, or it is none -/
def swOk (sc : Scope) (x : Str) (p : Pos) : Expr → Bool
  | .ListComp _ _ cs q => !isLocal sc x || ((p.line == q.line) && !(cs.names.any fun (n, k) => n == x && (k == .local || k == .cell)))
  | .SetComp _ _ _ _ => false
  | .DictComp _ _ _ _ _ => false
  | _ => true
def notComp : Expr → Bool
  | .ListComp _ _ _ _ => false
  | .SetComp _ _ _ _ => false
  | .DictComp _ _ _ _ _ => false
  | _ => true
def asAsg : Stmt → Option (Expr × Expr × Pos)
  | .Assign [t] e p => some (t, e, p)
  | _ => none
def asDict0 : Expr → Bool
  | .Dict [] [] _ => true
  | _ => false
/-- raise X('..') -/
def asRse : Stmt → Option Str
  | .Raise (some (.Call (.Name x _) [.Constant (.str _) _ _] [] _)) none _ => some x
  | _ => none
def asNmP : Expr → Option (Str × Pos)
  | .Name x p => some (x, p)
  | _ => none
def asAug : Stmt → Option (Str × Operator × Expr)
  | .AugAssign (.Name x _) o e _ => some (x, o, e)
  | _ => none
def asSEx : Stmt → Option (Expr × Pos)
  | .Expr e p => some (e, p)
  | _ => none
/-- o.m(args) on one line -/
def asMeth : Expr → Option (Expr × Str × List Expr)
  | .Call (.Attribute o m ap) xs [] cp => if (ap.endLine == cp.line) = true then some (o, m, xs) else none
  | _ => none
def asSIf : Stmt → Option (Expr × List Stmt × List Stmt)
  | .If c a b _ => some (c, a, b)
  | _ => none
def asFor : Stmt → Option (Expr × Expr × List Stmt)
  | .For t i b [] _ => some (t, i, b)
  | _ => none
def asWhl : Stmt → Option (Expr × List Stmt)
  | .While c b [] _ => some (c, b)
  | _ => none
def asRet : Stmt → Option (Option Expr)
  | .Return e _ => some e
  | _ => none
def augOk : Bop → Operator → Bool
  | .add, .Add => true
  | .sub, .Sub => true
  | _, _ => false
def locAllF (sc : Scope) : List (Str × Nat) → Bool
  | [] => true
  | (x, _) :: r => locB sc x && locAllF sc r
def nmAll (N : List Str) : List (Str × Nat) → Bool
  | [] => true
  | (x, i) :: r => decide (N[i]? = some x) && nmAll N r
def chkTg (N : List Str) (sc : Scope) (t : Expr) (is : List Nat) : Bool := match ownOf t is with
  | some own => locAllF sc own && nmAll N own
  | none => false
mutual
def chkS (T : Tab) (N : List Str) (fr : Bool) (sc : Scope) : Sx → Stmt → Bool
  | .asg i e, st => match asAsg st with
    | some (t, v, _) => match asNmP t with
      | some (x, p) => nmSt N sc i x && swOk sc x p v && chkE T N e sc v && !isBor e
      | none => false
    | none => false
  | .own i e, st => match asAsg st with
    | some (t, v, _) => match asNmP t with
      | some (x, p) => nmSt N sc i x && swOk sc x p v && chkE T N e sc v && isFr T e
      | none => false
    | none => false
  | .unp is e, st => match asAsg st with
    | some (t, v, _) => isTupE t && chkTg N sc t is && notComp v && !isTupE v && chkE T N e sc v && !isBor e
    | none => false
  | .aug i op e, st => match asAug st with
    | some (x, o, v) => nmSt N sc i x && augOk op o && chkE T N e sc v
    | none => false
  | .put i ix e, st => match asAsg st with
    | some (t, v, _) => match asSub t with
      | some (o, k) => nmOk N sc i o && chkE T N e sc v && !isBor e && chkE T N ix sc k && notComp v && notSlice k
      | none => false
    | none => false
  | .app i e, st => match asSEx st with
    | some (m, _) => match asMeth m with
      | some (o, nm, [v]) => decide (nm = "append") && nmOk N sc i o && chkE T N e sc v && notStar v && !isBor e
      | _ => false
    | none => false
  | .ext i e, st => match asSEx st with
    | some (m, _) => match asMeth m with
      | some (o, nm, [v]) => decide (nm = "extend") && nmOk N sc i o && chkE T N e sc v && notStar v
      | _ => false
    | none => false
  | .pop is i, st => match asAsg st with
    | some (t, v, _) => match asMeth v with
      | some (o, nm, []) => decide (nm = "pop") && nmOk N sc i o && chkTg N sc t is && !is.contains i
      | _ => false
    | none => false
  | .ite c a b, st => match asSIf st with
    | some (ec, sa, sb) => chkE T N c sc ec && notIf ec && !isBor c && chkB T N fr sc a sa && chkB T N fr sc b sb
    | none => false
  | .for_ tg k es body, st => match asFor st with
    | some (t, i, b) => chkTg N sc t tg && chkI T N k es sc t i && notSet i && chkB T N fr sc body b
    | none => false
  | .while_ _ c body, st => match asWhl st with
    | some (ec, b) => chkE T N c sc ec && notIf ec && !isBor c && chkB T N fr sc body b
    | none => false
  | .ret e, st => match asRet st with
    | some (some v) => chkE T N e sc v && !isBor e
    | _ => false
  | .retR e, st => match asRet st with
    | some (some v) => chkE T N e sc v && (isFr T e || (isBor e && fr))
    | _ => false
  | .retN, st => match asRet st with
    | some none => true
    | _ => false
  | .brk, st => match st with
    | .Break _ => true
    | _ => false
  | .cnt, st => match st with
    | .Continue _ => true
    | _ => false
  | .pas, st => match st with
    | .Pass _ => true
    | _ => false
  | .dnew i _, st => match asAsg st with
    | some (t, v, _) => match asNmP t with
      | some (x, p) => nmSt N sc i x && asDict0 v
      | none => false
    | none => false
  | .dput i k e, st => match asAsg st with
    | some (t, v, _) => match asSub t with
      | some (o, kk) => nmOk N sc i o && chkE T N e sc v && !isBor e && chkE T N k sc kk && notComp v && notSlice kk
      | none => false
    | none => false
  | .rse c, st => match asRse st with
    | some x => T.exs.contains (c, x) && glB sc x && !(x == ("__debug__" : Str))
    | none => false
  | .popE i, st => match asSEx st with
    | some (m, _) => match asMeth m with
      | some (o, nm, []) => decide (nm = "pop") && nmOk N sc i o
      | _ => false
    | none => false
  | .popK is i k, st => match asAsg st with
    | some (t, v, _) => match asMeth v with
      | some (o, nm, [kk]) => decide (nm = "pop") && nmOk N sc i o && chkTg N sc t is && !is.contains i && chkE T N k sc kk && notStar kk && !isBor k
      | _ => false
    | none => false
  | .frz _, _ => false
  | .del _, _ => false
def chkB (T : Tab) (N : List Str) (fr : Bool) (sc : Scope) : List Sx → List Stmt → Bool
  | [], [] => true
  | .frz _ :: ss, ts => chkB T N fr sc ss ts
  | .del _ :: ss, ts => chkB T N fr sc ss ts
  | s :: ss, t :: ts => chkS T N fr sc s t && chkB T N fr sc ss ts
  | _, _ => false
end
end Dw

namespace Dw
open PySem PySem.Spec PyProof.Rows L2
section
variable {g : G} {T : Tab} {F : Fs} {H0 : Hp} {CX : CXT}
/-- what is wanted of a handed back value -/
def RT (g : G) (fr : Bool) (Hs0 H0 : Hp) (d : D) (R : VK) : Prop := match fr with
  | true => PR g Hs0 H0 d R
  | false => PV g Hs0 H0 d R
def oPost (g : G) (H0 Hs0 : Hp) (fr : Bool) (Hs : Hp) (Dn : Ends) : O → Prop
  | .nx ρ' => ∀ σ' Hs' H', RE g H0 Hs' H' ρ' σ' → Ext Hs0 H0 Hs' H' → Same Hs Hs' → Dn.nx σ' H'
  | .bk ρ' => ∀ σ' Hs' H', RE g H0 Hs' H' ρ' σ' → Ext Hs0 H0 Hs' H' → Same Hs Hs' → Dn.bk σ' H'
  | .ct ρ' => ∀ σ' Hs' H', RE g H0 Hs' H' ρ' σ' → Ext Hs0 H0 Hs' H' → Same Hs Hs' → Dn.ct σ' H'
  | .rt d => RT g fr Hs0 H0 d Dn.rt
def tS (g : G) (H0 : Hp) (E : XK) (Hs0 : Hp) (fr : Bool) (run : List Sl → M O) : TS := fun Dn σ H => ∃ ρ Hs, RE g H0 Hs H ρ σ ∧ Ext Hs0 H0 Hs H ∧ holds (run ρ) (oPost g H0 Hs0 fr Hs Dn) (EXc g E Hs0 H0)
theorem psw {X : Cx} {st : Stmt} {t t' : TS} (h : PS X st t) (w : ∀ D σ H, t' D σ H → t D σ H) : PS X st t' := ⟨fun pins s σ H D I q => h.run pins s σ H D I (w D σ H q)⟩
theorem pssw {X : Cx} {st : List Stmt} {t t' : TS} (h : PSs X st t) (w : ∀ D σ H, t' D σ H → t D σ H) : PSs X st t' := ⟨fun pins s σ H D I q => h.run pins s σ H D I (w D σ H q)⟩
theorem oPost_same {Hs0 Hs Hs1 : Hp} {fr : Bool} {Dn : Ends} {o : O} (h : oPost g H0 Hs0 fr Hs Dn o) (e : Same Hs Hs1) : oPost g H0 Hs0 fr Hs1 Dn o := by
  cases o with
  | nx ρ => exact fun σ' Hs' H' r x s => h σ' Hs' H' r x (e.trans s)
  | bk ρ => exact fun σ' Hs' H' r x s => h σ' Hs' H' r x (e.trans s)
  | ct ρ => exact fun σ' Hs' H' r x s => h σ' Hs' H' r x (e.trans s)
  | rt d => exact h

/-! ### slots with lists of one's own -/
theorem RE.own' {Hs H : Hp} {ρ : List Sl} {σ : L2.St} (r : RE g H0 Hs H ρ σ) (i : Nat) {p : Addr} {o : HO} {s : Sl} (hs : isOw s = true) (h1 : H p = some o) (h2 : Hs p = none) (h3 : H0 p = none) (h4 : OwS g Hs s o)
    (h5 : ∀ j t q, j ≠ i → ρ[j]? = some t → isOw t = true → σ[j]? = some (some (.ref q)) → q ≠ p) : RE g H0 Hs H (ρ.set i s) (σ.set i (some (.ref p))) where
  sub := r.sub
  len := by rw [List.length_set, List.length_set, r.len]
  sh := fun j e h => by
    rcases set_get h with ⟨rfl, z⟩ | ⟨hn, z⟩
    · subst z; cases hs
    · obtain ⟨w, k1, k2⟩ := r.sh j e z
      exact ⟨w, by rw [List.getElem?_set_ne hn]; exact k1, k2⟩
  own := fun j t h ht => by
    rcases set_get h with ⟨rfl, z⟩ | ⟨hn, z⟩
    · subst z
      have hl : i < σ.length := by
        rw [← r.len]
        by_cases z : i < ρ.length
        · exact z
        · rw [List.getElem?_eq_none (by rw [List.length_set]; omega)] at h; cases h
      exact ⟨p, o, List.getElem?_set_self hl, h1, h2, h3, h4⟩
    · obtain ⟨q, ws, k1, k2⟩ := r.own j t z ht
      exact ⟨q, ws, by rw [List.getElem?_set_ne hn]; exact k1, k2⟩
  ap := fun a b s' t' q hab k1 k2 hs' ht' k3 k4 => by
    rcases set_get k1 with ⟨rfl, z⟩ | ⟨n1, z1⟩
    · rcases set_get k2 with ⟨rfl, z⟩ | ⟨n2, z2⟩
      · exact hab rfl
      · rw [List.getElem?_set_ne n2] at k4
        have hl : i < σ.length := by
          by_cases z : i < σ.length
          · exact z
          · rw [List.getElem?_eq_none (by rw [List.length_set]; omega)] at k3; cases k3
        rw [List.getElem?_set_self hl] at k3
        cases k3
        exact h5 b t' _ (Ne.symm n2) z2 ht' k4 rfl
    · rw [List.getElem?_set_ne n1] at k3
      rcases set_get k2 with ⟨rfl, z⟩ | ⟨n2, z2⟩
      · have hl : i < σ.length := by
          by_cases z : i < σ.length
          · exact z
          · rw [List.getElem?_eq_none (by rw [List.length_set]; omega)] at k4; cases k4
        rw [List.getElem?_set_self hl] at k4
        cases k4
        exact h5 a s' _ (Ne.symm n1) z1 hs' k3 rfl
      · rw [List.getElem?_set_ne n2] at k4
        exact r.ap a b s' t' q hab z1 z2 hs' ht' k3 k4
/-- an object of one's own is changed -/
theorem RE.mut' {Hs H : Hp} {ρ : List Sl} {σ : L2.St} (r : RE g H0 Hs H ρ σ) {i : Nat} {s s' : Sl} {p : Addr} {o' : HO} (h : ρ[i]? = some s) (hs : isOw s = true) (hs' : isOw s' = true) (h1 : σ[i]? = some (some (.ref p))) (h2 : Hs p = none) (h3 : H0 p = none) (h4 : OwS g Hs s' o') : RE g H0 Hs (upd H p o') (ρ.set i s') σ where
  sub := fun a o q => by rw [upd_ne (ne_of_none q h2)]; exact r.sub a o q
  len := by rw [List.length_set, r.len]
  sh := fun j e k => by
    rcases set_get k with ⟨rfl, z⟩ | ⟨hn, z⟩
    · subst z; cases hs'
    · exact r.sh j e z
  own := fun j t k ht => by
    rcases set_get k with ⟨rfl, z⟩ | ⟨hn, z⟩
    · subst z
      exact ⟨p, o', h1, upd_same, h2, h3, h4⟩
    · obtain ⟨q, ws, k1, k2, k3, k4, k5⟩ := r.own j t z ht
      refine ⟨q, ws, k1, ?_, k3, k4, k5⟩
      have hq : q ≠ p := fun e => by
        subst e
        exact r.ap i j s t q hn h z hs ht h1 k1
      rw [upd_ne hq]
      exact k2
  ap := fun a b es fs q hab k1 k2 ha hb k3 k4 => by
    rcases set_get k1 with ⟨rfl, z⟩ | ⟨n1, z1⟩
    · rcases set_get k2 with ⟨rfl, z⟩ | ⟨n2, z2⟩
      · exact hab rfl
      · exact r.ap i b s fs q hab h z2 hs hb k3 k4
    · rcases set_get k2 with ⟨rfl, z⟩ | ⟨n2, z2⟩
      · exact r.ap a i es s q hab z1 h ha hs k3 k4
      · exact r.ap a b es fs q hab z1 z2 ha hb k3 k4
theorem RE.mut {Hs H : Hp} {ρ : List Sl} {σ : L2.St} (r : RE g H0 Hs H ρ σ) {i : Nat} {ds ds' : List D} {p : Addr} {vs' : List V} (h : ρ[i]? = some (.ow ds)) (h1 : σ[i]? = some (some (.ref p))) (h2 : Hs p = none) (h3 : H0 p = none) (h4 : Reps g Hs vs' ds') : RE g H0 Hs (upd H p (.lst vs')) (ρ.set i (.ow ds')) σ :=
  r.mut' h rfl rfl h1 h2 h3 ⟨vs', rfl, h4⟩
theorem Ext.mut {Hs0 Hs H : Hp} (e : Ext Hs0 H0 Hs H) {p : Addr} {o : HO} (h2 : Hs p = none) (h3 : H0 p = none) : Ext Hs0 H0 Hs (upd H p o) :=
  ⟨fun a x q => by rw [upd_ne (ne_of_none q h3)]; exact e.all a x q, e.view, fun a x q => by rw [upd_ne (ne_of_none q h2)]; exact e.sub a x q, e.out⟩
/-- an object of one's own becomes a shared one -/
def shS : Sl → Sl
  | .ow ds => .sh (.lst ds)
  | .od d => .sh d
  | s => s
theorem OwS.rep {Hs H : Hp} {s : Sl} {d : D} {o : HO} {p : Addr} (h : OwS g Hs s o) (e : Same Hs H) (hp : H p = some o) (hd : shS s = .sh d) (hs : isOw s = true) : Rep g H (.ref p) d := by
  cases s <;> first | cases hs | skip
  · cases hd
    obtain ⟨vs, rfl, r⟩ := h
    exact .lst (.inl (.inl hp)) (r.mono e)
  · cases hd
    exact OwnD.rep h e hp
theorem RE.frz {Hs H : Hp} {ρ : List Sl} {σ : L2.St} (r : RE g H0 Hs H ρ σ) {i : Nat} {s : Sl} {d : D} (h : ρ[i]? = some s) (hs : isOw s = true) (hd : shS s = .sh d) : ∃ Hs', RE g H0 Hs' H (ρ.set i (.sh d)) σ ∧ Same Hs Hs' ∧ ∀ Hs0, Ext Hs0 H0 Hs H → Ext Hs0 H0 Hs' H := by
  obtain ⟨p, o, h1, h2, h3, h4, h5⟩ := r.own i s h hs
  have sm : Same Hs (upd Hs p o) := same_upd h3
  refine ⟨upd Hs p o, ?_, sm, fun Hs0 e => e.show_ h2 h4 h3⟩
  refine ⟨fun a o' q => ?_, by rw [List.length_set, r.len], fun j e k => ?_, fun j es k hes => ?_, fun a b es fs q hab k1 k2 ha hb k3 k4 => ?_⟩
  · by_cases ha : a = p
    · subst ha; rw [upd_same] at q; cases q; exact h2
    · rw [upd_ne ha] at q; exact r.sub a o' q
  · rcases set_get k with ⟨rfl, z⟩ | ⟨hn, z⟩
    · cases z
      exact ⟨_, h1, h5.rep sm upd_same hd hs⟩
    · obtain ⟨w, k1, k2⟩ := r.sh j e z
      exact ⟨w, k1, k2.mono sm⟩
  · rcases set_get k with ⟨rfl, z⟩ | ⟨hn, z⟩
    · subst z; cases hes
    · obtain ⟨q, ws, k1, k2, k3, k4, k5⟩ := r.own j es z hes
      have hq : q ≠ p := fun e => by
        subst e
        exact r.ap i j s es q hn h z hs hes h1 k1
      exact ⟨q, ws, k1, k2, by rw [upd_ne hq]; exact k3, k4, k5.mono sm⟩
  · rcases set_get k1 with ⟨rfl, z⟩ | ⟨n1, z1⟩
    · subst z; cases ha
    · rcases set_get k2 with ⟨rfl, z⟩ | ⟨n2, z2⟩
      · subst z; cases hb
      · exact r.ap a b es fs q hab z1 z2 ha hb k3 k4
theorem RE.forget1 {Hs H : Hp} {ρ : List Sl} {σ : L2.St} (r : RE g H0 Hs H ρ σ) (i : Nat) : RE g H0 Hs H (ρ.set i .no) σ where
  sub := r.sub
  len := by rw [List.length_set, r.len]
  sh := fun j e h => by
    rcases set_get h with ⟨rfl, z⟩ | ⟨_, z⟩
    · cases z
    · exact r.sh j e z
  own := fun j es h hs => by
    rcases set_get h with ⟨rfl, z⟩ | ⟨_, z⟩
    · subst z; cases hs
    · exact r.own j es z hs
  ap := fun a b es fs q hab k1 k2 ha hb k3 k4 => by
    rcases set_get k1 with ⟨rfl, z⟩ | ⟨_, z1⟩
    · subst z; cases ha
    · rcases set_get k2 with ⟨rfl, z⟩ | ⟨_, z2⟩
      · subst z; cases hb
      · exact r.ap a b es fs q hab z1 z2 ha hb k3 k4
theorem RE.forget {Hs H : Hp} {ρ : List Sl} {σ : L2.St} (r : RE g H0 Hs H ρ σ) : ∀ is : List Nat, RE g H0 Hs H (wipeD ρ is) σ
  | [] => r
  | i :: is => (RE.forget r is).forget1 i
theorem list_extW (l : Addr) (items : Array Value) (n : Nat) (b : Addr) (items2 : Array Value) (n2 : Nat) (dd2 : Option Addr) (sl2 : Array (Option Value)) (hc0 : ¬(!items.isEmpty && Builtin.List.listTooLong (items.size + items2.size)) = true) (hc1 : items.size ≤ sizeLine) (hs2 : items.size + items2.size ≤ sizeLine + 1) :
    Meets (Builtin.«list.extend» ⟨[.ref l, .ref b], []⟩) (fun _ R s => s.heap.get? l = some { cls := .type "list", dict := none, data := .seq items n, slots := #[] } ∧ s.heap.get? b = some { cls := .type "list", dict := dd2, data := .seq items2 n2, slots := sl2 } ∧ R (.ok (.ret Value.none)) { s with heap := s.heap.update l (Obj.mapSeq fun x => x ++ items2), toks := s.toks }) :=
  .of_wp fun prog w A R s h => by
    obtain ⟨hp, g, d, tk, os⟩ := s; obtain ⟨hl, hb, h⟩ := h; have f1 := AutoSeq1.idx_int; have f2 := AutoSeq1.sub_tuple_tuple; have f3 := AutoSeq1.sub_list_list; have f4 := AutoSeq1.sub_tuple_list; have f5 := AutoSeq1.sub_list_tuple;
    have hz' : (items ++ items2).size ≤ sizeLine + 1 := by rw [Array.size_append]; exact hs2
    wp_walk using (wpAny_updateSeq hl rfl (hz := hc1) (_hz' := hz')), wpAny_loadPart' hl, wpAny_loadPart' hb; exact ⟨_, rfl, h⟩
theorem list_extT (l : Addr) (items : Array Value) (n : Nat) (b : Addr) (items2 : Array Value) (n2 : Nat) (dd2 : Option Addr) (sl2 : Array (Option Value)) (hc0 : ¬(!items.isEmpty && Builtin.List.listTooLong (items.size + items2.size)) = true) (hc1 : items.size ≤ sizeLine) (hs2 : items.size + items2.size ≤ sizeLine + 1) :
    Meets (Builtin.«list.extend» ⟨[.ref l, .ref b], []⟩) (fun _ R s => s.heap.get? l = some { cls := .type "list", dict := none, data := .seq items n, slots := #[] } ∧ s.heap.get? b = some { cls := .type "tuple", dict := dd2, data := .seq items2 n2, slots := sl2 } ∧ R (.ok (.ret Value.none)) { s with heap := s.heap.update l (Obj.mapSeq fun x => x ++ items2), toks := s.toks }) :=
  .of_wp fun prog w A R s h => by
    obtain ⟨hp, g, d, tk, os⟩ := s; obtain ⟨hl, hb, h⟩ := h; have f1 := AutoSeq1.idx_int; have f2 := AutoSeq1.sub_tuple_tuple; have f3 := AutoSeq1.sub_list_list; have f4 := AutoSeq1.sub_tuple_list; have f5 := AutoSeq1.sub_list_tuple;
    have hz' : (items ++ items2).size ≤ sizeLine + 1 := by rw [Array.size_append]; exact hs2
    wp_walk using (wpAny_updateSeq hl rfl (hz := hc1) (_hz' := hz')), wpAny_loadPart' hl, wpAny_loadPart' hb; exact ⟨_, rfl, h⟩
def rExtendQ (K : PySem.W.Frag) : V → List V → Hp → VK → Prop := fun x vs H Q => ∃ l b xs zs, x = .ref l ∧ vs = [.ref b] ∧ H l = some (.lst xs) ∧ (SqL K H b zs ∨ SqT K H b zs) ∧ xs.length + zs.length ≤ sizeLine ∧ Q .non (upd H l (.lst (xs ++ zs)))
theorem mt_extendQ {X : Cx} : MtR X "list.extend" (rExtendQ X.K) := by
  intro pins s σ H x vs v us Q I rx rv h
  obtain ⟨l, b, xs, zs, rfl, rfl, hH, hB, hz, q⟩ := h
  cases rx
  obtain ⟨u, rfl, ru⟩ := rv.one
  cases ru
  obtain ⟨z, its, n, r, hl, e⟩ := I.lstM hH
  rcases hB with hB | hB
  · obtain ⟨its2, r2, hl2, _⟩ := I.list hB
    obtain ⟨⟨cls2, dd2, data2, sl2⟩, ho2, hc2, n2, hd2⟩ := id hl2.isList
    simp only at hc2 hd2
    subst hc2 hd2
    have z2 := r2.length
    have hsz : its.toArray.size + its2.toArray.size ≤ sizeLine := by rw [List.size_toArray, List.size_toArray]; omega
    have hlong : ¬ (!its.toArray.isEmpty && Builtin.List.listTooLong (its.toArray.size + its2.toArray.size)) = true := by
      rw [notLongL hsz, Bool.and_false]
      exact Bool.false_ne_true
    refine call_meets F.slot_list_extend ⟨_, e, rfl⟩ F.entry_list_extend (F.args_list_extend_2 _ _)
      (list_extW l its.toArray n b its2.toArray n2 dd2 sl2 hlong (by rw [List.size_toArray]; omega) (by omega)) ⟨e, ho2, ?_⟩
    refine ⟨.non, _, I.lset (its' := its ++ its2) hH e (by simp) (r.append r2) ?_, rfl, q⟩
    rw [List.length_append]
    omega
  · obtain ⟨its2, r2, hl2, _⟩ := I.tuple hB
    obtain ⟨⟨cls2, dd2, data2, sl2⟩, ho2, hc2, n2, hd2⟩ := id hl2
    simp only at hc2 hd2
    subst hc2 hd2
    have z2 := r2.length
    have hsz : its.toArray.size + its2.toArray.size ≤ sizeLine := by rw [List.size_toArray, List.size_toArray]; omega
    have hlong : ¬ (!its.toArray.isEmpty && Builtin.List.listTooLong (its.toArray.size + its2.toArray.size)) = true := by
      rw [notLongL hsz, Bool.and_false]
      exact Bool.false_ne_true
    refine call_meets F.slot_list_extend ⟨_, e, rfl⟩ F.entry_list_extend (F.args_list_extend_2 _ _)
      (list_extT l its.toArray n b its2.toArray n2 dd2 sl2 hlong (by rw [List.size_toArray]; omega) (by omega)) ⟨e, ho2, ?_⟩
    refine ⟨.non, _, I.lset (its' := its ++ its2) hH e (by simp) (r.append r2) ?_, rfl, q⟩
    rw [List.length_append]
    omega
theorem getOd_ok {ρ : List Sl} {i : Nat} {α : Type} {f : D → M α} {ok : α → Prop} {ex : Nat → Prop} (h : holds ((getOd ρ i).bind f) ok ex) : ∃ d, ρ[i]? = some (.od d) ∧ holds (f d) ok ex := by
  unfold getOd at h
  split at h
  · rename_i ds e
    exact ⟨ds, e, h⟩
  · exact h.elim
def rSetD : TSet := fun x y v H Q => ∃ a H', x = .ref a ∧ DPut H a y v H' ∧ Q H'
theorem set_dict {X : Cx} (hu : X.A.units + 1 < cLine) : PSet X rSetD := by
  intro pins s σ H o i v ov iv u Q I ro ri rv h
  obtain ⟨a, H', rfl, hd, q⟩ := h
  cases ro
  exact d_setItem hu I hd ri rv fun s' I' => ⟨H', I', q⟩
/-- a store into a dict of one's own -/
theorem dput_of {Hs H : Hp} {p : Addr} {o : HO} {d x e d' : D} {y v : V} (hp : H p = some o) (od : OwnD g Hs d o) (sub : Same Hs H) (b : BRep g Hs H y x) (r : Rep g Hs v e) (h : dputD d x e = .ok d') :
    ∃ o', DPut H p y v (upd H p o') ∧ OwnD g Hs d' o' := by
  have hz : ∀ {κ : Type} {ks : List κ} {us : List V}, us.length = ks.length → (ks.zip us).length = ks.length := fun l => by rw [List.length_zip, l, Nat.min_self]
  cases d <;> first | exact od.elim | skip
  · rename_i ks ds
    obtain ⟨us, rfl, h2, h3⟩ := od
    unfold dputD at h
    simp only at h
    cases hk : keyOf x with
    | none => rw [hk] at h; cases h
    | some k =>
      rw [hk] at h
      have hy := keyOf_kV b hk
      subst hy
      simp only [gd] at h
      split at h
      · rename_i hl
        cases h
        obtain ⟨us', k1, k2, k3⟩ := putK_zip r k h3 h2
        refine ⟨_, DPut.k hp (by rw [hz h2]; exact of_decide_eq_true hl), us', by rw [k1], k2, k3⟩
      · cases h
  · rename_i ks ds
    obtain ⟨us, rfl, h2, h3⟩ := od
    unfold dputD at h
    simp only at h
    cases hk : tkeyOf x with
    | none => rw [hk] at h; cases h
    | some k =>
      rw [hk] at h
      obtain ⟨q, rfl, hq⟩ := tkeyOf_kV b sub hk
      simp only [gd] at h
      split at h
      · rename_i hl
        cases h
        obtain ⟨us', k1, k2, k3⟩ := putK_zip r k h3 h2
        refine ⟨_, DPut.t hp hq (by rw [hz h2]; exact of_decide_eq_true hl), us', by rw [k1], k2, k3⟩
      · cases h
theorem dput_ex {d x e : D} {c : Nat} : dputD d x e ≠ .ex c := by
  unfold dputD gd
  split <;> (try split) <;> (try split) <;> intro h <;> cases h
theorem getO_ok {ρ : List Sl} {i : Nat} {α : Type} {f : List D → M α} {ok : α → Prop} {ex : Nat → Prop} (h : holds ((getO ρ i).bind f) ok ex) : ∃ ds, ρ[i]? = some (.ow ds) ∧ holds (f ds) ok ex := by
  unfold getO at h
  split at h
  · rename_i ds e
    exact ⟨ds, e, h⟩
  · exact h.elim

/-! ### names, targets -/
theorem nmSt_of {N : List Str} {sc : Scope} {i : Nat} {x : Str} (h : nmSt N sc i x = true) : N[i]? = some x ∧ Loc sc x := by
  unfold nmSt at h
  simp only [Bool.and_eq_true, decide_eq_true_eq] at h
  refine ⟨h.1, ?_⟩
  have h2 := h.2
  unfold locB at h2
  unfold L2.Loc
  split at h2 <;> simp_all
theorem loc_memF {sc : Scope} : ∀ {own : List (Str × Nat)}, locAllF sc own = true → ∀ p ∈ own, Loc sc p.1
  | [], _, _, hp => nomatch hp
  | (x, i) :: r, h, p, hp => by
    simp only [locAllF, Bool.and_eq_true] at h
    rcases List.mem_cons.mp hp with rfl | hp
    · have h1 := h.1
      unfold locB at h1
      unfold L2.Loc
      split at h1 <;> simp_all
    · exact loc_memF h.2 p hp
theorem nm_mem {N : List Str} : ∀ {own : List (Str × Nat)}, nmAll N own = true → ∀ p ∈ own, N[p.2]? = some p.1
  | [], _, _, hp => nomatch hp
  | (x, i) :: r, h, p, hp => by
    simp only [nmAll, Bool.and_eq_true, decide_eq_true_eq] at h
    rcases List.mem_cons.mp hp with rfl | hp
    · exact h.1
    · exact nm_mem h.2 p hp
theorem owns_okF {X : Cx} (hfn : ∀ x, X.fn x = true) : ∀ {es : List Expr} {is : List Nat} {own : List (Str × Nat)}, ownOf.ownsOf es is = some own → (∀ p ∈ own, X.N[p.2]? = some p.1 ∧ Loc X.env.scope p.1) → X.N.Nodup → PGs X es (gsD is)
  | [], [], own, h, _, _ => pgs_nil
  | [], _ :: _, _, h, _, _ => by simp [ownOf.ownsOf] at h
  | e :: es, [], _, h, _, _ => by cases e <;> simp [ownOf.ownsOf] at h
  | e :: es, i :: is, own, h, k, nd => by
    cases e <;> simp only [ownOf.ownsOf, reduceCtorEq] at h
    cases q : ownOf.ownsOf es is with
    | none => rw [q] at h; cases h
    | some r =>
      rw [q] at h
      cases h
      have z := k _ List.mem_cons_self
      exact pgs_cons (pg_name nd z.1 z.2 (.inl (hfn _))) (owns_okF hfn q (fun p hp => k p (List.mem_cons_of_mem _ hp)) nd)
theorem tg_ok {X : Cx} (hfn : ∀ x, X.fn x = true) {e : Expr} {is : List Nat} (h : chkTg X.N X.env.scope e is = true) (nd : X.N.Nodup) (hc : X.calm = true) : PG X e (gD X.K is) := by
  unfold chkTg at h
  cases ho : ownOf e is with
  | none => rw [ho] at h; cases h
  | some own =>
    rw [ho] at h
    rw [Bool.and_eq_true] at h
    have k : ∀ p ∈ own, X.N[p.2]? = some p.1 ∧ Loc X.env.scope p.1 := fun p hp => ⟨nm_mem h.2 p hp, loc_memF h.1 p hp⟩
    unfold ownOf at ho
    split at ho
    · cases ho
      have z := k _ List.mem_cons_self
      exact pg_name nd z.1 z.2 (.inl (hfn _))
    · have h1 := owns_okF hfn ho k nd
      obtain ⟨z1, z2⟩ := owns_each (X := X) ho
      exact pg_tl (X := X) hc h1 z1 z2
    · cases ho
theorem sw_false {v : Expr} {t : Option Expr} {l : Nat} {env : Env} (h : notComp v = true) : swapsWith v t l env = pure false := by
  cases v <;> first | rfl | (simp only [notComp, Bool.false_eq_true] at h)
theorem sw_cell {X : Cx} {elt : Expr} {gs : List Comprehension} {cs : Scope} {q p : Pos} {x : Str} {l : Nat} (h : isLocal X.env.scope x = false) : swapsWith (.ListComp elt gs cs q) (some (.Name x p)) l X.env = pure false := by
  unfold swapsWith
  have hk : (X.env.kindOf x == some NameKind.local) = false := by
    unfold isLocal at h
    show (X.env.scope.names.lookup x == some NameKind.local) = false
    split at h
    · cases h
    · rename_i hn
      cases e : X.env.scope.names.lookup x with
      | none => rfl
      | some k => cases k <;> first | rfl | exact absurd e hn
  simp only [hk, Bool.and_false, Bool.false_and]
theorem sole_sub {v t : Expr} {l : Nat} {env : Env} (h : notComp v = true) : swapsWithSole [t] v l env = pure false := by
  unfold swapsWithSole
  exact sw_false h
theorem noSwap {t v : Expr} {env : Env} (h : isTupE v = false ∨ isTupE t = false) (h2 : ∀ ts p, t ≠ .List ts p) : swappedStores [t] v env = pure none := by
  unfold swappedStores
  cases t <;> first | rfl | skip
  all_goals (cases v <;> first | rfl | skip)
  all_goals (first | (exact absurd rfl (h2 _ _)) | (rcases h with h | h <;> simp only [isTupE, Bool.true_eq_false, reduceCtorEq] at h))
/-- a comprehension that stands for itself -/
theorem comp_inv {X : Cx} {E : XK} {e : Ex} {ee : Expr} {gs : List Comprehension} {cs : Scope} {q : Pos} (ok : XOk g T F CX X) (hx : Passes CX X E) (h : chkE T X.N e X.env.scope (.ListComp ee gs cs q) = true) :
    ∃ elt tg k es cond te iter ifs, e = .comp elt tg k es cond ∧ gs = [⟨te, iter, ifs, 0⟩] ∧ Parts g F H0 E X elt tg k es cond ee te iter ifs cs := by
  cases e with
  | comp elt tg k es cond =>
    unfold chkE at h
    split at h
    · rename_i ee' te iter ifs cs' hb
      obtain ⟨p, hp⟩ := asComp_eq hb
      cases hp
      simp only [Bool.and_eq_true, Bool.not_eq_true'] at h
      obtain ⟨⟨⟨⟨⟨h1, h2⟩, h3⟩, h4⟩, h5⟩, h6⟩ := h
      exact ⟨elt, tg, k, es, cond, te, iter, ifs, rfl, rfl, parts_of h1 (sndIC ok.K h2 (fun h2 => sndI k es ok hx h2)) h3 (fun s H C cl fp => sndE elt (ok.blk s H cs (compEnvC cs cl C X.env) fp) (ok.px _ rfl rfl) h4) h5 (fun s H C cl fp => sndC cond (ok.blk s H cs (compEnvC cs cl C X.env) fp) (ok.px _ rfl rfl) h6) ok⟩
    · cases h
  | slc a b c => unfold chkE asSub at h; cases h
  | lrg a b => (unfold chkE at h; first | cases h | (simp only [asRvs, asCall] at h; cases h))
  | rvs l a => cases l <;> (unfold chkE at h; first | cases h | (simp only [asRvs, asCall] at h; cases h))
  | callk f es ks dfl ord => (unfold chkE at h; first | cases h | (simp only [asCallK] at h; cases h))
  | _ => unfold chkE at h; first | cases h | (simp only [nmOk, asCon, asNm, asBin, asNeg, asNot, asCmp1, asCmp2, asAnd, asOr, asIf, asTup, asLst, asSub, asCall] at h; cases h)
/-- name = value -/
theorem asg_ps {X : Cx} {E : XK} {e : Ex} {v : Expr} {x : Str} {p pos : Pos} {i : Nat} (hfn : ∀ x, X.fn x = true) (ok : XOk g T F CX X) (hx : Passes CX X E) (hn : nmSt X.N X.env.scope i x = true) (hs : swOk X.env.scope x p v = true) (hk : X.env.scope.kind = .function) (h : chkE T X.N e X.env.scope v = true) :
    (isFr T e = true → PS X (.Assign [.Name x p] v pos) (tAsg (tR g F H0 E e) (gName i))) ∧ (isBor e = false → PS X (.Assign [.Name x p] v pos) (tAsg (tE g F H0 E e) (gName i))) := by
  obtain ⟨hN, hl⟩ := nmSt_of hn
  have plain : swapsWith v (some (.Name x p)) pos.line X.env = pure false → (isFr T e = true → PS X (.Assign [.Name x p] v pos) (tAsg (tR g F H0 E e) (gName i))) ∧ (isBor e = false → PS X (.Assign [.Name x p] v pos) (tAsg (tE g F H0 E e) (gName i))) := fun hsw =>
    have A := sndE e ok hx h
    ⟨fun hf => ps_set ok.nd hN hl (A.r hf) hsw (.inl (hfn _)), fun hb => ps_set ok.nd hN hl (A.v hb) hsw (.inl (hfn _))⟩
  cases v with
  | ListComp ee gs cs q =>
    unfold swOk at hs
    cases hloc : isLocal X.env.scope x with
    | false => exact plain (sw_cell hloc)
    | true =>
      rw [hloc] at hs
      simp only [Bool.not_true, Bool.false_or, Bool.and_eq_true, Bool.not_eq_true'] at hs
      obtain ⟨elt, tg, k, es, cond, te, iter, ifs, rfl, rfl, P⟩ := comp_inv (H0 := H0) ok hx h
      obtain ⟨own, h1, h2⟩ := P.ex
      have hy : X.env.scope.names.lookup x = some .local := by
        unfold isLocal at hloc
        split at hloc <;> simp_all
      have base := ps_setLc (spos := pos) ok.calm ok.nd hN hy (sw_true hk hy hs.1 hs.2) P.it h2 P.pg P.pt P.pe' P.fs
      rw [h1] at base
      have hr : PS X (.Assign [.Name x p] (.ListComp ee [⟨te, iter, ifs, 0⟩] cs q) pos) (tAsg (tR g F H0 E (.comp elt tg k es cond)) (gName i)) := psw base fun Dn σ H h => lc_read ok.K h
      exact ⟨fun _ => hr, fun _ => psw hr fun Dn σ H h => tM_mono (fun _ _ _ _ z => z.toR) _ _ _ h⟩
  | _ => first | exact plain (sw_false rfl) | (unfold swOk at hs; cases hs)
end
end Dw

namespace Dw
open PySem PySem.Spec PyProof.Rows L2
section
variable {g : G} {T : Tab} {F : Fs} {H0 : Hp} {CX : CXT}
theorem asAsg_eq {st : Stmt} {t e : Expr} {p : Pos} (h : asAsg st = some (t, e, p)) : st = .Assign [t] e p := by
  unfold asAsg at h; split at h <;> first | (cases h; rfl) | cases h
theorem asNmP_eq {e : Expr} {x : Str} {p : Pos} (h : asNmP e = some (x, p)) : e = .Name x p := by
  unfold asNmP at h; split at h <;> first | (cases h; rfl) | cases h
theorem asAug_eq {st : Stmt} {x : Str} {o : Operator} {e : Expr} (h : asAug st = some (x, o, e)) : ∃ q p, st = .AugAssign (.Name x q) o e p := by
  unfold asAug at h; split at h <;> first | (cases h; exact ⟨_, _, rfl⟩) | cases h
theorem asSEx_eq {st : Stmt} {e : Expr} {p : Pos} (h : asSEx st = some (e, p)) : st = .Expr e p := by
  unfold asSEx at h; split at h <;> first | (cases h; rfl) | cases h
theorem asMeth_eq {e o : Expr} {m : Str} {xs : List Expr} (h : asMeth e = some (o, m, xs)) : ∃ ap cp, e = .Call (.Attribute o m ap) xs [] cp ∧ (ap.endLine == cp.line) = true := by
  unfold asMeth at h
  split at h
  · split at h
    · cases h; exact ⟨_, _, rfl, by assumption⟩
    · cases h
  · cases h
theorem asSIf_eq {st : Stmt} {c : Expr} {a b : List Stmt} (h : asSIf st = some (c, a, b)) : ∃ p, st = .If c a b p := by
  unfold asSIf at h; split at h <;> first | (cases h; exact ⟨_, rfl⟩) | cases h
theorem asFor_eq {st : Stmt} {t i : Expr} {b : List Stmt} (h : asFor st = some (t, i, b)) : ∃ p, st = .For t i b [] p := by
  unfold asFor at h; split at h <;> first | (cases h; exact ⟨_, rfl⟩) | cases h
theorem asWhl_eq {st : Stmt} {c : Expr} {b : List Stmt} (h : asWhl st = some (c, b)) : ∃ p, st = .While c b [] p := by
  unfold asWhl at h; split at h <;> first | (cases h; exact ⟨_, rfl⟩) | cases h
theorem asRet_eq {st : Stmt} {e : Option Expr} (h : asRet st = some e) : ∃ p, st = .Return e p := by
  unfold asRet at h; split at h <;> first | (cases h; exact ⟨_, rfl⟩) | cases h
theorem augD_ok {op : Bop} {o : Operator} {X : Cx} (h : augOk op o = true) : PIp X o (fun x y H Q => ∃ Hs a b, Same Hs H ∧ BRep g Hs H x a ∧ BRep g Hs H y b ∧ holds (augD op a b) (fun d => PR g Hs H d Q) fun _ => True) := by
  intro pins s σ H x y v u Q I rx ry h
  obtain ⟨Hs, a, b, sub, ba, bb, h⟩ := h
  cases op <;> cases o <;> simp only [augOk, Bool.false_eq_true] at *
  · cases a <;> cases b <;> first | exact False.elim h | skip
    cases ba.rint; cases bb.rint
    exact ip_add pins s σ H _ _ v u Q I rx ry ⟨_, _, rfl, rfl, PR.int h sub⟩
  · cases a <;> cases b <;> first | exact False.elim h | skip
    cases ba.rint; cases bb.rint
    exact ip_sub pins s σ H _ _ v u Q I rx ry ⟨_, _, rfl, rfl, PR.int h sub⟩
theorem tgD_holds {is : List Nat} {ρ : List Sl} {d : D} {α : Type} {f : List Sl → M α} {ok : α → Prop} {ex : Nat → Prop} (h : holds ((tgD ρ is d).bind f) ok ex) : ∃ ρ', tgD ρ is d = .ok ρ' ∧ holds (f ρ') ok ex := by
  cases q : tgD ρ is d with
  | no => rw [q] at h; exact h.elim
  | ok ρ' => rw [q] at h; exact ⟨ρ', rfl, h⟩
  | ex c =>
    exfalso
    have key : ∀ (is : List Nat) (ρ : List Sl) (ds : List D), setVs ρ is ds ≠ .ex c := by
      intro is
      induction is with
      | nil => intro ρ ds; cases ds <;> simp [setVs]
      | cons k ks ih => intro ρ ds; cases ds <;> simp [setVs]; exact ih _ _
    unfold tgD at q
    split at q <;> first | cases q | exact key _ _ _ q
/-- what a statement's soundness leans on -/
structure SOk (g : G) (T : Tab) (F : Fs) (CX : CXT) (E : XK) (X : Cx) : Prop where
  tk : Takes X (fun cls d _ H => E cls d H)
  ok : XOk g T F CX X
  px : Passes CX X E
  fn : ∀ x, X.fn x = true
  kd : X.env.scope.kind = .function
  po : PassesOwn (model X.prog X.w) X.A X.env X.xe

mutual
theorem sndS {X : Cx} {E : XK} {Hs0 : Hp} {fr : Bool} (so : SOk g T F CX E X) : ∀ (x : Sx) {st : Stmt}, chkS T X.N fr X.env.scope x st = true → PS X st (tS g H0 E Hs0 fr (exS F fr x))
  | .asg i e, st, h => by
    unfold chkS at h
    split at h <;> first | cases h | skip
    rename_i t v p hb
    have := asAsg_eq hb; subst this
    split at h <;> first | cases h | skip
    rename_i x q hb2
    have := asNmP_eq hb2; subst this
    simp only [Bool.and_eq_true, Bool.not_eq_true'] at h
    obtain ⟨⟨⟨h1, h2⟩, h3⟩, h4⟩ := h
    refine psw ((asg_ps (H0 := H0) so.fn so.ok so.px h1 h2 so.kd h3).2 h4) fun Dn σ H ⟨ρ, Hs, re, ext, h⟩ => ?_
    unfold exS at h
    refine ⟨ρ, Hs, re, holds_mono (holds_bind h) (fun d _ q v Hs1 H1 e1 r1 => ?_) fun _ z => z.ext ext⟩
    exact q _ Hs1 H1 ((re.ext e1).set i r1) (ext.trans e1) e1.view
  | .own i e, st, h => by
    unfold chkS at h
    split at h <;> first | cases h | skip
    rename_i t v p hb
    have := asAsg_eq hb; subst this
    split at h <;> first | cases h | skip
    rename_i x q hb2
    have := asNmP_eq hb2; subst this
    simp only [Bool.and_eq_true] at h
    obtain ⟨⟨⟨h1, h2⟩, h3⟩, h4⟩ := h
    refine psw ((asg_ps (H0 := H0) so.fn so.ok so.px h1 h2 so.kd h3).1 h4) fun Dn σ H ⟨ρ, Hs, re, ext, h⟩ => ?_
    unfold exS at h
    refine ⟨ρ, Hs, re, holds_mono (holds_bind h) (fun d _ q v Hs1 H1 e1 r1 => ?_) fun _ z => z.ext ext⟩
    cases d <;> first | exact q.elim | skip
    rcases r1 with ⟨_, z⟩ | ⟨pp, vs, ds, rfl, z, k1, k2, k3, k4⟩
    · exact absurd rfl (z _)
    · cases z
      refine q _ Hs1 H1 ((re.ext e1).own' i (s := .ow _) rfl k3 k2 (ext.all.free k1) ⟨_, rfl, k4⟩ fun j es q' hj hρ ho hσ => ?_) (ext.trans e1) e1.view
      obtain ⟨q2, ws, m1, m2, _⟩ := re.own j es hρ ho
      rw [hσ] at m1; cases m1
      exact ne_of_none m2 k1
  | .unp is e, st, h => by
    unfold chkS at h
    split at h <;> first | cases h | skip
    rename_i t v p hb
    have := asAsg_eq hb; subst this
    simp only [Bool.and_eq_true, Bool.not_eq_true'] at h
    obtain ⟨⟨⟨⟨⟨h1, h2⟩, h3⟩, h4⟩, h5⟩, h6⟩ := h
    have A := sndE (H0 := H0) e so.ok so.px h5
    have B := tg_ok so.fn h2 so.ok.nd so.ok.calm
    refine psw (ps_asg (A.v h6) B (sole_sub h3) (noSwap (.inl h4) (fun ts p z => by subst z; cases h1)) (by cases t <;> first | rfl | cases h1)) fun Dn σ H ⟨ρ, Hs, re, ext, h⟩ => ?_
    unfold exS at h
    refine ⟨ρ, Hs, re, holds_mono (holds_bind h) (fun d _ q v Hs1 H1 e1 r1 => ?_) fun _ z => z.ext ext⟩
    obtain ⟨ρ', ht, q⟩ := tgD_holds q
    exact gD_ok so.ok.K is (re.ext e1) r1 ht fun σ' re' _ => q σ' Hs1 H1 re' (ext.trans e1) e1.view
  | .aug i op e, st, h => by
    unfold chkS at h
    split at h <;> first | cases h | skip
    rename_i x o v hb
    obtain ⟨q, p, rfl⟩ := asAug_eq hb
    simp only [Bool.and_eq_true] at h
    obtain ⟨⟨h1, h2⟩, h3⟩ := h
    have A := sndE (H0 := H0) e so.ok so.px h3
    obtain ⟨hN, hl⟩ := nmSt_of h1
    refine psw (ps_aug so.ok.nd hN hl A.o (augD_ok (g := g) h2) (.inl (so.fn _))) fun Dn σ H ⟨ρ, Hs, re, ext, h⟩ => ?_
    unfold exS getV at h
    split at h
    · rename_i d hd
      obtain ⟨v0, m1, m2⟩ := re.sh i d hd
      refine ⟨v0, m1, ρ, Hs, re, holds_mono (holds_bind (show holds ((evE F e ρ).bind _) _ _ from h)) (fun y _ q w Hs1 H1 e1 b1 => ?_) fun _ z => z.ext ext⟩
      refine ⟨Hs1, d, y, e1.sub, .inl (m2.mono e1.view), b1, holds_mono (holds_bind q) (fun r hr z u Hs2 H2 e2 f2 => ?_) fun _ _ => trivial⟩
      have hrep : Rep g Hs2 u r := by
        rcases f2 with ⟨f2, _⟩ | ⟨_, _, _, _, zz, _⟩
        · exact f2
        · subst zz
          cases op <;> cases d <;> cases y <;> simp [augD] at hr
      exact z _ Hs2 H2 (((re.ext e1).ext e2).set i hrep) (ext.trans (e1.trans e2)) (e1.view.trans e2.view)
    · exact h.elim
  | .put i ix e, st, h => by
    unfold chkS at h
    split at h <;> first | cases h | skip
    rename_i t v p hb
    have := asAsg_eq hb; subst this
    split at h <;> first | cases h | skip
    rename_i o k hb2
    obtain ⟨p2, rfl⟩ := asSub_eq hb2
    simp only [Bool.and_eq_true, Bool.not_eq_true'] at h
    obtain ⟨⟨⟨⟨⟨h1, h2⟩, h3⟩, h4⟩, h5⟩, h6⟩ := h
    obtain ⟨n, p3, rfl, hN, hv, hd, hc⟩ := nm_of h1
    have A := sndE (H0 := H0) e so.ok so.px h2
    have B := sndE (H0 := H0) ix so.ok so.px h4
    refine psw (ps_asg (A.v h3) (pg_sub (pe_var hN hv hd hc) B.o set_list (by intros; cases k <;> first | rfl | cases h6)) (sole_sub h5) (noSwap (.inr rfl) (fun ts p z => by cases z)) rfl) fun Dn σ H ⟨ρ, Hs, re, ext, h⟩ => ?_
    unfold exS at h
    refine ⟨ρ, Hs, re, holds_mono (holds_bind h) (fun d _ q v Hs1 H1 e1 r1 => ?_) fun _ z => z.ext ext⟩
    obtain ⟨ds, hρ, q⟩ := getO_ok q
    obtain ⟨pp, vs, m1, m2, m3, m4, m5⟩ := (re.ext e1).ow i ds hρ
    refine ⟨.ref pp, m1, ρ, Hs1, re.ext e1, holds_mono (holds_bind q) (fun kd _ q kv Hs2 H2 e2 b2 => ?_) fun _ z => z.ext (ext.trans e1)⟩
    cases kd <;> first | exact q.elim | skip
    cases b2.rint
    simp only at q
    split at q <;> first | exact q.elim | skip
    rename_i j hj
    have hL : H2 pp = some (.lst vs) := e2.all _ _ m2
    refine ⟨pp, vs, _, j, rfl, rfl, hL, by rw [m5.length]; exact hj, ?_⟩
    have n2 : Hs2 pp = none := e2.out _ _ m2 rfl m3
    exact q _ Hs2 _ (((re.ext e1).ext e2).mut hρ m1 n2 m4 ((m5.mono e2.view).set j (r1.mono e2.view))) ((ext.trans (e1.trans e2)).mut n2 m4) (e1.view.trans e2.view)
  | .app i e, st, h => by
    unfold chkS at h
    split at h <;> first | cases h | skip
    rename_i m p hb
    have := asSEx_eq hb; subst this
    split at h <;> first | cases h | skip
    rename_i o nm v hb2
    obtain ⟨ap, cp, rfl, hline⟩ := asMeth_eq hb2
    simp only [Bool.and_eq_true, Bool.not_eq_true', decide_eq_true_eq] at h
    obtain ⟨⟨⟨⟨h0, h1⟩, h2⟩, h3⟩, h4⟩ := h
    subst h0
    obtain ⟨n, p3, rfl, hN, hv, hd, hc⟩ := nm_of h1
    have A := sndE (H0 := H0) e so.ok so.px h2
    refine psw (ps_expr (pe_bm PySem.F.plainAttrs_list PySem.F.slot_list_append PySem.F.type_list_append mt_append (pe_var hN hv hd hc) (sargs_cons A h3 sargs_nil) rfl (by rw [star_cons h3]; rfl) hline (star_cons h3) rfl) rfl) fun Dn σ H ⟨ρ, Hs, re, ext, h⟩ => ?_
    unfold exS at h
    obtain ⟨ds, hρ, q⟩ := getO_ok h
    obtain ⟨pp, vs, m1, m2, m3, m4, m5⟩ := re.ow i ds hρ
    refine ⟨.ref pp, m1, .inl ⟨rfl, _, .inl (.inl m2)⟩, ρ, Hs, re, ?_⟩
    unfold evL evL
    cases hk : evE F e ρ with
    | no => rw [hk] at q; exact q.elim
    | ex c => rw [hk] at q; exact EXc.ext q ext
    | ok d =>
      rw [hk] at q
      obtain ⟨hlt, q⟩ := holds_gd (show holds (gd (decide (ds.length < sizeLine)) _) _ _ from q)
      have hlt := of_decide_eq_true hlt
      intro ws Hs1 H1 e1 b1 r1
      obtain ⟨w, rfl, rw_⟩ := reps_one (r1 (nolend1 h4))
      have hL : H1 pp = some (.lst vs) := e1.all _ _ m2
      have n2 : Hs1 pp = none := e1.out _ _ m2 rfl m3
      refine ⟨pp, vs, w, rfl, rfl, hL, by rw [m5.length]; exact hlt, ?_⟩
      exact q _ Hs1 _ ((re.ext e1).mut hρ m1 n2 m4 ((m5.mono e1.view).append (.cons rw_ .nil))) ((ext.trans e1).mut n2 m4) e1.view
  | .ext i e, st, h => by
    unfold chkS at h
    split at h <;> first | cases h | skip
    rename_i m p hb
    have := asSEx_eq hb; subst this
    split at h <;> first | cases h | skip
    rename_i o nm v hb2
    obtain ⟨ap, cp, rfl, hline⟩ := asMeth_eq hb2
    simp only [Bool.and_eq_true, Bool.not_eq_true', decide_eq_true_eq] at h
    obtain ⟨⟨⟨h0, h1⟩, h2⟩, h3⟩ := h
    subst h0
    obtain ⟨n, p3, rfl, hN, hv, hd, hc⟩ := nm_of h1
    have A := sndE (H0 := H0) e so.ok so.px h2
    refine psw (ps_expr (pe_bm PySem.F.plainAttrs_list PySem.F.slot_list_extend PySem.F.type_list_extend mt_extendQ (pe_var hN hv hd hc) (sargs_cons A h3 sargs_nil) rfl (by rw [star_cons h3]; rfl) hline (star_cons h3) rfl) rfl) fun Dn σ H ⟨ρ, Hs, re, ext, h⟩ => ?_
    unfold exS at h
    obtain ⟨ds, hρ, q⟩ := getO_ok h
    obtain ⟨pp, vs, m1, m2, m3, m4, m5⟩ := re.ow i ds hρ
    refine ⟨.ref pp, m1, .inl ⟨rfl, _, .inl (.inl m2)⟩, ρ, Hs, re, ?_⟩
    unfold evL evL
    cases hk : evE F e ρ with
    | no => rw [hk] at q; exact q.elim
    | ex c => rw [hk] at q; exact EXc.ext q ext
    | ok d =>
      rw [hk] at q
      have q : holds (match seqOf d with | some es => gd (fits (ds.length + es.length)) (O.nx (ρ.set i (.ow (ds ++ es)))) | none => .no) _ _ := q
      cases hs : seqOf d with
      | none => rw [hs] at q; exact q.elim
      | some es =>
        rw [hs] at q
        obtain ⟨hlt, q⟩ := holds_gd q
        have hlt : ds.length + es.length ≤ sizeLine := of_decide_eq_true hlt
        intro ws Hs1 H1 e1 b1 r1
        obtain ⟨w, rfl, bw⟩ := b1.one
        have hL : H1 pp = some (.lst vs) := e1.all _ _ m2
        have n2 : Hs1 pp = none := e1.out _ _ m2 rfl m3
        obtain ⟨b, us, rfl, sq, rr⟩ := bw.seq e1.sub hs
        refine ⟨pp, b, vs, us, rfl, rfl, hL, by rw [so.ok.K]; exact sq, by rw [m5.length, rr.length]; exact hlt, ?_⟩
        exact q _ Hs1 _ ((re.ext e1).mut hρ m1 n2 m4 ((m5.mono e1.view).append rr)) ((ext.trans e1).mut n2 m4) e1.view
  | .pop is i, st, h => by
    unfold chkS at h
    split at h <;> first | cases h | skip
    rename_i t v p hb
    have := asAsg_eq hb; subst this
    split at h <;> first | cases h | skip
    rename_i o nm hb2
    obtain ⟨ap, cp, rfl, hline⟩ := asMeth_eq hb2
    simp only [Bool.and_eq_true, Bool.not_eq_true', decide_eq_true_eq] at h
    obtain ⟨⟨⟨h0, h1⟩, h2⟩, h3⟩ := h
    subst h0
    obtain ⟨n, p3, rfl, hN, hv, hd, hc⟩ := nm_of h1
    have B := tg_ok so.fn h2 so.ok.nd so.ok.calm
    have hl : ∀ ts q, t ≠ .List ts q := fun ts q z => by
      subst z
      unfold chkTg ownOf at h2
      cases h2
    have hst : notStar t = true := by
      cases t <;> first | rfl | skip
      unfold chkTg ownOf at h2
      cases h2
    refine psw (ps_asg (pe_bm0 PySem.F.plainAttrs_list PySem.F.slot_list_pop PySem.F.type_list_pop mt_pop (pe_var hN hv hd hc) rfl hline) B (sole_sub rfl) (noSwap (.inl rfl) hl) (by cases t <;> first | rfl | cases hst)) fun Dn σ H ⟨ρ, Hs, re, ext, h⟩ => ?_
    unfold exS at h
    obtain ⟨ds, hρ, q⟩ := getO_ok h
    split at q <;> first | exact q.elim | skip
    rename_i d hd2
    obtain ⟨ρ', ht, q⟩ := tgD_holds q
    obtain ⟨pp, vs, m1, m2, m3, m4, m5⟩ := re.ow i ds hρ
    obtain ⟨y, k1, k2⟩ := m5.get hd2
    refine ⟨.ref pp, m1, .inl ⟨rfl, _, .inl (.inl m2)⟩, pp, vs, y, rfl, rfl, m2, by rw [m5.length]; exact k1, ?_⟩
    exact gD_ok so.ok.K is (re.mut hρ m1 m3 m4 m5.dropLast) k2 ht fun σ' re' _ => q σ' Hs _ re' (ext.mut m3 m4) (Same.refl _)
  | .ite c a b, st, h => by
    unfold chkS at h
    split at h <;> first | cases h | skip
    rename_i ec sa sb hb
    obtain ⟨p, rfl⟩ := asSIf_eq hb
    simp only [Bool.and_eq_true, Bool.not_eq_true'] at h
    obtain ⟨⟨⟨⟨h1, h2⟩, h3⟩, h4⟩, h5⟩ := h
    have C := sndE (H0 := H0) c so.ok so.px h1
    have A := sndB (Hs0 := Hs0) so a (st := sa) h4
    have B := sndB (Hs0 := Hs0) so b (st := sb) h5
    refine psw (ps_if (C.t h2 h3) A B) fun Dn σ H ⟨ρ, Hs, re, ext, h⟩ => ?_
    unfold exS at h
    refine ⟨ρ, Hs, re, holds_mono (holds_bind h) (fun d _ q => ?_) fun _ z => z.ext ext⟩
    cases d <;> first | exact q.elim | skip
    rename_i bb _
    refine ⟨bb, rfl, fun Hs1 H1 e1 => ?_⟩
    cases bb with
    | true =>
      rw [if_pos rfl]
      exact ⟨ρ, Hs1, re.ext e1, ext.trans e1, holds_mono q (fun o _ z => oPost_same z e1.view) fun _ z => z⟩
    | false =>
      rw [if_neg Bool.false_ne_true]
      exact ⟨ρ, Hs1, re.ext e1, ext.trans e1, holds_mono q (fun o _ z => oPost_same z e1.view) fun _ z => z⟩
  | .for_ tg k es body, st, h => by
    unfold chkS at h
    split at h <;> first | cases h | skip
    rename_i t it sb hb
    obtain ⟨p, rfl⟩ := asFor_eq hb
    simp only [Bool.and_eq_true] at h
    obtain ⟨⟨⟨h1, h2⟩, h3⟩, h4⟩ := h
    have A := sndI (H0 := H0) k es so.ok so.px h2
    have B := tg_ok so.fn h1 so.ok.nd so.ok.calm
    have C := sndB (Hs0 := Hs0) so body (st := sb) h4
    refine psw (ps_for so.po so.ok.calm A B C (noSet_fold h3)) fun Dn σ H ⟨ρ, Hs, re, ext, h⟩ => ?_
    unfold exS at h
    refine ⟨ρ, Hs, re, holds_mono (holds_bind h) (fun its _ q J Hs1 H1 e1 w => ?_) fun _ z => z.ext ext⟩
    obtain ⟨Gd, Y, W, hG, hY⟩ := w
    refine for_it W (fun i σ Hc => ∃ ρi Hv, RE g H0 Hv Hc ρi σ ∧ Ext Hs0 H0 Hv Hc ∧ Same Hs1 Hv ∧ holds (forD (fun d ρ => (tgD ρ tg d).bind fun ρ' => exB F fr body ρ') (its.drop i) ρi) (oPost g H0 Hs0 fr Hs Dn) (EXc g E Hs0 H0)) ?_ ?_ ?_ ?_
    · exact ⟨ρ, Hs1, re.ext e1, ext.trans e1, Same.refl _, by simpa using q⟩
    · rintro i σ Hc hi ⟨ρi, Hv, r, _, s, _⟩
      exact hG Hc (s.trans r.sub)
    · rintro i x σ Hc H' hi ⟨ρi, Hv, r, ex, s, q⟩ y
      obtain ⟨Hv', d, hd, e2, rd⟩ := hY i Hv Hc x H' hi s r.sub y
      have hdrop : its.drop i = d :: its.drop (i + 1) := by
        obtain ⟨hlt, e⟩ := List.getElem?_eq_some_iff.mp hd
        rw [List.drop_eq_getElem_cons hlt, e]
      rw [hdrop] at q
      unfold forD at q
      obtain ⟨ρ', ht, q⟩ := tgD_holds (show holds ((tgD ρi tg d).bind fun ρ' => (exB F fr body ρ').bind _) _ _ from by
        cases z : tgD ρi tg d <;> rw [z] at q <;> exact q)
      refine gD_ok so.ok.K tg (r.ext e2) rd ht fun σ2 re3 _ => ⟨ρ', Hv', re3, ex.trans e2, holds_mono (holds_bind q) (fun o _ z => ?_) fun _ z => z⟩
      have ss : Same Hs Hv' := e1.view.trans (s.trans e2.view)
      cases o with
      | nx ρ'' => exact fun σ' Hs' H' r' x' s' => ⟨ρ'', Hs', r', x', (s.trans e2.view).trans s', z⟩
      | ct ρ'' => exact fun σ' Hs' H' r' x' s' => ⟨ρ'', Hs', r', x', (s.trans e2.view).trans s', z⟩
      | bk ρ'' => exact fun σ' Hs' H' r' x' s' => z σ' Hs' H' r' x' (ss.trans s')
      | rt d => exact z
    · rintro σ Hc ⟨ρi, Hv, r, ex, s, q⟩
      rw [List.drop_length] at q
      exact q σ Hv Hc r ex (e1.view.trans s)
  | .while_ fuel c body, st, h => by
    unfold chkS at h
    split at h <;> first | cases h | skip
    rename_i ec sb hb
    obtain ⟨p, rfl⟩ := asWhl_eq hb
    simp only [Bool.and_eq_true, Bool.not_eq_true'] at h
    obtain ⟨⟨⟨h1, h2⟩, h3⟩, h4⟩ := h
    have C := sndE (H0 := H0) c so.ok so.px h1
    have B := sndB (Hs0 := Hs0) so body (st := sb) h4
    refine psw (ps_while so.po (C.t h2 h3) B) fun Dn σ H ⟨ρ, Hs, re, ext, h⟩ => ?_
    unfold exS at h
    refine ⟨fun m σ Hc => ∃ ρi Hv, RE g H0 Hv Hc ρi σ ∧ Ext Hs0 H0 Hv Hc ∧ Same Hs Hv ∧ holds (whlD (evE F c) (exB F fr body) m ρi) (oPost g H0 Hs0 fr Hs Dn) (EXc g E Hs0 H0), ⟨fuel, ρ, Hs, re, ext, Same.refl _, h⟩, ?_⟩
    rintro m σ Hc ⟨ρi, Hv, r, ex, s, q⟩
    cases m with
    | zero => exact q.elim
    | succ m =>
      unfold whlD at q
      refine ⟨ρi, Hv, r, holds_mono (holds_bind q) (fun d _ q => ?_) fun _ z => z.ext ex⟩
      cases d <;> first | exact q.elim | skip
      rename_i bb _
      refine ⟨bb, rfl, fun Hs1 H1 e1 => ?_⟩
      cases bb with
      | true =>
        rw [if_pos rfl]
        refine ⟨fun σ' H' => ∃ ρi Hv, RE g H0 Hv H' ρi σ' ∧ Ext Hs0 H0 Hv H' ∧ Same Hs Hv ∧ holds (whlD (evE F c) (exB F fr body) m ρi) (oPost g H0 Hs0 fr Hs Dn) (EXc g E Hs0 H0), fun σ' H' z => ⟨m, Nat.lt_succ_self _, z⟩, ?_⟩
        refine ⟨ρi, Hs1, r.ext e1, ex.trans e1, holds_mono (holds_bind q) (fun o _ z => ?_) fun _ z => z⟩
        have ss : Same Hs Hs1 := s.trans e1.view
        cases o with
        | nx ρ'' => exact fun σ' Hs' H' r' x' s' => ⟨ρ'', Hs', r', x', ss.trans s', z⟩
        | ct ρ'' => exact fun σ' Hs' H' r' x' s' => ⟨ρ'', Hs', r', x', ss.trans s', z⟩
        | bk ρ'' => exact fun σ' Hs' H' r' x' s' => z σ' Hs' H' r' x' (ss.trans s')
        | rt d => exact z
      | false =>
        rw [if_neg Bool.false_ne_true]
        exact q σ Hs1 H1 (r.ext e1) (ex.trans e1) (s.trans e1.view)
  | .ret e, st, h => by
    unfold chkS at h
    split at h <;> first | cases h | skip
    rename_i v hb
    obtain ⟨p, rfl⟩ := asRet_eq hb
    simp only [Bool.and_eq_true, Bool.not_eq_true'] at h
    have A := sndE (H0 := H0) e so.ok so.px h.1
    refine psw (ps_ret (A.v h.2)) fun Dn σ H ⟨ρ, Hs, re, ext, h⟩ => ?_
    unfold exS at h
    refine ⟨ρ, Hs, re, holds_mono (holds_bind h) (fun d _ q v Hs1 H1 e1 r1 => ?_) fun _ z => z.ext ext⟩
    obtain ⟨hf, q⟩ := holds_gd q
    cases fr with
    | false => exact q v Hs1 H1 (ext.trans e1) r1
    | true =>
      have hd : isLst d = false := by
        simp only [Bool.not_true, Bool.false_or, Bool.not_eq_true'] at hf
        exact hf
      exact q v Hs1 H1 (ext.trans e1) (.inl ⟨r1, fun ds z => by subst z; cases hd⟩)
  | .retR e, st, h => by
    unfold chkS at h
    split at h <;> first | cases h | skip
    rename_i v hb
    obtain ⟨p, rfl⟩ := asRet_eq hb
    rw [Bool.and_eq_true] at h
    have A := sndE (H0 := H0) e so.ok so.px h.1
    rcases Bool.or_eq_true_iff.mp h.2 with h2 | h2
    · refine psw (ps_ret (A.r h2)) fun Dn σ H ⟨ρ, Hs, re, ext, h⟩ => ?_
      unfold exS at h
      refine ⟨ρ, Hs, re, holds_mono (holds_bind h) (fun d _ q v Hs1 H1 e1 r1 => ?_) fun _ z => z.ext ext⟩
      have r0 : FRep g H0 Hs1 H1 v d := by
        rcases r1 with r1 | ⟨pp, vs, ds, k1, k2, k3, k4⟩
        · exact .inl r1
        · exact .inr ⟨pp, vs, ds, k1, k2, ext.all.free k3, k4⟩
      cases fr with
      | true => exact q v Hs1 H1 (ext.trans e1) r0
      | false => exact PV.toR q v Hs1 H1 (ext.trans e1) r0
    · rw [Bool.and_eq_true] at h2
      obtain ⟨hb2, rfl⟩ := h2
      cases e <;> first | cases hb2 | skip
      rename_i i
      have h1 := h.1
      unfold chkE at h1
      obtain ⟨n, p3, rfl, hN, hv, hd, hc⟩ := nm_of h1
      refine psw (ps_ret (pe_var hN hv hd hc)) fun Dn σ H ⟨ρ, Hs, re, ext, h⟩ => ?_
      unfold exS evE getB at h
      split at h
      · rename_i ds hρ
        obtain ⟨pp, vs, m1, m2, m3, m4, m5⟩ := re.ow i ds hρ
        exact ⟨_, m1, h _ Hs H ext (.inr ⟨pp, vs, ds, rfl, rfl, m4, m3, m2, m5⟩)⟩
      · rename_i d hρ
        obtain ⟨pp, o, m1, m2, m3, m4, m5⟩ := re.od i d hρ
        exact ⟨_, m1, h _ _ H (ext.show_ m2 m4 m3) (.inl ⟨m5.rep (same_upd m3) upd_same, fun ds z => by subst z; exact m5.elim⟩)⟩
      · exact h.elim
  | .retN, st, h => by
    unfold chkS at h
    split at h <;> first | cases h | skip
    rename_i hb
    obtain ⟨p, rfl⟩ := asRet_eq hb
    refine psw ps_retN fun Dn σ H ⟨ρ, Hs, re, ext, h⟩ => ?_
    unfold exS at h
    cases fr with
    | true => exact h .non Hs H ext (.inl ⟨.non, fun _ z => nomatch z⟩)
    | false => exact h .non Hs H ext .non
  | .brk, st, h => by
    unfold chkS at h
    split at h <;> first | cases h | skip
    refine psw ps_break fun Dn σ H ⟨ρ, Hs, re, ext, h⟩ => ?_
    unfold exS at h
    exact h σ Hs H re ext (Same.refl _)
  | .cnt, st, h => by
    unfold chkS at h
    split at h <;> first | cases h | skip
    refine psw ps_continue fun Dn σ H ⟨ρ, Hs, re, ext, h⟩ => ?_
    unfold exS at h
    exact h σ Hs H re ext (Same.refl _)
  | .pas, st, h => by
    unfold chkS at h
    split at h <;> first | cases h | skip
    refine psw ps_pass fun Dn σ H ⟨ρ, Hs, re, ext, h⟩ => ?_
    unfold exS at h
    exact h σ Hs H re ext (Same.refl _)
  | .dnew i t, st, h => by
    unfold chkS at h
    split at h <;> first | cases h | skip
    rename_i tt v p hb
    have := asAsg_eq hb; subst this
    split at h <;> first | cases h | skip
    rename_i x q hb2
    have := asNmP_eq hb2; subst this
    rw [Bool.and_eq_true] at h
    obtain ⟨hN, hl⟩ := nmSt_of h.1
    have hv : ∃ dp, v = .Dict [] [] dp := by
      have h2 := h.2
      unfold asDict0 at h2
      split at h2 <;> first | exact ⟨_, rfl⟩ | cases h2
    obtain ⟨dp, rfl⟩ := hv
    have fin : ∀ {Dn : Ends} {σ : L2.St} {H : Hp} {o : HO}, OwnD g H (dNew t) o ∨ True → (∀ Hs, OwnD g Hs (dNew t) o) → tS g H0 E Hs0 fr (exS F fr (.dnew i t)) Dn σ H → ∀ pp, H pp = none → Dn.nx (σ.set i (some (.ref pp))) (upd H pp o) := by
      rintro Dn σ H o - ho ⟨ρ, Hs, re, ext, h⟩ pp hpp
      unfold exS at h
      have x := Ext.newOut re.sub (o := o) hpp
      refine h _ Hs _ ((re.ext x).own' i (s := .od (dNew t)) rfl upd_same (re.sub.free hpp) (ext.all.free hpp) (ho Hs) fun j es q' hj hρ hoe hσ => ?_) (ext.trans x) (Same.refl _)
      obtain ⟨q2, ws, m1, m2, _⟩ := re.own j es hρ hoe
      rw [hσ] at m1; cases m1
      exact ne_of_none m2 hpp
    cases t with
    | true => exact psw (ps_set so.ok.nd hN hl pe_dnewT (sw_false rfl) (.inl (so.fn _))) fun Dn σ H z => fin (o := .dT []) (.inr trivial) (fun Hs => ⟨[], rfl, rfl, .nil⟩) z
    | false => exact psw (ps_set so.ok.nd hN hl pe_dnewK (sw_false rfl) (.inl (so.fn _))) fun Dn σ H z => fin (o := .dK []) (.inr trivial) (fun Hs => ⟨[], rfl, rfl, .nil⟩) z
  | .dput i k e, st, h => by
    unfold chkS at h
    split at h <;> first | cases h | skip
    rename_i t v p hb
    have := asAsg_eq hb; subst this
    split at h <;> first | cases h | skip
    rename_i o kk hb2
    obtain ⟨p2, rfl⟩ := asSub_eq hb2
    simp only [Bool.and_eq_true, Bool.not_eq_true'] at h
    obtain ⟨⟨⟨⟨⟨h1, h2⟩, h3⟩, h4⟩, h5⟩, h6⟩ := h
    obtain ⟨n, p3, rfl, hN, hv, hd, hc⟩ := nm_of h1
    have A := sndE (H0 := H0) e so.ok so.px h2
    have B := sndE (H0 := H0) k so.ok so.px h4
    refine psw (ps_asg (A.v h3) (pg_sub (pe_var hN hv hd hc) B.o (set_dict (by have := so.ok.un; omega)) (by intros; cases kk <;> first | rfl | cases h6)) (sole_sub h5) (noSwap (.inr rfl) (fun ts p z => by cases z)) rfl) fun Dn σ H ⟨ρ, Hs, re, ext, h⟩ => ?_
    unfold exS at h
    refine ⟨ρ, Hs, re, holds_mono (holds_bind h) (fun d _ q v Hs1 H1 e1 r1 => ?_) fun _ z => z.ext ext⟩
    obtain ⟨dd, hρ, q⟩ := getOd_ok q
    obtain ⟨pp, oo, m1, m2, m3, m4, m5⟩ := (re.ext e1).od i dd hρ
    refine ⟨.ref pp, m1, ρ, Hs1, re.ext e1, holds_mono (holds_bind q) (fun kd _ q kv Hs2 H2 e2 b2 => ?_) fun _ z => z.ext (ext.trans e1)⟩
    cases hp : dputD dd kd d with
    | no => rw [hp] at q; exact q.elim
    | ex c => exact (dput_ex hp).elim
    | ok d' =>
      rw [hp] at q
      have n2 : Hs2 pp = none := e2.out _ _ m2 (OwnD.nt m5) m3
      obtain ⟨o', hp1, hp2⟩ := dput_of (e2.all _ _ m2) (m5.mono e2.view) e2.sub b2 (r1.mono e2.view) hp
      refine ⟨pp, _, rfl, hp1, ?_⟩
      exact q _ Hs2 _ (((re.ext e1).ext e2).mut' hρ rfl rfl m1 n2 m4 (show OwS g Hs2 (.od d') o' from hp2)) ((ext.trans (e1.trans e2)).mut n2 m4) (e1.view.trans e2.view)
  | .rse c, st, h => by
    unfold chkS at h
    split at h <;> first | cases h | skip
    rename_i x hb
    simp only [Bool.and_eq_true, Bool.not_eq_true'] at h
    obtain ⟨⟨h1, h2⟩, h3⟩ := h
    have he := so.ok.exs c x (by simpa using h1)
    unfold asRse at hb
    split at hb <;> first | cases hb | skip
    refine psw (ps_raise so.ok.calm so.tk (pmk_own PySem.F.excBase_ValueError he.ex he.mg he.kp (raises_own he.bs he.ty) (Gl_of h2) h3)) fun Dn σ H ⟨ρ, Hs, re, ext, h⟩ => ?_
    unfold exS at h
    exact h Hs H ext
  | .popE i, st, h => by
    unfold chkS at h
    split at h <;> first | cases h | skip
    rename_i m p hb
    have := asSEx_eq hb; subst this
    split at h <;> first | cases h | skip
    rename_i o nm hb2
    obtain ⟨ap, cp, rfl, hline⟩ := asMeth_eq hb2
    simp only [Bool.and_eq_true, decide_eq_true_eq] at h
    obtain ⟨h0, h1⟩ := h
    subst h0
    obtain ⟨n, p3, rfl, hN, hv, hd, hc⟩ := nm_of h1
    refine psw (ps_expr (pe_bm0 PySem.F.plainAttrs_list PySem.F.slot_list_pop PySem.F.type_list_pop mt_pop (pe_var hN hv hd hc) rfl hline) rfl) fun Dn σ H ⟨ρ, Hs, re, ext, h⟩ => ?_
    unfold exS at h
    obtain ⟨ds, hρ, q⟩ := getO_ok h
    split at q <;> first | exact q.elim | skip
    rename_i d hd2
    obtain ⟨pp, vs, m1, m2, m3, m4, m5⟩ := re.ow i ds hρ
    obtain ⟨y, k1, k2⟩ := m5.get hd2
    refine ⟨.ref pp, m1, .inl ⟨rfl, _, .inl (.inl m2)⟩, pp, vs, y, rfl, rfl, m2, by rw [m5.length]; exact k1, ?_⟩
    exact q _ Hs _ (re.mut hρ m1 m3 m4 m5.dropLast) (ext.mut m3 m4) (Same.refl _)
  | .popK is i k, st, h => by
    unfold chkS at h
    split at h <;> first | cases h | skip
    rename_i t v p hb
    have := asAsg_eq hb; subst this
    split at h <;> first | cases h | skip
    rename_i o nm kk hb2
    obtain ⟨ap, cp, rfl, hline⟩ := asMeth_eq hb2
    simp only [Bool.and_eq_true, Bool.not_eq_true', decide_eq_true_eq] at h
    obtain ⟨⟨⟨⟨⟨⟨h0, h1⟩, h2⟩, h3⟩, h4⟩, h5⟩, h6⟩ := h
    subst h0
    obtain ⟨n, p3, rfl, hN, hv, hd, hc⟩ := nm_of h1
    have A := sndE (H0 := H0) k so.ok so.px h4
    have B := tg_ok so.fn h2 so.ok.nd so.ok.calm
    have hl : ∀ ts q, t ≠ .List ts q := fun ts q z => by
      subst z
      unfold chkTg ownOf at h2
      cases h2
    have hst : notStar t = true := by
      cases t <;> first | rfl | skip
      unfold chkTg ownOf at h2
      cases h2
    refine psw (ps_asg (pe_bm PySem.F.plainAttrs_list PySem.F.slot_list_pop PySem.F.type_list_pop mt_popAt (pe_var hN hv hd hc) (sargs_cons A h5 sargs_nil) rfl (by rw [star_cons h5]; rfl) hline (star_cons h5) rfl) B (sole_sub rfl) (noSwap (.inl rfl) hl) (by cases t <;> first | rfl | cases hst)) fun Dn σ H ⟨ρ, Hs, re, ext, h⟩ => ?_
    unfold exS at h
    obtain ⟨ds, hρ, q⟩ := getO_ok h
    obtain ⟨pp, vs, m1, m2, m3, m4, m5⟩ := re.ow i ds hρ
    refine ⟨.ref pp, m1, .inl ⟨rfl, _, .inl (.inl m2)⟩, ρ, Hs, re, ?_⟩
    unfold evL evL
    cases hk : evE F k ρ with
    | no => rw [hk] at q; exact q.elim
    | ex c => rw [hk] at q; exact EXc.ext q ext
    | ok d =>
      rw [hk] at q
      cases d <;> first | exact q.elim | skip
      rename_i z
      have q : holds (match (if 0 ≤ z then ds[z.toNat]? else none) with | some d => _ | none => _) _ _ := q
      by_cases hz : 0 ≤ z
      · rw [if_pos hz] at q
        cases hd2 : ds[z.toNat]? with
        | none => rw [hd2] at q; exact q.elim
        | some d =>
          rw [hd2] at q
          obtain ⟨hz2, q⟩ := holds_gd (holds_bind q)
          have hz2 := of_decide_eq_true hz2
          obtain ⟨ρ', ht, q⟩ := tgD_holds q
          intro ws Hs1 H1 e1 b1 r1
          obtain ⟨w, rfl, rw_⟩ := reps_one (r1 (nolend1 h6))
          cases rw_
          have hL : H1 pp = some (.lst vs) := e1.all _ _ m2
          have n2 : Hs1 pp = none := e1.out _ _ m2 rfl m3
          obtain ⟨y, k1, k2⟩ := (m5.mono e1.view).get hd2
          have hlt : z.toNat < vs.length := (List.getElem?_eq_some_iff.mp k1).1
          have hzi : ixN vs.length z = some z.toNat := by unfold ixN; rw [if_pos hz, if_pos (by omega)]
          obtain ⟨s1, s2, s3, s4⟩ := ixN_seq hzi
          refine ⟨pp, vs, z, z.toNat, y, rfl, rfl, hL, by omega, by omega, s1, k1, ?_⟩
          exact gD_ok so.ok.K is ((re.ext e1).mut hρ m1 n2 m4 ((m5.mono e1.view).eraseIdx z.toNat)) k2 ht fun σ' re' _ => q σ' Hs1 _ re' ((ext.trans e1).mut n2 m4) e1.view
      · rw [if_neg hz] at q; exact q.elim
  | .frz i, st, h => by
    unfold chkS at h
    cases h
  | .del is, st, h => by
    unfold chkS at h
    cases h
theorem sndB {X : Cx} {E : XK} {Hs0 : Hp} {fr : Bool} (so : SOk g T F CX E X) : ∀ (xs : List Sx) {st : List Stmt}, chkB T X.N fr X.env.scope xs st = true → PSs X st (tS g H0 E Hs0 fr (exB F fr xs))
  | [], st, h => by
    cases st with
    | cons t ts => simp [chkB] at h
    | nil =>
      refine pssw pss_nil fun Dn σ H ⟨ρ, Hs, re, ext, h⟩ => ?_
      unfold exB at h
      exact h σ Hs H re ext (Same.refl _)
  | s :: ss, st, h => by
    have hnf : ((∀ i, s ≠ .frz i) ∧ ∀ is, s ≠ .del is) ∨ (∃ i, s = .frz i) ∨ ∃ is, s = .del is := by
      cases s <;> first | exact .inr (.inl ⟨_, rfl⟩) | exact .inr (.inr ⟨_, rfl⟩) | exact .inl ⟨(fun _ z => nomatch z), (fun _ z => nomatch z)⟩
    rcases hnf with hnf | ⟨i, rfl⟩ | ⟨is, rfl⟩
    case inr.inr =>
      unfold chkB at h
      have A := sndB (Hs0 := Hs0) so ss (st := st) h
      refine pssw A fun Dn σ H ⟨ρ, Hs, re, ext, h⟩ => ?_
      unfold exB exS at h
      exact ⟨_, Hs, re.forget is, ext, h⟩
    case inr.inl =>
      unfold chkB at h
      have A := sndB (Hs0 := Hs0) so ss (st := st) h
      refine pssw A fun Dn σ H ⟨ρ, Hs, re, ext, h⟩ => ?_
      unfold exB exS at h
      have q : holds (exB F fr ss (frzD ρ i)) _ _ := h
      unfold frzD at q
      split at q
      · rename_i ds hρ
        obtain ⟨Hs', r', s', x'⟩ := re.frz hρ rfl rfl
        exact ⟨_, Hs', r', x' _ ext, holds_mono q (fun o _ z => oPost_same z s') fun _ z => z⟩
      · rename_i ds hρ
        obtain ⟨Hs', r', s', x'⟩ := re.frz hρ rfl rfl
        exact ⟨_, Hs', r', x' _ ext, holds_mono q (fun o _ z => oPost_same z s') fun _ z => z⟩
      · exact ⟨ρ, Hs, re, ext, q⟩
    cases st with
    | nil => (cases s <;> first | (simp [chkB] at h; done) | exact absurd rfl (hnf.1 _) | exact absurd rfl (hnf.2 _))
    | cons t ts =>
      have h : chkS T X.N fr X.env.scope s t = true ∧ chkB T X.N fr X.env.scope ss ts = true := by
        cases s <;> first | (simpa only [chkB, Bool.and_eq_true] using h) | exact absurd rfl (hnf.1 _) | exact absurd rfl (hnf.2 _)
      have A := sndS (Hs0 := Hs0) so s (st := t) h.1
      have B := sndB (Hs0 := Hs0) so ss (st := ts) h.2
      refine pssw (pss_cons A B) fun Dn σ H ⟨ρ, Hs, re, ext, h⟩ => ?_
      unfold exB at h
      refine ⟨ρ, Hs, re, ext, holds_mono (holds_bind h) (fun o _ z => ?_) fun _ z => z⟩
      cases o with
      | nx ρ' => exact fun σ' Hs' H' r' x' s' => ⟨ρ', Hs', r', x', holds_mono z (fun o _ z => oPost_same z s') fun _ z => z⟩
      | bk ρ' => exact z
      | ct ρ' => exact z
      | rt d => exact z
end
end
end Dw

/-! Calls with keywords of a def that has defaults but no keyword-only parameters: what is bound. -/
namespace Dw
open PySem PySem.Spec PyProof.Rows L2
section
variable {K : PySem.W.Frag} {x qual : Str} {params : Arguments} {body : List Stmt} {scope : Scope} {dvs : List V} {kws : List (Str × V)} {f : Addr} {fd : FuncData} {ps : List Str}
theorem vals_app {a : List V} {a' : List Value} (h : Vals a a') {b : List V} {b' : List Value} (k : Vals b b') : Vals (a ++ b) (a' ++ b') := h.append k
theorem vals_at : ∀ {vs : List V} {us : List Value} (i : Nat), Vals vs us → RelV (vs.getD i .non) (us.getD i .none)
  | _, _, _, .nil => rfl
  | _, _, 0, .cons r _ => r
  | _, _, i + 1, .cons _ t => by
    have := vals_at i t
    simpa using this
theorem vals_ord {vs : List V} {us : List Value} (h : Vals vs us) : ∀ ord : List Nat, Vals (ord.map fun i => vs.getD i .non) (ord.map fun i => us.getD i .none)
  | [] => .nil
  | i :: r => .cons (vals_at i h) (vals_ord h r)
/-- f(e, .., k = v, ..): n positional values, keywords named ks; ord says where each parameter's value stands among the values, the keywords' values, the defaults -/
theorem kbinds2 (F : FunD K x qual params body scope dvs kws f fd) (n : Nat) (ks : List Str) (ord : List Nat) (hd : dvs ≠ [])
    (h : ∀ (T : Addr) (kV doc pm : Value) (an : Option Addr) (cdv ct : Value) (us its ws : List Value), us.length = n → its.length = dvs.length → ws.length = ks.length →
      ∃ k, bindArgs (PySem.W.fnOf x qual params body scope (.ref T) kV doc pm an cdv ct) ⟨us, ks.zip ws⟩ = seqItems? (.ref T) >>= k ∧ k (some its.toArray) = pure (ps.zip (ord.map fun i => ((us ++ ws) ++ its).getD i .none))) :
    ∃ gf : List Value → List Value → List Value, KBn K fd ps n ks gf (fun vs zs => ord.map fun i => ((vs ++ zs) ++ dvs).getD i .non) := by
  obtain ⟨oc, od, dV, kV, doc, pm, an, cdv, ct, osl, rfl, lk, hcd, hD, hK⟩ := F.ex
  rcases hD with ⟨e, _⟩ | ⟨_, T, o, its, m, rfl, lT, oT, rT⟩
  · exact absurd e hd
  · refine ⟨fun us ws => ord.map fun i => ((us ++ ws) ++ its).getD i .none, ⟨fun s us ws X l1 l2 => ?_, fun r1 r2 => vals_ord ((r1.append r2).append rT) ord⟩⟩
    obtain ⟨k, e1, e2⟩ := h T kV doc pm an cdv ct us its ws l1 rT.length.symm l2
    refine BindsTo.of_looks fun M => ?_
    rw [e1]
    exact looks_items X lT oT (.of_pure e2)
end
end Dw

/-! The defs of a program, and a law's end. -/
namespace Dw
open PySem PySem.Spec PyProof.Rows L2
theorem lookup_mem {β : Type} {i : Nat} {b : β} : ∀ {l : List (Nat × β)}, l.lookup i = some b → (i, b) ∈ l
  | [], h => by cases h
  | (j, c) :: l, h => by
    rw [List.lookup_cons] at h
    cases e : i == j with
    | true => rw [e] at h; cases h; rw [beq_iff_eq] at e; subst e; exact List.mem_cons_self
    | false => rw [e] at h; exact List.mem_cons_of_mem _ (lookup_mem h)
/-- a def of the text, by its statement -/
structure DOk (K : PySem.W.Frag) (mg : Str → Option Value) (T : Tab) (P : Nat → Option Df) (i : Nat) (fi : FI) : Prop where
  ex : ∃ (d : Df) (qual : Str) (st : Stmt) (f : Addr) (fd : FuncData) (N ps : List Str), P i = some d ∧ (∃ dvs, FunD K fi.name qual (defArgs st) (defBody st) (defScope st) dvs [] f fd) ∧ mg fi.name = some (.ref f) ∧ FnScope N ps (defScope st) ∧ ps.length = fi.np ∧ N.length = d.n ∧ d.fr = fi.fr ∧
    chkB T N d.fr (defScope st) d.body (defBody st) = true ∧ (∀ j, j ≤ fi.ds.length → ∃ dvs dus, Binds K fd ps dus ∧ Vals dvs dus ∧ ∀ g H, Reps g H dvs (fi.ds.drop j)) ∧ ∀ q ∈ fi.kp, KwOk K fd ps fi.np fi.ds q
/-- a method of the text -/
structure MOk (g : G) (K : PySem.W.Frag) (mg : Str → Option Value) (T : Tab) (P : Nat → Option Df) (m : Str) (c i np : Nat) : Prop where
  ex : ∃ (d : Df) (qual : Str) (st : Stmt) (f : Addr) (fd : FuncData) (N ps : List Str), P i = some d ∧ (∃ dvs, FunD K m qual (defArgs st) (defBody st) (defScope st) dvs [] f fd) ∧ Cls K (g.ca c) ∧ Meth K (g.ca c) m f ∧ m ∉ g.fn c ∧ FnScope N ps (defScope st) ∧ ps.length = np ∧ N.length = d.n ∧ d.fr = false ∧
    chkB T N d.fr (defScope st) d.body (defBody st) = true ∧ Binds K fd ps []
section
variable {Pr : Program} {w : World} {K : PySem.W.Frag} {mg : Str → Option Value} {base : Heap} {g : G} {T : Tab} {P : Nat → Option Df}
theorem start_re {H0 Hs H : Hp} {N : List Str} {vs : List V} {ds : List D} {n : Nat} (r : Reps g Hs vs ds) (sub : Same Hs H) (hn : N.length = n) : RE g H0 Hs H (ds.map Sl.sh ++ List.replicate (n - ds.length) .no) (L2.start N vs) := by
  have hl := r.length
  have no : ∀ (i : Nat) (s : Sl), (ds.map Sl.sh ++ List.replicate (n - ds.length) .no)[i]? = some s → isOw s = true → False := fun i s h hs => by
    by_cases hi : i < ds.length
    · rw [List.getElem?_append_left (by simpa using hi), List.getElem?_map] at h
      cases q : ds[i]? <;> rw [q] at h <;> cases h
      cases hs
    · rw [List.getElem?_append_right (by simpa using hi), List.getElem?_replicate] at h
      split at h <;> cases h
      cases hs
  refine ⟨sub, by unfold L2.start; simp [hl, hn], fun i d h => ?_, fun i es h hs => (no i es h hs).elim, fun a b es fs q hab k1 k2 ha hb => (no a es k1 ha).elim⟩
  · by_cases hi : i < ds.length
    · rw [List.getElem?_append_left (by simpa using hi), List.getElem?_map] at h
      cases q : ds[i]? with
      | none => rw [q] at h; cases h
      | some d' =>
        rw [q] at h
        cases h
        obtain ⟨v, k1, k2⟩ := r.get q
        refine ⟨v, ?_, k2⟩
        unfold L2.start
        rw [List.getElem?_append_left (by simp; omega), List.getElem?_map, k1]
        rfl
    · rw [List.getElem?_append_right (by simpa using hi), List.getElem?_replicate] at h
      split at h <;> cases h
theorem prog_ok (hcl : ∀ c nm fl, (c, nm, fl) ∈ T.cls → CM g K mg c nm fl) (hmt : ∀ m c i np, (m, c, i, np) ∈ T.mts → MOk g K mg T P m c i np) (he : ∀ c x, (c, x) ∈ T.exs → ExM K mg (g.xa c) x) (hK : K = g.K) (hb : ∀ n ∈ biNames, mg n = none) (hc : ∀ p ∈ T.cons, ∃ u v, mg p.1 = some u ∧ RelV v u ∧ ∀ H, Rep g H v p.2) (hd : ∀ i fi, T.fn i = some fi → DOk K mg T P i fi) :
    ∀ (n i : Nat) (fi : FI) (d : Df) (qual : Str) (st : Stmt) (f : Addr) (fd : FuncData) (N ps : List Str), P i = some d → (∃ dvs, FunD K fi.name qual (defArgs st) (defBody st) (defScope st) dvs [] f fd) → FnScope N ps (defScope st) → ps.length = fi.np → N.length = d.n → d.fr = fi.fr →
      chkB T N d.fr (defScope st) d.body (defBody st) = true → FnOk Pr w K mg base (L2.CX Pr w) (n + 2) f fd ps (spF g (callN P n) i fi.np fi.fr) := by
  intro n
  induction n with
  | zero =>
    intro i fi d qual st f fd N ps h1 h2 h3 h4 h5 h6 h7
    refine ⟨fun vs H Q E h => ?_, fun A outer s H args us vs Q E _ _ _ _ h => ?_⟩
    · obtain ⟨Hs, ds, _, _, _, h⟩ := h
      exact h.elim
    · obtain ⟨Hs, ds, _, _, _, h⟩ := h
      exact h.elim
  | succ n ih =>
    intro i fi d qual st f fd N ps h1 h2 h3 h4 h5 h6 h7
    obtain ⟨ddv, h2⟩ := h2
    refine h2.ok h3 (fun vs H Q E h => ?_) fun cdv A outer s H vs Q E hr h => ?_
    · obtain ⟨Hs, ds, _, _, h, _⟩ := h
      rw [h, h4]
    · obtain ⟨Hs, ds, sub, r, hl, h⟩ := h
      have so : SOk g T (callN P n) (L2.CX Pr w) E (cxOf (L2.CX Pr w) Pr w K mg base N qual (defScope st) f cdv A outer s H E) := by
        refine ⟨takes_of rfl rfl rfl rfl, ⟨hK, h3.nd, rfl, hr.units, hb, fun j fj hj => ?_, hc, he, hcl, fun m c j np hj => ?_, hr.mono (Nat.le_add_left 2 n), fun X' e1 e2 => ?_⟩, passes_call (takes_of rfl rfl rfl rfl) (fun _ _ _ _ h => h), fun _ => rfl, h3.kind, passes_of rfl⟩
        · obtain ⟨d', q', st', f', fd', N', ps', k1, k2, k3, k4, k5, k6, k7, k8, k9, k10⟩ := (hd j fj hj).ex
          exact ⟨n + 2, f', fd', ps', k3, k2.elim (fun _ z => z.kp), hr, ih j fj d' q' st' f' fd' N' ps' k1 k2 k4 k5 k6 k7 k8, fun m hm => let ⟨dvs, dus, z1, z2, z3⟩ := k9 m hm; ⟨dvs, dus, z1, z2, z3 g⟩, k10⟩
        · obtain ⟨d', q', st', f', fd', N', ps', k1, k2, k3, k4, k5, k6, k7, k8, k9, k10, k11⟩ := (hmt m c j np hj).ex
          have := ih j ⟨m, np, [], false, []⟩ d' q' st' f' fd' N' ps' k1 k2 k6 k7 k8 k9 k10
          exact ⟨n + 2, f', fd', ps', k3, k4, k5, hr, this, k11⟩
        · have e1 : X'.prog = Pr := e1
          have e2 : X'.w = w := e2
          rw [← e1, ← e2]
          exact passL
      have hB := sndB (H0 := H) (Hs0 := Hs) so d.body (st := defBody st) h7
      refine ⟨_, hB, ds.map Sl.sh ++ List.replicate (d.n - ds.length) .no, Hs, start_re r sub h5, Ext.refl sub, ?_⟩
      unfold callN at h
      rw [h1] at h
      simp only [runD] at h
      cases q : exB (callN P n) d.fr d.body (ds.map Sl.sh ++ List.replicate (d.n - ds.length) .no) with
      | no => rw [q] at h; exact h.elim
      | ex c => rw [q] at h; exact h
      | ok o =>
        rw [q] at h
        cases o with
        | nx ρ =>
          intro σ' Hs' H' r' x' s'
          have h : (match fi.fr with | true => PR g Hs H .non Q | false => PV g Hs H .non Q) := h
          cases hf : fi.fr with
          | true => rw [hf] at h; exact h .non Hs' H' x' (.inl ⟨.non, fun _ z => nomatch z⟩)
          | false => rw [hf] at h; exact h .non Hs' H' x' .non
        | bk ρ => exact h.elim
        | ct ρ => exact h.elim
        | rt r =>
          show RT g d.fr Hs H r Q
          unfold RT
          rw [h6]
          exact h
theorem fund_of {K : PySem.W.Frag} {x qual : Str} {st : Stmt} {f : Addr} {fd : FuncData} (F : Fun K x qual st f fd) : ∃ dvs, FunD K x qual (defArgs st) (defBody st) (defScope st) dvs [] f fd := by
  obtain ⟨oc, od, kV, doc, pm, an, cdv, ct, osl, e, l, c⟩ := F.ex
  exact ⟨[], ⟨oc, od, .none, kV, doc, pm, an, cdv, ct, osl, e, l, c, .inl ⟨rfl, rfl⟩, .inl rfl⟩, F.kp⟩
theorem fund_mk {K : PySem.W.Frag} {x qual : Str} {st : Stmt} {f Td : Addr} {oc tc : Value} {od an td : Option Addr} {osl tsl : Array (Option Value)} {kV doc pm cdv ct : Value} {its : List Value} {tn : Nat} {dvs : List V}
    (l : K.lookup f = some ⟨oc, od, .func (PySem.W.fnOf x qual (defArgs st) (defBody st) (defScope st) (.ref Td) kV doc pm an cdv ct), osl⟩)
    (c : PySem.W.codeIn K cdv qual = true) (k : PySem.W.keepIn K (.ref f) = true) (lt : K.lookup Td = some ⟨tc, td, .seq its.toArray tn, tsl⟩) (hd : dvs ≠ []) (hv : Vals dvs its) :
    FunD K x qual (defArgs st) (defBody st) (defScope st) dvs [] f (PySem.W.fnOf x qual (defArgs st) (defBody st) (defScope st) (.ref Td) kV doc pm an cdv ct) :=
  ⟨⟨oc, od, .ref Td, kV, doc, pm, an, cdv, ct, osl, rfl, l, c, .inr ⟨hd, Td, _, its, tn, rfl, lt, rfl, hv⟩, .inl rfl⟩, k⟩
/-- beyond each cell of a script -/
def cellS : Nat := 2 ^ 1048576
theorem cell_bits {z : Int} (h : Builtin.Int.intBits z ≤ 1048576) : z.natAbs < cellS := by
  unfold Builtin.Int.intBits at h
  unfold cellS
  by_cases e : z = 0
  · subst e; exact Nat.pow_pos (by decide)
  · rw [if_neg (by simpa using e)] at h
    exact Nat.lt_of_lt_of_le Nat.lt_log2_self (Nat.pow_le_pow_right (by decide) h)
theorem mul_cell {i j : Int} (h : i.natAbs < cellB) (h' : j.natAbs < mulB) : mulOk i j = true := by
  have h2 : j.natAbs < cellB := Nat.lt_of_lt_of_le h' (by unfold mulB cellB; exact Nat.pow_le_pow_right (by decide) (by decide))
  unfold mulOk; rw [decide_eq_true h, decide_eq_true h2]; simp
theorem cellS_B {n m : Nat} (h : n < cellS) (hm : m ≤ 4 * n + 4) : m < cellB := by
  have e : cellB = cellS * 2 ^ 51424 := by unfold cellB cellS; rw [← Nat.pow_add]
  have e2 : 16 ≤ 2 ^ 51424 := Nat.le_trans (show 16 ≤ 2 ^ 4 by decide) (Nat.pow_le_pow_right (by decide) (by decide))
  have e3 : cellS * 16 ≤ cellB := by rw [e]; exact Nat.mul_le_mul_left _ e2
  generalize cellB = B at *
  generalize cellS = S at *
  omega
theorem mul_cellS {i j : Int} (h : i.natAbs < cellS) (h' : j.natAbs < mulB) : mulOk i j = true := mul_cell (cellS_B h (by omega)) h'
/-- what a law's def promises -/
def spLaw (K : PySem.W.Frag) (m : Nat) : Sp := fun vs H Q _ => ∃ (a : Addr) (ns : List Int), vs = [.ref a] ∧ SqL K H a (ns.map V.int) ∧ ns.length ≤ m ∧ (∀ z ∈ ns, z.natAbs < cellS) ∧ ∀ H', Q (.bl true) H'
theorem law_ok (hcl : ∀ c nm fl, (c, nm, fl) ∈ T.cls → CM g K mg c nm fl) (hmt : ∀ m c i np, (m, c, i, np) ∈ T.mts → MOk g K mg T P m c i np) (he : ∀ c x, (c, x) ∈ T.exs → ExM K mg (g.xa c) x) (hK : K = g.K) (hb : ∀ n ∈ biNames, mg n = none) (hc : ∀ p ∈ T.cons, ∃ u v, mg p.1 = some u ∧ RelV v u ∧ ∀ H, Rep g H v p.2) (hd : ∀ i fi, T.fn i = some fi → DOk K mg T P i fi)
    {n i m : Nat} {fi : FI} {d : Df} {qual : Str} {st : Stmt} {f : Addr} {fd : FuncData} {N ps : List Str} (h1 : P i = some d) (h2 : Fun K fi.name qual st f fd) (h3 : FnScope N ps (defScope st)) (h4 : ps.length = fi.np) (h5 : N.length = d.n) (h6 : d.fr = fi.fr)
    (h7 : chkB T N d.fr (defScope st) d.body (defBody st) = true) (h8 : fi.np = 1) (h9 : fi.fr = false) (law : ∀ ns : List Int, ns.length ≤ m → (∀ z ∈ ns, z.natAbs < cellS) → callN P n i [.lst (ns.map D.int)] = .ok (.bl true)) : FnOk Pr w K mg base (L2.CX Pr w) (n + 2) f fd ps (spLaw K m) := by
  refine (prog_ok (Pr := Pr) (w := w) (base := base) hcl hmt he hK hb hc hd n i fi d qual st f fd N ps h1 (fund_of h2) h3 h4 h5 h6 h7).imp fun vs H Q E h => ?_
  obtain ⟨a, ns, rfl, hS, hl, hz, q⟩ := h
  rw [hK] at hS
  refine ⟨H, [.lst (ns.map D.int)], Same.refl _, .cons (.lst hS (reps_ints ns)) .nil, h8.symm, ?_⟩
  rw [law ns hl hz, h9]
  intro v Hs' H' x r
  cases r
  exact q H'
theorem law_cx {Pr : Program} {w : World} {H : Hp} {s : Shared} {e : Value} {s' : Shared} (h : L2.CX Pr w [] H s (fun _ _ _ => False) e s') : False := by
  obtain ⟨_, _, _, _, _, _, _, _, _, _, _, _, z⟩ := h
  exact z
end
end Dw

/-! Evaluation by rewriting. -/
namespace Dw
open PySem
/-- keeps rewriting by steps -/
theorem nr {α : Sort u} {a b : α} (h : a = b) : a = b := h
/-! ### the ways of an evaluation -/
theorem Q0 {α β : Type} (a : α) (f : α → M β) : M.bind (.ok a) f = f a := nr rfl
theorem Q1 {α β : Type} (f : α → M β) : M.bind .no f = .no := nr rfl
theorem Q2 {α β : Type} (c : Nat) (f : α → M β) : M.bind (.ex c) f = .ex c := nr rfl
theorem Q3 {α β : Type} (p : Prop) [Decidable p] (x y : M α) (f : α → M β) : M.bind (if p then x else y) f = if p then M.bind x f else M.bind y f := by split <;> rfl
theorem Q4 {α : Type} (a : α) : gd true a = .ok a := nr rfl
theorem gd_of {α : Type} {b : Bool} (h : b = true) (a : α) : gd b a = .ok a := by rw [h]; rfl
def getS : List Sl → Nat → Sl
  | [], _ => .no
  | x :: _, 0 => x
  | _ :: xs, n + 1 => getS xs n
theorem Q5 (x : Sl) (xs : List Sl) : getS (x :: xs) 0 = x := nr rfl
theorem Q6 (x : Sl) (xs : List Sl) (n : Nat) : getS (x :: xs) (n + 1) = getS xs n := nr rfl
theorem getS_eq : ∀ (ρ : List Sl) (i : Nat), getS ρ i = (ρ[i]?).getD .no
  | [], i => by cases i <;> rfl
  | x :: xs, 0 => rfl
  | x :: xs, n + 1 => by rw [Q6, List.getElem?_cons_succ]; exact getS_eq xs n
def slV : Sl → M D
  | .sh d => .ok d
  | _ => .no
def slB : Sl → M D
  | .ow ds => .ok (.lst ds)
  | .od d => .ok d
  | _ => .no
def slO : Sl → M (List D)
  | .ow ds => .ok ds
  | _ => .no
theorem Q7 (d : D) : slV (.sh d) = .ok d := nr rfl
theorem Q8 (d : List D) : slB (.ow d) = .ok (.lst d) := nr rfl
def slD : Sl → M D
  | .od d => .ok d
  | _ => .no
theorem Q16 (d : D) : slD (.od d) = .ok d := nr rfl
theorem Q17 (d : D) : slB (.od d) = .ok d := nr rfl
theorem Q9 (d : List D) : slO (.ow d) = .ok d := nr rfl
theorem getV_eq (ρ : List Sl) (i : Nat) : getV ρ i = slV (getS ρ i) := by
  rw [getS_eq]
  unfold getV
  cases h : ρ[i]? with
  | none => rfl
  | some s => cases s <;> rfl
theorem getB_eq (ρ : List Sl) (i : Nat) : getB ρ i = slB (getS ρ i) := by
  rw [getS_eq]
  unfold getB
  cases h : ρ[i]? with
  | none => rfl
  | some s => cases s <;> rfl
theorem getOd_eq (ρ : List Sl) (i : Nat) : getOd ρ i = slD (getS ρ i) := by
  rw [getS_eq]
  unfold getOd
  cases h : ρ[i]? with
  | none => rfl
  | some s => cases s <;> rfl
theorem getO_eq (ρ : List Sl) (i : Nat) : getO ρ i = slO (getS ρ i) := by
  rw [getS_eq]
  unfold getO
  cases h : ρ[i]? with
  | none => rfl
  | some s => cases s <;> rfl
def setS : List Sl → Nat → Sl → List Sl
  | [], _, _ => []
  | _ :: xs, 0, s => s :: xs
  | x :: xs, n + 1, s => x :: setS xs n s
theorem Q10 (x s : Sl) (xs : List Sl) : setS (x :: xs) 0 s = s :: xs := nr rfl
theorem Q11 (x s : Sl) (xs : List Sl) (n : Nat) : setS (x :: xs) (n + 1) s = x :: setS xs n s := nr rfl
theorem setS_eq : ∀ (ρ : List Sl) (i : Nat) (s : Sl), ρ.set i s = setS ρ i s
  | [], i, s => rfl
  | x :: xs, 0, s => rfl
  | x :: xs, n + 1, s => by rw [List.set_cons_succ, Q11, setS_eq xs n s]
theorem setV_eq (ρ : List Sl) (i : Nat) (d : D) : setV ρ i d = setS ρ i (.sh d) := setS_eq ρ i _
theorem Q12 (ρ : List Sl) : wipeD ρ [] = ρ := nr rfl
theorem Q13 (ρ : List Sl) (v : Nat) (vs : List Nat) : wipeD ρ (v :: vs) = setS (wipeD ρ vs) v .no := setS_eq _ _ _
def frS : Sl → Sl
  | .ow ds => .sh (.lst ds)
  | .od d => .sh d
  | s => s
theorem Q14 (ds : List D) : frS (.ow ds) = .sh (.lst ds) := nr rfl
theorem Q15 (d : D) : frS (.od d) = .sh d := nr rfl
theorem Q33 (d : D) : frS (.sh d) = .sh d := nr rfl
theorem Q34 : frS .no = .no := nr rfl
theorem setS_get : ∀ (ρ : List Sl) (i : Nat), setS ρ i (getS ρ i) = ρ
  | [], i => rfl
  | x :: xs, 0 => rfl
  | x :: xs, n + 1 => by rw [Q11, Q6, setS_get xs n]
theorem frz_eq (ρ : List Sl) (i : Nat) : frzD ρ i = setS ρ i (frS (getS ρ i)) := by
  have e := getS_eq ρ i
  unfold frzD
  cases h : ρ[i]? with
  | none => rw [h] at e; rw [e]; have := setS_get ρ i; rw [e] at this; exact this.symm
  | some s =>
    rw [h] at e
    have e : getS ρ i = s := e
    cases s with
    | ow ds => rw [e]; show ρ.set i _ = _; rw [setS_eq]; rfl
    | od ds => rw [e]; show ρ.set i _ = _; rw [setS_eq]; rfl
    | sh d => rw [e, Q33]; have := setS_get ρ i; rw [e] at this; exact this.symm
    | no => rw [e, Q34]; have := setS_get ρ i; rw [e] at this; exact this.symm
theorem Q35 (ρ : List Sl) (i : Nat) (d : D) : tgD ρ [i] d = .ok (setS ρ i (.sh d)) := by show M.ok (setV ρ i d) = _; rw [setV_eq]
theorem Q36 (ρ : List Sl) (i j : Nat) (is : List Nat) (ds : List D) : tgD ρ (i :: j :: is) (.tup ds) = setVs ρ (i :: j :: is) ds := nr rfl
theorem Q37 (ρ : List Sl) (i j : Nat) (is : List Nat) (ds : List D) : tgD ρ (i :: j :: is) (.lst ds) = setVs ρ (i :: j :: is) ds := nr rfl
theorem Q38 (ρ : List Sl) : setVs ρ [] [] = .ok ρ := nr rfl
theorem Q39 (ρ : List Sl) (i : Nat) (is : List Nat) (d : D) (ds : List D) : setVs ρ (i :: is) (d :: ds) = setVs (setS ρ i (.sh d)) is ds := by rw [setVs, setV_eq]
def iteD {α : Type} (d : D) (x y : M α) : M α := match d with
  | .bl b => if b = true then x else y
  | _ => .no
theorem Q40 {α : Type} (b : Bool) (x y : M α) : iteD (.bl b) x y = if b = true then x else y := nr rfl
theorem ite_okn (p : Prop) [Decidable p] (a b : List Sl) : (if p then M.ok (O.nx a) else M.ok (O.nx b)) = M.ok (O.nx (if p then a else b)) := by split <;> rfl
theorem ite_okr (p : Prop) [Decidable p] (a b : D) : (if p then M.ok (O.rt a) else M.ok (O.rt b)) = M.ok (O.rt (if p then a else b)) := by split <;> rfl
theorem ite_oki (p : Prop) [Decidable p] (a b : Int) : (if p then M.ok (D.int a) else M.ok (D.int b)) = M.ok (D.int (if p then a else b)) := by split <;> rfl
theorem ite_okd (p : Prop) [Decidable p] (a b : D) : (if p then M.ok a else M.ok b) = M.ok (if p then a else b) := by split <;> rfl
theorem ite_cons {α : Type} (p : Prop) [Decidable p] (x y : α) (xs ys : List α) : (if p then x :: xs else y :: ys) = (if p then x else y) :: (if p then xs else ys) := by split <;> rfl
theorem ite_sh (p : Prop) [Decidable p] (a b : D) : (if p then Sl.sh a else Sl.sh b) = Sl.sh (if p then a else b) := by split <;> rfl
theorem ite_ow (p : Prop) [Decidable p] (a b : List D) : (if p then Sl.ow a else Sl.ow b) = Sl.ow (if p then a else b) := by split <;> rfl
theorem ite_int (p : Prop) [Decidable p] (a b : Int) : (if p then D.int a else D.int b) = D.int (if p then a else b) := by split <;> rfl
theorem ite_bl (p : Prop) [Decidable p] (a b : Bool) : (if p then D.bl a else D.bl b) = D.bl (if p then a else b) := by split <;> rfl
theorem ite_tup (p : Prop) [Decidable p] (a b : List D) : (if p then D.tup a else D.tup b) = D.tup (if p then a else b) := by split <;> rfl
theorem Q41 (p q : Bool) : (if p = true then M.ok (D.bl q) else M.ok (D.bl false)) = M.ok (D.bl (p && q)) := by cases p <;> rfl
theorem Q42 (p q : Bool) : (if p = true then M.ok (D.bl true) else M.ok (D.bl q)) = M.ok (D.bl (p || q)) := by cases p <;> rfl
theorem Q43 (p : Prop) [Decidable p] (q : Bool) : (if p then M.ok (D.bl q) else M.ok (D.bl false)) = M.ok (D.bl (decide p && q)) := by split <;> simp_all
theorem Q45 (p : Prop) [Decidable p] (q : Bool) : (if p then M.ok (D.bl false) else M.ok (D.bl q)) = M.ok (D.bl (!decide p && q)) := by split <;> simp_all
theorem Q46 (p : Prop) [Decidable p] (q : Bool) : (if p then M.ok (D.bl q) else M.ok (D.bl true)) = M.ok (D.bl (!decide p || q)) := by split <;> simp_all
theorem Q44 (p : Prop) [Decidable p] (q : Bool) : (if p then M.ok (D.bl true) else M.ok (D.bl q)) = M.ok (D.bl (decide p || q)) := by split <;> simp_all
/-! ### expressions -/
section
variable {F : Fs} {fr : Bool} {ρ : List Sl}
theorem Q47 (i : Nat) : evE F (.var i) ρ = slV (getS ρ i) := getV_eq ρ i
theorem Q48 (i : Nat) : evE F (.bor i) ρ = slB (getS ρ i) := getB_eq ρ i
theorem Q49 (d : D) : evE F (.con d) ρ = .ok d := nr rfl
theorem Q50 (d : D) : evE F (.glb d) ρ = .ok d := nr rfl
theorem Q51 (op : Bop) (a b : Ex) : evE F (.bin op a b) ρ = (evE F a ρ).bind fun x => (evE F b ρ).bind fun y => binD op x y := nr rfl
def negD : D → M D
  | .int i => .ok (.int (-i))
  | _ => .no
theorem Q52 (a : Ex) : evE F (.neg a) ρ = (evE F a ρ).bind negD := nr rfl
theorem Q53 (i : Int) : negD (.int i) = .ok (.int (-i)) := nr rfl
def notD : D → M D
  | .bl b => .ok (.bl (!b))
  | _ => .no
theorem Q54 (a : Ex) : evE F (.nt a) ρ = (evE F a ρ).bind notD := nr rfl
theorem Q55 (b : Bool) : notD (.bl b) = .ok (.bl (!b)) := nr rfl
theorem Q56 (op : Cop) (a b : Ex) : evE F (.cmp op a b) ρ = (evE F a ρ).bind fun x => (evE F b ρ).bind fun y => cmpD op x y := nr rfl
theorem iteD_and (x : D) (m : M D) : (match x with | .bl true => m | .bl false => .ok (.bl false) | _ => .no) = iteD x m (.ok (.bl false)) := by
  cases x <;> first | rfl | skip
  rename_i b
  cases b <;> rfl
theorem Q57 (o p : Cop) (a b c : Ex) : evE F (.chain o p a b c) ρ = (evE F a ρ).bind fun x => (evE F b ρ).bind fun y => (cmpD o x y).bind fun r => iteD r ((evE F c ρ).bind fun z => cmpD p y z) (.ok (.bl false)) := by
  rw [evE]
  congr 1; funext x; congr 1; funext y; congr 1; funext r
  exact iteD_and r _
theorem Q58 (a b : Ex) : evE F (.and a b) ρ = (evE F a ρ).bind fun x => iteD x (evE F b ρ) (.ok (.bl false)) := by
  rw [evE]; congr 1; funext x; exact iteD_and x _
theorem Q59 (a b : Ex) : evE F (.or a b) ρ = (evE F a ρ).bind fun x => iteD x (.ok (.bl true)) (evE F b ρ) := by
  rw [evE]; congr 1; funext x
  cases x <;> first | rfl | skip
  rename_i b
  cases b <;> rfl
theorem Q60 (c a b : Ex) : evE F (.ite c a b) ρ = (evE F c ρ).bind fun x => iteD x (evE F a ρ) (evE F b ρ) := by
  rw [evE]; congr 1; funext x
  cases x <;> first | rfl | skip
  rename_i b
  cases b <;> rfl
theorem Q61 (es : List Ex) : evE F (.tup es) ρ = (evL F es ρ).bind fun ds => .ok (.tup ds) := nr rfl
theorem Q62 (es : List Ex) : evE F (.lst es) ρ = (evL F es ρ).bind fun ds => .ok (.lst ds) := nr rfl
theorem Q63 (a b : Ex) : evE F (.idx a b) ρ = (evE F a ρ).bind fun x => (evE F b ρ).bind fun y => idxD x y := nr rfl
theorem Q65 (l : Bool) (a : Ex) : evE F (.rvs l a) ρ = (evE F a ρ).bind fun x => rvsD l x := by rw [evE]
theorem Q66 (a b : Ex) : evE F (.lrg a b) ρ = (evE F a ρ).bind fun x => (evE F b ρ).bind fun y => lrgD x y := nr rfl
theorem Q64 (a : Ex) (lo hi : Option Ex) : evE F (.slc a lo hi) ρ = (evE F a ρ).bind fun x => (evO F lo ρ).bind fun l => (evO F hi ρ).bind fun h => slcD x l h := nr rfl
theorem Q70 (b : Bi) (es : List Ex) : evE F (.bi b es) ρ = (evL F es ρ).bind fun ds => biD b ds := nr rfl
theorem Q71 (a : Ex) (t : Ty) : evE F (.isi a t) ρ = (evE F a ρ).bind fun x => gd (noIns x) (.bl (tyD t x)) := nr rfl
theorem Q25 (tbl : List (Nat × Nat)) (a : Ex) : evE F (.fld tbl a) ρ = (evE F a ρ).bind fun x => fldD tbl x := by rw [evE]
theorem Q26 (tbl : List (Nat × Nat)) (a : Ex) (es : List Ex) : evE F (.mth tbl a es) ρ = (evE F a ρ).bind fun x => (mthD tbl x).bind fun f => (evL F es ρ).bind fun ds => F f (x :: ds) := by rw [evE]
theorem Q27 (c n : Nat) (es : List Ex) : evE F (.mk c n es) ρ = (evL F es ρ).bind fun ds => gd (decide (ds.length = n)) (.ins c ds) := by rw [evE]
theorem fld_at {tbl : List (Nat × Nat)} {c i : Nat} {fs : List D} (h : tbl.lookup c = some i) : fldD tbl (.ins c fs) = optM fs[i]? := by
  show (match tbl.lookup c with | some i => optM fs[i]? | none => .no) = _
  rw [h]
theorem mth_at {tbl : List (Nat × Nat)} {c i : Nat} {fs : List D} (h : tbl.lookup c = some i) : mthD tbl (.ins c fs) = .ok i := by
  show optM (tbl.lookup c) = _
  rw [h]; rfl
theorem Q28 {α : Type} (a : α) : optM (some a) = .ok a := nr rfl
def isBorE : Ex → Bool
  | .bor _ => true
  | _ => false
theorem lends_nil : lends [] = false := nr rfl
theorem Q72 (m : M D) : lent false m = m := by
  cases m <;> rfl
theorem lent_true (d : D) : lent true (.ok d) = gd (noLst d) d := nr rfl
theorem Q67 (f : Nat) (es ks : List Ex) (dfl : List D) (ord : List Nat) : evE F (.callk f es ks dfl ord) ρ = (evL F es ρ).bind fun ds => (evL F ks ρ).bind fun zs => F f (ord.map fun i => ((ds ++ zs) ++ dfl).getD i .non) := nr rfl
theorem Q73 (f : Nat) (es : List Ex) (dfl : List D) : evE F (.call f es dfl) ρ = (evL F es ρ).bind fun ds => lent (lends es) (F f (ds ++ dfl)) := nr rfl
theorem Q74 : evL F [] ρ = .ok [] := nr rfl
theorem Q75 (e : Ex) (es : List Ex) : evL F (e :: es) ρ = (evE F e ρ).bind fun d => (evL F es ρ).bind fun ds => .ok (d :: ds) := nr rfl
theorem Q76 : evO F none ρ = .ok none := nr rfl
def intD : D → M (Option Int)
  | .int i => .ok (some i)
  | _ => .no
theorem Q77 (e : Ex) : evO F (some e) ρ = (evE F e ρ).bind intD := nr rfl
theorem Q78 (i : Int) : intD (.int i) = .ok (some i) := nr rfl
/-- a comprehension's turn -/
def cmpT (F : Fs) (ρ : List Sl) (tg : List Nat) (cond : Option Ex) (elt : Ex) (d : D) : M (Option D) := (tgD (wipeD ρ tg) tg d).bind fun ρ' => match cond with
  | none => (evE F elt ρ').bind fun y => .ok (some y)
  | some c => (evE F c ρ').bind fun b => iteD b ((evE F elt ρ').bind fun y => .ok (some y)) (.ok none)
theorem Q79 (elt : Ex) (tg : List Nat) (k : Ik) (es : List Ex) (cond : Option Ex) : evE F (.comp elt tg k es cond) ρ = ((evL F es ρ).bind fun ds => itD k ds).bind fun its => (gd (fits its.length) its).bind fun its => (compD (cmpT F ρ tg cond elt) its).bind fun r => .ok (.lst r) := by
  rw [evE]
  congr 1; funext its; congr 1; funext its; congr 2; funext d
  unfold cmpT
  congr 1; funext ρ'
  cases cond with
  | none => rfl
  | some c =>
    show M.bind _ _ = M.bind _ _
    congr 1; funext b
    cases b <;> first | rfl | skip
    rename_i b
    cases b <;> rfl
theorem Q80 (tg : List Nat) (elt : Ex) (d : D) : cmpT F ρ tg none elt d = (tgD (wipeD ρ tg) tg d).bind fun ρ' => (evE F elt ρ').bind fun y => .ok (some y) := nr rfl
theorem Q81 (tg : List Nat) (c elt : Ex) (d : D) : cmpT F ρ tg (some c) elt d = (tgD (wipeD ρ tg) tg d).bind fun ρ' => (evE F c ρ').bind fun b => iteD b ((evE F elt ρ').bind fun y => .ok (some y)) (.ok none) := nr rfl
end
/-! ### comprehensions -/
def compA {α : Type} (f : α → M (Option D)) (l : List α) : M (List D) := match l with
  | [] => .ok []
  | x :: xs => match f x with
    | .ok (some y) => (compA f xs).bind fun ys => .ok (y :: ys)
    | .ok none => compA f xs
    | _ => .no
theorem Q82 {α : Type} (f : D → M (Option D)) (enc : α → D) : ∀ l : List α, compD f (l.map enc) = compA (fun x => f (enc x)) l
  | [] => rfl
  | x :: xs => by
    rw [List.map_cons, compD, compA, Q82 f enc xs]
    try (rcases f (enc x) with _ | (_ | y) | _ <;> rfl)
theorem compD_A (f : D → M (Option D)) (l : List D) : compD f l = compA f l := by
  have := Q82 f id l
  rwa [List.map_id] at this
def cmpC (o : M (Option D)) (r : M (List D)) : M (List D) := match o with
  | .ok (some y) => r.bind fun ys => .ok (y :: ys)
  | .ok none => r
  | _ => .no
theorem Q83 {α : Type} (f : α → M (Option D)) : compA f [] = .ok [] := nr rfl
theorem Q84 {α : Type} (f : α → M (Option D)) (x : α) (xs : List α) : compA f (x :: xs) = cmpC (f x) (compA f xs) := nr rfl
theorem Q85 (y : D) (r : M (List D)) : cmpC (.ok (some y)) r = r.bind fun ys => .ok (y :: ys) := nr rfl
theorem Q86 (r : M (List D)) : cmpC (.ok none) r = r := nr rfl
theorem compA_mem {α : Type} {f : α → M (Option D)} {G : α → D} : ∀ {l : List α}, (∀ x ∈ l, f x = .ok (some (G x))) → compA f l = .ok (l.map G)
  | [], _ => rfl
  | x :: xs, h => by
    rw [Q84, h x List.mem_cons_self, compA_mem (fun y hy => h y (List.mem_cons_of_mem _ hy))]
    rfl
theorem compA_ok {α : Type} (G : α → D) (l : List α) : compA (fun x => .ok (some (G x))) l = .ok (l.map G) := compA_mem fun _ _ => rfl
theorem compA_memF {α : Type} {f : α → M (Option D)} {G : α → D} {p : α → Bool} : ∀ {l : List α}, (∀ x ∈ l, f x = if p x = true then .ok (some (G x)) else .ok none) → compA f l = .ok ((l.filter p).map G)
  | [], _ => rfl
  | x :: xs, h => by
    rw [Q84, h x List.mem_cons_self, compA_memF (fun y hy => h y (List.mem_cons_of_mem _ hy)), List.filter_cons]
    cases p x <;> rfl
theorem compA_if {α : Type} (p : α → Bool) (G : α → D) (l : List α) : compA (fun x => if p x = true then .ok (some (G x)) else .ok none) l = .ok ((l.filter p).map G) := compA_memF fun _ _ => rfl
theorem Q87 {α : Type} (G : α → Int) (l : List α) : compA (fun x => .ok (some (.int (G x)))) l = .ok ((l.map G).map D.int) := by rw [compA_ok, List.map_map]; rfl
/-! ### statements -/
section
variable {F : Fs} {fr : Bool} {ρ : List Sl}
/-- what follows a statement -/
def goB (F : Fs) (fr : Bool) (m : M O) (ss : List Sx) : M O := m.bind fun o => match o with
  | .nx ρ => exB F fr ss ρ
  | .bk ρ => .ok (.bk ρ)
  | .ct ρ => .ok (.ct ρ)
  | .rt d => .ok (.rt d)
theorem Q88 (ρ : List Sl) (ss : List Sx) : goB F fr (.ok (.nx ρ)) ss = exB F fr ss ρ := nr rfl
theorem Q89 (ρ : List Sl) (ss : List Sx) : goB F fr (.ok (.bk ρ)) ss = .ok (.bk ρ) := nr rfl
theorem Q90 (ρ : List Sl) (ss : List Sx) : goB F fr (.ok (.ct ρ)) ss = .ok (.ct ρ) := nr rfl
theorem Q91 (d : D) (ss : List Sx) : goB F fr (.ok (.rt d)) ss = .ok (.rt d) := nr rfl
theorem Q92 (c : Nat) (ss : List Sx) : goB F fr (.ex c) ss = .ex c := nr rfl
theorem Q93 (p : Prop) [Decidable p] (x y : M O) (ss : List Sx) : goB F fr (if p then x else y) ss = if p then goB F fr x ss else goB F fr y ss := by split <;> rfl
theorem Q94 : exB F fr [] ρ = .ok (.nx ρ) := nr rfl
theorem Q95 (s : Sx) (ss : List Sx) : exB F fr (s :: ss) ρ = goB F fr (exS F fr s ρ) ss := by
  rw [exB]; unfold goB; congr 1
theorem xB_app : ∀ (a b : List Sx) (ρ : List Sl), exB F fr (a ++ b) ρ = goB F fr (exB F fr a ρ) b
  | [], b, ρ => nr rfl
  | s :: ss, b, ρ => by
    rw [List.cons_append, Q95, Q95]
    rcases exS F fr s ρ with _ | o | c
    · rfl
    · cases o with
      | nx ρ' => rw [Q88, Q88]; exact xB_app ss b ρ'
      | bk ρ' => rfl
      | ct ρ' => rfl
      | rt d => rfl
    · rfl
def seg (b : List Sx) (i k : Nat) : List Sx := (b.drop i).take k
theorem Q104 (b : List Sx) (i k : Nat) : seg b i k = (b.drop i).take k := nr rfl
/-- the next k statements by themselves -/
theorem xB_seg (b : List Sx) (i k : Nat) : exB F fr (b.drop i) ρ = goB F fr (exB F fr (seg b i k) ρ) (b.drop (i + k)) := by
  rw [← xB_app, Q104, ← List.drop_drop, List.take_append_drop]
theorem xB_seg0 (b : List Sx) (k : Nat) : exB F fr b ρ = goB F fr (exB F fr (seg b 0 k) ρ) (b.drop k) := by
  have := xB_seg (F := F) (fr := fr) (ρ := ρ) b 0 k
  rwa [Nat.zero_add] at this
def getX : List Sx → Nat → Sx
  | [], _ => .pas
  | x :: _, 0 => x
  | _ :: xs, n + 1 => getX xs n
theorem Q96 (x : Sx) (xs : List Sx) : getX (x :: xs) 0 = x := nr rfl
theorem Q97 (x : Sx) (xs : List Sx) (n : Nat) : getX (x :: xs) (n + 1) = getX xs n := nr rfl
def bodyOf : Sx → List Sx
  | .for_ _ _ _ b => b
  | .while_ _ _ b => b
  | _ => []
theorem Q98 (tg : List Nat) (k : Ik) (es : List Ex) (b : List Sx) : bodyOf (.for_ tg k es b) = b := nr rfl
theorem Q99 (n : Nat) (c : Ex) (b : List Sx) : bodyOf (.while_ n c b) = b := nr rfl
/-- the body of the loop at a place -/
def loopB (b : List Sx) (i : Nat) : List Sx := bodyOf (getX b i)
theorem Q100 (b : List Sx) (i : Nat) : loopB b i = bodyOf (getX b i) := nr rfl
def condOf : Sx → Ex
  | .while_ _ c _ => c
  | .ite c _ _ => c
  | _ => .con .non
theorem Q101 (n : Nat) (c : Ex) (b : List Sx) : condOf (.while_ n c b) = c := nr rfl
def thenOf : Sx → List Sx
  | .ite _ a _ => a
  | _ => []
def elseOf : Sx → List Sx
  | .ite _ _ b => b
  | _ => []
theorem Q102 (c : Ex) (a b : List Sx) : thenOf (.ite c a b) = a := nr rfl
theorem Q103 (c : Ex) (a b : List Sx) : elseOf (.ite c a b) = b := nr rfl
theorem Q105 (i : Nat) (e : Ex) : exS F fr (.asg i e) ρ = (evE F e ρ).bind fun d => .ok (.nx (setS ρ i (.sh d))) := by
  rw [exS]; congr 1; funext d; rw [setV_eq]
def ownD (ρ : List Sl) (i : Nat) : D → M O
  | .lst ds => .ok (.nx (setS ρ i (.ow ds)))
  | _ => .no
theorem Q106 (i : Nat) (ds : List D) : ownD ρ i (.lst ds) = .ok (.nx (setS ρ i (.ow ds))) := nr rfl
theorem Q107 (i : Nat) (e : Ex) : exS F fr (.own i e) ρ = (evE F e ρ).bind (ownD ρ i) := by
  rw [exS]; congr 1; funext d
  cases d <;> first | rfl | skip
  rename_i ds; show M.ok (O.nx (ρ.set i _)) = M.ok (O.nx (setS ρ i _)); rw [setS_eq]
theorem Q108 (is : List Nat) (e : Ex) : exS F fr (.unp is e) ρ = (evE F e ρ).bind fun d => (tgD ρ is d).bind fun ρ' => .ok (.nx ρ') := nr rfl
theorem Q109 (i : Nat) (op : Bop) (e : Ex) : exS F fr (.aug i op e) ρ = (slV (getS ρ i)).bind fun x => (evE F e ρ).bind fun y => (augD op x y).bind fun d => .ok (.nx (setS ρ i (.sh d))) := by
  rw [exS, getV_eq]; congr 1; funext x; congr 1; funext y; congr 1; funext d; rw [setV_eq]
def putD (ρ : List Sl) (i : Nat) (ds : List D) (d : D) : D → M O
  | .int k => match L2.ixN ds.length k with
    | some j => .ok (.nx (setS ρ i (.ow (ds.set j d))))
    | none => .no
  | _ => .no
theorem Q110 (i : Nat) (ix e : Ex) : exS F fr (.put i ix e) ρ = (evE F e ρ).bind fun d => (slO (getS ρ i)).bind fun ds => (evE F ix ρ).bind fun k => putD ρ i ds d k := by
  rw [exS]; congr 1; funext d; rw [getO_eq]; congr 1; funext ds; congr 1; funext k
  cases k <;> first | rfl | skip
  rename_i k
  show (match L2.ixN ds.length k with | some j => M.ok (O.nx (ρ.set i (.ow (ds.set j d)))) | none => .no) = (match L2.ixN ds.length k with | some j => M.ok (O.nx (setS ρ i (.ow (ds.set j d)))) | none => .no)
  cases L2.ixN ds.length k with
  | none => rfl
  | some j => show M.ok (O.nx (ρ.set i _)) = M.ok (O.nx (setS ρ i _)); rw [setS_eq]
theorem Q111 (i : Nat) (e : Ex) : exS F fr (.app i e) ρ = (slO (getS ρ i)).bind fun ds => (evE F e ρ).bind fun d => gd (decide (ds.length < PySem.sizeLine)) (.nx (setS ρ i (.ow (ds ++ [d])))) := by
  rw [exS, getO_eq]; congr 1; funext ds; congr 1; funext d; rw [setS_eq]
theorem Q112 (i : Nat) (e : Ex) : exS F fr (.ext i e) ρ = (slO (getS ρ i)).bind fun ds => (evE F e ρ).bind fun d => match seqOf d with
    | some es => gd (fits (ds.length + es.length)) (.nx (setS ρ i (.ow (ds ++ es))))
    | none => .no := by
  rw [exS, getO_eq]; congr 1; funext ds; congr 1; funext d
  cases seqOf d with
  | none => rfl
  | some es => show gd _ (O.nx (ρ.set i _)) = _; rw [setS_eq]
def popM (ρ : List Sl) (is : List Nat) (i : Nat) (ds : List D) : M O := match ds[ds.length - 1]? with
  | some d => (tgD (setS ρ i (.ow ds.dropLast)) is d).bind fun ρ' => .ok (.nx ρ')
  | none => .no
theorem Q113 (is : List Nat) (i : Nat) : exS F fr (.pop is i) ρ = (slO (getS ρ i)).bind (popM ρ is i) := by
  rw [exS, getO_eq]; congr 1; funext ds
  unfold popM
  cases ds[ds.length - 1]? with
  | none => rfl
  | some d => show M.bind (tgD (ρ.set i _) is d) _ = _; rw [setS_eq]
theorem Q114 (is : List Nat) (i : Nat) (xs : List D) (x : D) : popM ρ is i (xs ++ [x]) = (tgD (setS ρ i (.ow xs)) is x).bind fun ρ' => .ok (.nx ρ') := by
  unfold popM
  rw [List.length_append, List.length_singleton, Nat.add_sub_cancel, List.getElem?_concat_length, List.dropLast_concat]
theorem Q115 (is : List Nat) (i : Nat) (x : D) : popM ρ is i [x] = (tgD (setS ρ i (.ow [])) is x).bind fun ρ' => .ok (.nx ρ') := Q114 is i [] x
theorem Q116 (c : Ex) (a b : List Sx) : exS F fr (.ite c a b) ρ = (evE F c ρ).bind fun d => iteD d (exB F fr a ρ) (exB F fr b ρ) := by
  rw [exS]; congr 1; funext x
  cases x <;> first | rfl | skip
  rename_i b
  cases b <;> rfl
def forT (F : Fs) (fr : Bool) (tg : List Nat) (body : List Sx) (d : D) (ρ : List Sl) : M O := (tgD ρ tg d).bind fun ρ' => exB F fr body ρ'
theorem Q117 (tg : List Nat) (k : Ik) (es : List Ex) (body : List Sx) : exS F fr (.for_ tg k es body) ρ = ((evL F es ρ).bind fun ds => itD k ds).bind fun its => forD (forT F fr tg body) its ρ := nr rfl
theorem Q118 (tg : List Nat) (body : List Sx) (d : D) : forT F fr tg body d ρ = (tgD ρ tg d).bind fun ρ' => exB F fr body ρ' := nr rfl
theorem x_while (fuel : Nat) (c : Ex) (body : List Sx) : exS F fr (.while_ fuel c body) ρ = whlD (evE F c) (exB F fr body) fuel ρ := nr rfl
def retD (fr : Bool) (d : D) : M O := gd (!fr || !isLst d) (.rt d)
theorem Q121 (e : Ex) : exS F fr (.ret e) ρ = (evE F e ρ).bind fun d => retD fr d := nr rfl
theorem Q122 (d : D) : retD false d = .ok (.rt d) := nr rfl
theorem Q123 (fr : Bool) (i : Int) : retD fr (.int i) = .ok (.rt (.int i)) := by cases fr <;> rfl
theorem Q124 (fr : Bool) (i : Bool) : retD fr (.bl i) = .ok (.rt (.bl i)) := by cases fr <;> rfl
theorem Q125 (fr : Bool) : retD fr .non = .ok (.rt .non) := by cases fr <;> rfl
theorem Q126 (fr : Bool) (ds : List D) : retD fr (.tup ds) = .ok (.rt (.tup ds)) := by cases fr <;> rfl
theorem Q127 (e : Ex) : exS F fr (.retR e) ρ = (evE F e ρ).bind fun d => .ok (.rt d) := nr rfl
theorem Q128 : exS F fr .retN ρ = .ok (.rt .non) := nr rfl
theorem Q129 : exS F fr .brk ρ = .ok (.bk ρ) := nr rfl
theorem Q130 : exS F fr .cnt ρ = .ok (.ct ρ) := nr rfl
theorem Q131 : exS F fr .pas ρ = .ok (.nx ρ) := nr rfl
theorem Q132 (i : Nat) : exS F fr (.frz i) ρ = .ok (.nx (setS ρ i (frS (getS ρ i)))) := by rw [exS, frz_eq]
theorem Q133 (is : List Nat) : exS F fr (.del is) ρ = .ok (.nx (wipeD ρ is)) := nr rfl
theorem Q18 (i : Nat) (t : Bool) : exS F fr (.dnew i t) ρ = .ok (.nx (setS ρ i (.od (dNew t)))) := by rw [exS, setS_eq]
theorem Q19 (i : Nat) (k e : Ex) : exS F fr (.dput i k e) ρ = (evE F e ρ).bind fun d => (slD (getS ρ i)).bind fun dd => (evE F k ρ).bind fun kk => (dputD dd kk d).bind fun d' => .ok (.nx (setS ρ i (.od d'))) := by
  rw [exS, getOd_eq]; congr 1; funext d; congr 1; funext dd; congr 1; funext kk; congr 1; funext d'; rw [setS_eq]
theorem Q20 (c : Nat) : exS F fr (.rse c) ρ = .ex c := by rw [exS]
def popEM (ρ : List Sl) (i : Nat) (ds : List D) : M O := match ds[ds.length - 1]? with
  | some _ => .ok (.nx (setS ρ i (.ow ds.dropLast)))
  | none => .no
theorem Q21 (i : Nat) : exS F fr (.popE i) ρ = (slO (getS ρ i)).bind (popEM ρ i) := by
  rw [exS, getO_eq]; congr 1; funext ds
  unfold popEM
  cases ds[ds.length - 1]? with
  | none => rfl
  | some d => show M.ok (O.nx (ρ.set i _)) = M.ok (O.nx (setS ρ i _)); rw [setS_eq]
theorem Q22 (i : Nat) (xs : List D) (x : D) : popEM ρ i (xs ++ [x]) = .ok (.nx (setS ρ i (.ow xs))) := by
  unfold popEM
  rw [List.length_append, List.length_singleton, Nat.add_sub_cancel, List.getElem?_concat_length, List.dropLast_concat]
theorem Q23 (i : Nat) (x : D) : popEM ρ i [x] = .ok (.nx (setS ρ i (.ow []))) := Q22 i [] x
def popKM (ρ : List Sl) (is : List Nat) (i : Nat) (ds : List D) : D → M O
  | .int z => match (if 0 ≤ z then ds[z.toNat]? else none) with
    | some d => gd (decide (z < 2 ^ 62)) () |>.bind fun _ => (tgD (setS ρ i (.ow (ds.eraseIdx z.toNat))) is d).bind fun ρ' => .ok (.nx ρ')
    | none => .no
  | _ => .no
theorem Q24 (is : List Nat) (i : Nat) (k : Ex) : exS F fr (.popK is i k) ρ = (slO (getS ρ i)).bind fun ds => (evE F k ρ).bind (popKM ρ is i ds) := by
  rw [exS, getO_eq]; congr 1; funext ds; congr 1; funext d
  cases d <;> first | rfl | skip
  rename_i z
  show (match (if 0 ≤ z then ds[z.toNat]? else none) with
    | some d => gd (decide (z < 2 ^ 62)) () |>.bind fun _ => (tgD (ρ.set i (.ow (ds.eraseIdx z.toNat))) is d).bind fun ρ' => M.ok (O.nx ρ')
    | none => .no) = (match (if 0 ≤ z then ds[z.toNat]? else none) with
    | some d => gd (decide (z < 2 ^ 62)) () |>.bind fun _ => (tgD (setS ρ i (.ow (ds.eraseIdx z.toNat))) is d).bind fun ρ' => M.ok (O.nx ρ')
    | none => .no)
  rw [setS_eq]
theorem popKM_at {is : List Nat} {i : Nat} {ds : List D} {k : Nat} {d : D} (h : ds[k]? = some d) (hk : k < 1000000) : popKM ρ is i ds (.int (k : Int)) = (tgD (setS ρ i (.ow (ds.eraseIdx k))) is d).bind fun ρ' => .ok (.nx ρ') := by
  show (match (if 0 ≤ (k : Int) then ds[(k : Int).toNat]? else none) with
    | some d => gd (decide ((k : Int) < 2 ^ 62)) () |>.bind fun _ => (tgD (setS ρ i (.ow (ds.eraseIdx (k : Int).toNat))) is d).bind fun ρ' => M.ok (O.nx ρ')
    | none => .no) = _
  rw [if_pos (by omega), Int.toNat_natCast, h]
  show M.bind (gd _ _) _ = _
  rw [decide_eq_true (by omega)]
  rfl
/-- how a call ends -/
def endD : M O → M D
  | .ok (.rt r) => .ok r
  | .ok (.nx _) => .ok .non
  | .ex c => .ex c
  | _ => .no
theorem Q134 (d : D) : endD (.ok (.rt d)) = .ok d := nr rfl
theorem Q135 (ρ : List Sl) : endD (.ok (.nx ρ)) = .ok .non := nr rfl
theorem Q136 (c : Nat) : endD (.ex c) = .ex c := nr rfl
theorem Q137 (p : Prop) [Decidable p] (x y : M O) : endD (if p then x else y) = if p then endD x else endD y := by split <;> rfl
def iniS : Nat → List D → List Sl
  | 0, _ => []
  | n + 1, [] => .no :: iniS n []
  | n + 1, d :: ds => .sh d :: iniS n ds
theorem Q142 (ds : List D) : iniS 0 ds = [] := nr rfl
theorem Q143 (n : Nat) : iniS (n + 1) [] = .no :: iniS n [] := nr rfl
theorem Q144 (n : Nat) (d : D) (ds : List D) : iniS (n + 1) (d :: ds) = .sh d :: iniS n ds := nr rfl
theorem iniS_eq : ∀ (nn : Nat) (args : List D), args.length ≤ nn → args.map Sl.sh ++ List.replicate (nn - args.length) .no = iniS nn args
  | 0, [], _ => rfl
  | 0, _ :: _, h => by simp at h
  | n + 1, [], _ => by
    have := iniS_eq n [] (by simp)
    simp only [List.map_nil, List.nil_append, List.length_nil, Nat.sub_zero] at this ⊢
    rw [List.replicate_succ, this]; rfl
  | n + 1, d :: ds, h => by
    have := iniS_eq n ds (by simpa using h)
    rw [List.map_cons, List.cons_append, List.length_cons, Nat.add_sub_add_right, this]; rfl
theorem callN_eq {P : Nat → Option Df} {n i : Nat} {nn : Nat} {fr : Bool} {body : List Sx} (h : P i = some ⟨nn, fr, body⟩) (args : List D) (hl : args.length ≤ nn) : callN P (n + 1) i args = endD (exB (callN P n) fr body (iniS nn args)) := by
  rw [← iniS_eq nn args hl]
  unfold callN
  rw [h]
  show runD _ _ _ = _
  unfold runD endD
  rfl
end
/-! ### loops -/
def iterO (o : O) (k : List Sl → M O) : M O := match o with
  | .nx ρ => k ρ
  | .ct ρ => k ρ
  | .bk ρ => .ok (.nx ρ)
  | .rt d => .ok (.rt d)
theorem Q119 (f : D → List Sl → M O) (ρ : List Sl) : forD f [] ρ = .ok (.nx ρ) := nr rfl
theorem Q120 (f : D → List Sl → M O) (x : D) (xs : List D) (ρ : List Sl) : forD f (x :: xs) ρ = (f x ρ).bind fun o => iterO o (forD f xs) := by
  rw [forD]; congr 1
theorem Q138 (ρ : List Sl) (k : List Sl → M O) : iterO (.nx ρ) k = k ρ := nr rfl
theorem Q139 (ρ : List Sl) (k : List Sl → M O) : iterO (.ct ρ) k = k ρ := nr rfl
theorem Q140 (ρ : List Sl) (k : List Sl → M O) : iterO (.bk ρ) k = .ok (.nx ρ) := nr rfl
theorem Q141 (d : D) (k : List Sl → M O) : iterO (.rt d) k = .ok (.rt d) := nr rfl
/-- each turn goes on, by an invariant over places: the part ahead, the slots -/
theorem forD_inv {f : D → List Sl → M O} {α : Type} {enc : α → D} (I : List α → List Sl → Prop) : ∀ (xs pre : List α) {ρ : List Sl}, I pre ρ →
    (∀ pre' x post ρ, pre ++ xs = pre' ++ x :: post → I pre' ρ → ∃ ρ', f (enc x) ρ = .ok (.nx ρ') ∧ I (pre' ++ [x]) ρ') → ∃ ρ', forD f (xs.map enc) ρ = .ok (.nx ρ') ∧ I (pre ++ xs) ρ'
  | [], pre, ρ, h0, _ => ⟨ρ, rfl, by rw [List.append_nil]; exact h0⟩
  | x :: xs, pre, ρ, h0, h => by
    obtain ⟨ρ1, e1, h1⟩ := h pre x xs ρ rfl h0
    obtain ⟨ρ2, e2, h2⟩ := forD_inv I xs (pre ++ [x]) h1 fun pre' y post ρ e k => h pre' y post ρ (by rw [← e]; simp) k
    refine ⟨ρ2, ?_, by simpa using h2⟩
    rw [List.map_cons, Q120, e1, Q0, Q138, e2]
theorem forD_idx {f : D → List Sl → M O} {α : Type} {enc : α → D} (I : Nat → List Sl → Prop) : ∀ (xs : List α) (i : Nat) {ρ : List Sl}, I i ρ →
    (∀ k x ρ, xs[k]? = some x → I (i + k) ρ → ∃ ρ', f (enc x) ρ = .ok (.nx ρ') ∧ I (i + k + 1) ρ') → ∃ ρ', forD f (xs.map enc) ρ = .ok (.nx ρ') ∧ I (i + xs.length) ρ'
  | [], i, ρ, h0, _ => ⟨ρ, rfl, h0⟩
  | x :: xs, i, ρ, h0, h => by
    obtain ⟨ρ1, e1, h1⟩ := h 0 x ρ rfl h0
    obtain ⟨ρ2, e2, h2⟩ := forD_idx I xs (i + 1) h1 fun k y ρ e z => by
      have := h (k + 1) y ρ (by simpa using e) (by rw [show i + (k + 1) = i + 1 + k by omega]; exact z)
      rw [show i + (k + 1) + 1 = i + 1 + k + 1 by omega] at this
      exact this
    refine ⟨ρ2, ?_, by rw [List.length_cons, show i + (xs.length + 1) = i + 1 + xs.length by omega]; exact h2⟩
    rw [List.map_cons, Q120, e1, Q0, Q138, e2]
/-- a loop over a list: place, item, slots -/
theorem for_list {f : D → List Sl → M O} {α : Type} {enc : α → D} (I : Nat → List Sl → Prop) (xs : List α) {ρ : List Sl} (h0 : I 0 ρ)
    (h : ∀ k x ρ, xs[k]? = some x → I k ρ → ∃ ρ', f (enc x) ρ = .ok (.nx ρ') ∧ I (k + 1) ρ') : ∃ ρ', forD f (xs.map enc) ρ = .ok (.nx ρ') ∧ I xs.length ρ' := by
  have := forD_idx I xs 0 h0 fun k x ρ e z => by
    rw [Nat.zero_add] at z ⊢; exact h k x ρ e z
  rwa [Nat.zero_add] at this
theorem forD_any {f : D → List Sl → M O} {α : Type} {enc : α → D} (I : Nat → List Sl → Prop) (Z : List Sl → Prop) (R : D → Prop) : ∀ (xs : List α) (i : Nat) {ρ : List Sl}, I i ρ →
    (∀ k x ρ, xs[k]? = some x → I (i + k) ρ → (∃ ρ', (f (enc x) ρ = .ok (.nx ρ') ∨ f (enc x) ρ = .ok (.ct ρ')) ∧ I (i + k + 1) ρ') ∨ (∃ ρ', f (enc x) ρ = .ok (.bk ρ') ∧ Z ρ') ∨ ∃ d, f (enc x) ρ = .ok (.rt d) ∧ R d) →
    (∃ ρ', forD f (xs.map enc) ρ = .ok (.nx ρ') ∧ (I (i + xs.length) ρ' ∨ Z ρ')) ∨ ∃ d, forD f (xs.map enc) ρ = .ok (.rt d) ∧ R d
  | [], i, ρ, h0, _ => .inl ⟨ρ, rfl, .inl h0⟩
  | x :: xs, i, ρ, h0, h => by
    rw [List.map_cons, Q120]
    rcases h 0 x ρ rfl h0 with ⟨ρ1, e1, h1⟩ | ⟨ρ1, e1, h1⟩ | ⟨d, e1, h1⟩
    · have := forD_any I Z R xs (i + 1) h1 fun k y ρ e z => by
        have := h (k + 1) y ρ (by simpa using e) (by rw [show i + (k + 1) = i + 1 + k by omega]; exact z)
        rw [show i + (k + 1) + 1 = i + 1 + k + 1 by omega] at this
        exact this
      rw [List.length_cons, show i + (xs.length + 1) = i + 1 + xs.length by omega]
      rcases e1 with e1 | e1 <;> rw [e1, Q0] <;> exact this
    · exact .inl ⟨ρ1, by rw [e1]; rfl, .inr h1⟩
    · exact .inr ⟨d, by rw [e1]; rfl, h1⟩
/-- a loop over a list that may be left -/
theorem for_list_any {f : D → List Sl → M O} {α : Type} {enc : α → D} (I : Nat → List Sl → Prop) (Z : List Sl → Prop) (R : D → Prop) (xs : List α) {ρ : List Sl} (h0 : I 0 ρ)
    (h : ∀ k x ρ, xs[k]? = some x → I k ρ → (∃ ρ', (f (enc x) ρ = .ok (.nx ρ') ∨ f (enc x) ρ = .ok (.ct ρ')) ∧ I (k + 1) ρ') ∨ (∃ ρ', f (enc x) ρ = .ok (.bk ρ') ∧ Z ρ') ∨ ∃ d, f (enc x) ρ = .ok (.rt d) ∧ R d) :
    (∃ ρ', forD f (xs.map enc) ρ = .ok (.nx ρ') ∧ (I xs.length ρ' ∨ Z ρ')) ∨ ∃ d, forD f (xs.map enc) ρ = .ok (.rt d) ∧ R d := by
  have := forD_any (f := f) (enc := enc) I Z R xs 0 h0 fun k x ρ e z => by
    rw [Nat.zero_add] at z ⊢; exact h k x ρ e z
  rwa [Nat.zero_add] at this
/-- a loop over a range from nought -/
theorem for_rng {f : D → List Sl → M O} {g : Nat → D} (I : Nat → List Sl → Prop) (m : Nat) {ρ : List Sl} (h0 : I 0 ρ)
    (h : ∀ k ρ, k < m → I k ρ → ∃ ρ', f (g k) ρ = .ok (.nx ρ') ∧ I (k + 1) ρ') : ∃ ρ', forD f ((List.range m).map g) ρ = .ok (.nx ρ') ∧ I m ρ' := by
  have := for_list (f := f) (enc := g) I (List.range m) h0 fun k x ρ e z => by
    have hk : k < m := by
      by_cases q : k < m
      · exact q
      · rw [List.getElem?_eq_none (by simp; omega)] at e; cases e
    rw [List.getElem?_range hk] at e
    cases e
    exact h _ ρ hk z
  rwa [List.length_range] at this
/-- each turn makes a step of a state -/
theorem forD_fold {f : D → List Sl → M O} {α σ : Type} {enc : α → D} (env : σ → List Sl) (step : σ → α → σ) : ∀ (xs : List α) (s : σ), (∀ x ∈ xs, ∀ s, f (enc x) (env s) = .ok (.nx (env (step s x)))) → forD f (xs.map enc) (env s) = .ok (.nx (env (xs.foldl step s)))
  | [], s, _ => rfl
  | x :: xs, s, h => by
    rw [List.map_cons, Q120, h x List.mem_cons_self s, Q0, Q138, forD_fold env step xs (step s x) (fun y hy s => h y (List.mem_cons_of_mem _ hy) s)]
    rfl
/-- a loop that keeps its slots, by turns that go on -/
theorem forD_all {f : D → List Sl → M O} {α : Type} {enc : α → D} {ρ : List Sl} : ∀ (xs : List α), (∀ x ∈ xs, f (enc x) ρ = .ok (.nx ρ)) → forD f (xs.map enc) ρ = .ok (.nx ρ)
  | [], _ => rfl
  | x :: xs, h => by
    rw [List.map_cons, Q120, h x List.mem_cons_self, Q0, Q138, forD_all xs (fun y hy => h y (List.mem_cons_of_mem _ hy))]
/-- a loop that looks for the first item that ends it -/
theorem forD_find {f : D → List Sl → M O} {α : Type} {enc : α → D} {ρ : List Sl} {p : α → Bool} {r : D} : ∀ (xs : List α), (∀ x ∈ xs, f (enc x) ρ = if p x = true then .ok (.rt r) else .ok (.nx ρ)) → forD f (xs.map enc) ρ = if xs.any p = true then .ok (.rt r) else .ok (.nx ρ)
  | [], _ => rfl
  | x :: xs, h => by
    rw [List.map_cons, Q120, h x List.mem_cons_self, Q3, Q0, Q0, Q141, Q138, forD_find xs (fun y hy => h y (List.mem_cons_of_mem _ hy)), List.any_cons]
    cases p x <;> simp
theorem whl_0 (c : List Sl → M D) (f : List Sl → M O) (ρ : List Sl) : whlD c f 0 ρ = .no := nr rfl
theorem whl_s (c : List Sl → M D) (f : List Sl → M O) (n : Nat) (ρ : List Sl) : whlD c f (n + 1) ρ = (c ρ).bind fun b => iteD b ((f ρ).bind fun o => iterO o (whlD c f n)) (.ok (.nx ρ)) := by
  rw [whlD]; congr 1; funext b
  cases b <;> first | rfl | skip
  rename_i b
  cases b <;> rfl
/-- a while, by an invariant and a number that falls -/
theorem whl_inv {c : List Sl → M D} {f : List Sl → M O} (I : Nat → List Sl → Prop) {Z : List Sl → Prop} : ∀ (n m : Nat) {ρ : List Sl}, m < n → I m ρ →
    (∀ m ρ, I m ρ → (c ρ = .ok (.bl false) ∧ Z ρ) ∨ (c ρ = .ok (.bl true) ∧ ∃ m' ρ', m' < m ∧ (f ρ = .ok (.nx ρ') ∨ f ρ = .ok (.ct ρ')) ∧ I m' ρ') ∨ (c ρ = .ok (.bl true) ∧ ∃ ρ', f ρ = .ok (.bk ρ') ∧ Z ρ')) → ∃ ρ', whlD c f n ρ = .ok (.nx ρ') ∧ Z ρ'
  | 0, m, ρ, hm, _, _ => by omega
  | n + 1, m, ρ, hm, h0, h => by
    rw [whl_s]
    rcases h m ρ h0 with ⟨e, z⟩ | ⟨e, m', ρ', hlt, e2, h1⟩ | ⟨e, ρ', e2, z⟩
    · exact ⟨ρ, by rw [e]; rfl, z⟩
    · obtain ⟨ρ2, e3, z⟩ := whl_inv I n m' (by omega) h1 h
      refine ⟨ρ2, ?_, z⟩
      rw [e, Q0, Q40, if_pos rfl]
      rcases e2 with e2 | e2 <;> rw [e2, Q0] <;> exact e3
    · exact ⟨ρ', by rw [e, Q0, Q40, if_pos rfl, e2]; rfl, z⟩
/-! ### operations -/
theorem Q145 (i j : Int) : binD .add (.int i) (.int j) = .ok (.int (i + j)) := nr rfl
theorem Q146 (i j : Int) : binD .sub (.int i) (.int j) = .ok (.int (i - j)) := nr rfl
theorem Q147 (i j : Int) : binD .mul (.int i) (.int j) = gd (mulOk i j) (.int (i * j)) := nr rfl
theorem Q148 (xs ys : List D) : binD .add (.tup xs) (.tup ys) = gd (fits (xs.length + ys.length)) (.tup (xs ++ ys)) := nr rfl
theorem Q149 (xs ys : List D) : binD .add (.lst xs) (.lst ys) = gd (fits (xs.length + ys.length)) (.lst (xs ++ ys)) := nr rfl
theorem Q150 (xs : List D) (j : Int) : binD .rep (.lst xs) (.int j) = gd (decide (j < 2 ^ 40) && decide (-(2 ^ 40) < j) && fits (xs.length * j.toNat)) (.lst (List.replicate j.toNat xs).flatten) := nr rfl
theorem Q151 (i j : Int) : binD .div (.int i) (.int j) = gd (divOk j) (.int (i.fdiv j)) := nr rfl
theorem Q152 (i j : Int) : binD .mod (.int i) (.int j) = gd (!decide (j = 0)) (.int (i.fmod j)) := nr rfl
theorem Q153 (i j : Int) : binD .pow (.int i) (.int j) = gd (powOk i j) (.int (i ^ j.toNat)) := nr rfl
theorem Q154 (i j : Int) : binD .shl (.int i) (.int j) = gd (shlOk i j) (.int (i * 2 ^ j.toNat)) := nr rfl
theorem Q155 (i j : Int) : binD .shr (.int i) (.int j) = gd (decide (0 ≤ j)) (.int (i / 2 ^ j.toNat)) := nr rfl
theorem Q156 (i j : Int) : binD .band (.int i) (.int j) = .ok (.int (Builtin.bitAnd i j)) := nr rfl
theorem Q157 (i j : Int) : binD .bor (.int i) (.int j) = .ok (.int (Builtin.bitOr i j)) := nr rfl
theorem Q158 (i j : Int) : binD .bxor (.int i) (.int j) = .ok (.int (Builtin.bitXor i j)) := nr rfl
theorem Q159 (i j : Int) : augD .add (.int i) (.int j) = .ok (.int (i + j)) := nr rfl
theorem Q160 (i j : Int) : augD .sub (.int i) (.int j) = .ok (.int (i - j)) := nr rfl
theorem c_lt (i j : Int) : cmpD .lt (.int i) (.int j) = .ok (.bl (decide (i < j))) := nr rfl
theorem c_le (i j : Int) : cmpD .le (.int i) (.int j) = .ok (.bl (decide (i ≤ j))) := nr rfl
theorem c_gt (i j : Int) : cmpD .gt (.int i) (.int j) = .ok (.bl (decide (j < i))) := nr rfl
theorem c_ge (i j : Int) : cmpD .ge (.int i) (.int j) = .ok (.bl (decide (j ≤ i))) := nr rfl
theorem c_eq (a b : D) : cmpD .eq a b = gd (plainD 60 a && plainD 60 b) (.bl (eqD a b)) := nr rfl
theorem c_ne (a b : D) : cmpD .ne a b = gd (plainD 60 a && plainD 60 b) (.bl (!eqD a b)) := nr rfl
theorem ofStr_inj {a b : String} : Str.ofString a = Str.ofString b ↔ a = b := by
  refine ⟨fun h => ?_, fun h => by rw [h]⟩
  rw [Str.ofString_eq_toList, Str.ofString_eq_toList] at h
  injection h with h
  have h : a.toList.map Char.toNat = b.toList.map Char.toNat := by injection h
  have inj : ∀ {x y : List Char}, x.map Char.toNat = y.map Char.toNat → x = y := by
    intro x
    induction x with
    | nil =>
      intro y e
      cases y with
      | nil => rfl
      | cons _ _ => cases e
    | cons c x ih =>
      intro y e
      cases y with
      | nil => cases e
      | cons d y =>
        injection e with e1 e2
        rw [ih e2, Char.toNat_inj.1 e1]
  exact String.toList_inj.1 (inj h)
theorem pl_str (n : Nat) {x : Str} (h : PyData.strOk x = true) : plainD n (.str x) = true := by cases n <;> (unfold plainD; exact h)
theorem Q221 {a b : String} (h : PyData.strOk (Str.ofString a) = true) (h2 : PyData.strOk (Str.ofString b) = true) : cmpD .eq (.str (Str.ofString a)) (.str (Str.ofString b)) = .ok (.bl (decide (a = b))) := by
  rw [show cmpD .eq (.str (Str.ofString a)) (.str (Str.ofString b)) = gd (plainD 60 (.str (Str.ofString a)) && plainD 60 (.str (Str.ofString b))) (.bl (eqD (.str (Str.ofString a)) (.str (Str.ofString b)))) from rfl]
  rw [show eqD (.str (Str.ofString a)) (.str (Str.ofString b)) = decide (Str.ofString a = Str.ofString b) by unfold eqD; rfl, pl_str _ h, pl_str _ h2]
  show M.ok (D.bl (decide (Str.ofString a = Str.ofString b))) = _
  by_cases h : a = b
  · rw [decide_eq_true h, decide_eq_true (ofStr_inj.2 h)]
  · rw [decide_eq_false h, decide_eq_false (fun z => h (ofStr_inj.1 z))]
theorem Q222 {a b : String} (h : PyData.strOk (Str.ofString a) = true) (h2 : PyData.strOk (Str.ofString b) = true) : cmpD .ne (.str (Str.ofString a)) (.str (Str.ofString b)) = .ok (.bl (!decide (a = b))) := by
  rw [show cmpD .ne (.str (Str.ofString a)) (.str (Str.ofString b)) = gd (plainD 60 (.str (Str.ofString a)) && plainD 60 (.str (Str.ofString b))) (.bl (!eqD (.str (Str.ofString a)) (.str (Str.ofString b)))) from rfl]
  rw [show eqD (.str (Str.ofString a)) (.str (Str.ofString b)) = decide (Str.ofString a = Str.ofString b) by unfold eqD; rfl, pl_str _ h, pl_str _ h2]
  show M.ok (D.bl (!decide (Str.ofString a = Str.ofString b))) = _
  by_cases h : a = b
  · rw [decide_eq_true h, decide_eq_true (ofStr_inj.2 h)]
  · rw [decide_eq_false h, decide_eq_false (fun z => h (ofStr_inj.1 z))]
theorem Q223 : PyData.strOk (Str.ofString "shut") = true := by decide +kernel
theorem Q224 : PyData.strOk (Str.ofString "anything") = true := by decide +kernel
theorem Q225 : PyData.strOk (Str.ofString "apart") = true := by decide +kernel
theorem Q226 : PyData.strOk (Str.ofString "ask") = true := by decide +kernel
theorem Q227 : PyData.strOk (Str.ofString "both") = true := by decide +kernel
theorem Q228 : PyData.strOk (Str.ofString "box") = true := by decide +kernel
theorem Q229 : PyData.strOk (Str.ofString "came") = true := by decide +kernel
theorem Q230 : PyData.strOk (Str.ofString "close") = true := by decide +kernel
theorem Q231 : PyData.strOk (Str.ofString "crosses") = true := by decide +kernel
theorem Q232 : PyData.strOk (Str.ofString "done") = true := by decide +kernel
theorem Q233 : PyData.strOk (Str.ofString "drift") = true := by decide +kernel
theorem Q234 : PyData.strOk (Str.ofString "either") = true := by decide +kernel
theorem Q235 : PyData.strOk (Str.ofString "every") = true := by decide +kernel
theorem Q236 : PyData.strOk (Str.ofString "far") = true := by decide +kernel
theorem Q237 : PyData.strOk (Str.ofString "fork") = true := by decide +kernel
theorem Q238 : PyData.strOk (Str.ofString "gone") = true := by decide +kernel
theorem Q239 : PyData.strOk (Str.ofString "heard") = true := by decide +kernel
theorem Q240 : PyData.strOk (Str.ofString "hold") = true := by decide +kernel
theorem Q241 : PyData.strOk (Str.ofString "holds") = true := by decide +kernel
theorem Q242 : PyData.strOk (Str.ofString "in") = true := by decide +kernel
theorem Q243 : PyData.strOk (Str.ofString "inside") = true := by decide +kernel
theorem Q244 : PyData.strOk (Str.ofString "insides") = true := by decide +kernel
theorem Q245 : PyData.strOk (Str.ofString "leaf") = true := by decide +kernel
theorem Q246 : PyData.strOk (Str.ofString "made") = true := by decide +kernel
theorem Q247 : PyData.strOk (Str.ofString "marked") = true := by decide +kernel
theorem Q248 : PyData.strOk (Str.ofString "marks") = true := by decide +kernel
theorem Q249 : PyData.strOk (Str.ofString "meet") = true := by decide +kernel
theorem Q250 : PyData.strOk (Str.ofString "meets") = true := by decide +kernel
theorem Q251 : PyData.strOk (Str.ofString "near") = true := by decide +kernel
theorem Q252 : PyData.strOk (Str.ofString "none") = true := by decide +kernel
theorem Q253 : PyData.strOk (Str.ofString "not") = true := by decide +kernel
theorem Q254 : PyData.strOk (Str.ofString "open") = true := by decide +kernel
theorem Q255 : PyData.strOk (Str.ofString "or") = true := by decide +kernel
theorem Q256 : PyData.strOk (Str.ofString "pairs") = true := by decide +kernel
theorem Q257 : PyData.strOk (Str.ofString "put") = true := by decide +kernel
theorem Q258 : PyData.strOk (Str.ofString "read") = true := by decide +kernel
theorem Q259 : PyData.strOk (Str.ofString "refused") = true := by decide +kernel
theorem Q260 : PyData.strOk (Str.ofString "stamp") = true := by decide +kernel
theorem Q261 : PyData.strOk (Str.ofString "take") = true := by decide +kernel
theorem Q262 : PyData.strOk (Str.ofString "told") = true := by decide +kernel
theorem Q263 : PyData.strOk (Str.ofString "touched") = true := by decide +kernel
theorem Q264 : PyData.strOk (Str.ofString "unless") = true := by decide +kernel
theorem Q265 : PyData.strOk (Str.ofString "unwatch") = true := by decide +kernel
theorem Q266 : PyData.strOk (Str.ofString "watch") = true := by decide +kernel
theorem Q267 : PyData.strOk (Str.ofString "went") = true := by decide +kernel
theorem Q268 : PyData.strOk (Str.ofString "whole") = true := by decide +kernel
theorem Q269 : PyData.strOk (Str.ofString "worth") = true := by decide +kernel
theorem Q270 : PyData.strOk (Str.ofString "worthy") = true := by decide +kernel
theorem Q271 : PyData.strOk (Str.ofString "any") = true := by decide +kernel
theorem Q272 : PyData.strOk (Str.ofString "of") = true := by decide +kernel
theorem Q273 : PyData.strOk (Str.ofString "at") = true := by decide +kernel
theorem Q274 : PyData.strOk (Str.ofString "count") = true := by decide +kernel
theorem Q275 : PyData.strOk (Str.ofString "move") = true := by decide +kernel
theorem Q276 : PyData.strOk (Str.ofString "load") = true := by decide +kernel
theorem Q161 (i j : Int) : cmpD .eq (.int i) (.int j) = .ok (.bl (decide (i = j))) := nr rfl
theorem Q162 (i j : Int) : cmpD .ne (.int i) (.int j) = .ok (.bl (!decide (i = j))) := nr rfl
theorem Q163 (i j : Bool) : cmpD .eq (.bl i) (.bl j) = .ok (.bl (i == j)) := nr (by cases i <;> cases j <;> rfl)
theorem Q164 (i j : Bool) : cmpD .ne (.bl i) (.bl j) = .ok (.bl (!(i == j))) := nr (by cases i <;> cases j <;> rfl)
theorem Q165 (a : D) : cmpD .isn a .non = .ok (.bl (isNon a)) := by cases a <;> rfl
theorem Q166 (a : D) : cmpD .nisn a .non = .ok (.bl (!isNon a)) := by cases a <;> rfl
theorem Q167 (a b : Bool) : cmpD .isb (.bl a) (.bl b) = .ok (.bl (decide (a = b))) := nr rfl
theorem Q168 (a b : Bool) : cmpD .nisb (.bl a) (.bl b) = .ok (.bl (!decide (a = b))) := nr rfl
theorem Q182 : isNon .non = true := nr rfl
theorem Q183 (i : Int) : isNon (.int i) = false := nr rfl
theorem Q184 (i : List D) : isNon (.tup i) = false := nr rfl
theorem Q185 (i : List D) : isNon (.lst i) = false := nr rfl
def idxO {α : Type} (o : Option α) : M α := match o with
  | some d => .ok d
  | none => .no
theorem Q186 (xs : List D) (i : Int) : idxD (.tup xs) (.int i) = idxO (L2.atI xs i) := by
  show (match L2.atI xs i with | some d => M.ok d | none => M.no) = _
  cases L2.atI xs i <;> rfl
theorem Q187 (xs : List D) (i : Int) : idxD (.lst xs) (.int i) = idxO (L2.atI xs i) := by
  show (match L2.atI xs i with | some d => M.ok d | none => M.no) = _
  cases L2.atI xs i <;> rfl
theorem Q188 {α : Type} (d : α) : idxO (some d) = .ok d := nr rfl
theorem at_0 {α : Type} (x : α) (xs : List α) : L2.atI (x :: xs) 0 = some x := by
  unfold L2.atI L2.ixN
  rw [if_pos (by omega), if_pos (by simp only [List.length_cons]; omega)]
  rfl
theorem at_nat {α : Type} {xs : List α} {i : Nat} {x : α} (h : xs[i]? = some x) : L2.atI xs (i : Int) = some x := by
  have hi : i < xs.length := by
    by_cases z : i < xs.length
    · exact z
    · rw [List.getElem?_eq_none (by omega)] at h; cases h
  unfold L2.atI L2.ixN
  rw [if_pos (by omega), if_pos (by omega)]
  show xs[(i : Int).toNat]? = _
  rw [Int.toNat_natCast]; exact h
theorem at_1 {α : Type} (x y : α) (xs : List α) : L2.atI (x :: y :: xs) 1 = some y := at_nat (i := 1) rfl
theorem at_2 {α : Type} (x y z : α) (xs : List α) : L2.atI (x :: y :: z :: xs) 2 = some z := at_nat (i := 2) rfl
theorem at_3 {α : Type} (x y z w : α) (xs : List α) : L2.atI (x :: y :: z :: w :: xs) 3 = some w := at_nat (i := 3) rfl
theorem at_4 {α : Type} (a x y z w : α) (xs : List α) : L2.atI (a :: x :: y :: z :: w :: xs) 4 = some w := at_nat (i := 4) rfl
theorem at_5 {α : Type} (b a x y z w : α) (xs : List α) : L2.atI (b :: a :: x :: y :: z :: w :: xs) 5 = some w := at_nat (i := 5) rfl
theorem at_6 {α : Type} (c b a x y z w : α) (xs : List α) : L2.atI (c :: b :: a :: x :: y :: z :: w :: xs) 6 = some w := at_nat (i := 6) rfl
theorem at_7 {α : Type} (d c b a x y z w : α) (xs : List α) : L2.atI (d :: c :: b :: a :: x :: y :: z :: w :: xs) 7 = some w := at_nat (i := 7) rfl
theorem at_map {α β : Type} (f : α → β) (xs : List α) (i : Int) : L2.atI (xs.map f) i = (L2.atI xs i).map f := by
  unfold L2.atI
  rw [List.length_map]
  cases L2.ixN xs.length i with
  | none => rfl
  | some j => show (xs.map f)[j]? = (xs[j]?).map f; rw [List.getElem?_map]
theorem at_lt {α : Type} {xs : List α} {i : Int} (h0 : 0 ≤ i) (h1 : i < xs.length) : L2.atI xs i = xs[i.toNat]? := by
  unfold L2.atI L2.ixN
  rw [if_pos h0, if_pos h1]; rfl
theorem at_last {α : Type} (xs : List α) (x : α) : L2.atI (xs ++ [x]) (-1) = some x := by
  unfold L2.atI L2.ixN
  rw [if_neg (by omega), if_pos (by simp only [List.length_append, List.length_cons, List.length_nil]; omega)]
  show (xs ++ [x])[_]? = _
  have : ((-1 : Int) + ((xs ++ [x]).length : Nat)).toNat = xs.length := by simp only [List.length_append, List.length_cons, List.length_nil]; omega
  rw [this]; simp
theorem Q189 (xs : List D) : biD .len [.tup xs] = .ok (.int (xs.length : Nat)) := nr rfl
theorem Q190 (xs : List D) : biD .len [.lst xs] = .ok (.int (xs.length : Nat)) := nr rfl
theorem min_eq' (i j : Int) : (if j < i then j else i) = min i j := by omega
theorem max_eq' (i j : Int) : (if j > i then j else i) = max i j := by omega
theorem Q191 (i j : Int) : biD .min2 [.int i, .int j] = .ok (.int (min i j)) := by rw [← min_eq']; rfl
theorem Q192 (i j : Int) : biD .max2 [.int i, .int j] = .ok (.int (max i j)) := by rw [← max_eq']; rfl
theorem Q193 (a b c : Int) : biD .max3 [.int a, .int b, .int c] = .ok (.int (max (max a b) c)) := by
  show M.ok (D.int (if b > a then (if c > b then c else b) else (if c > a then c else a))) = _
  congr 2; omega
theorem Q194 (a b c : Int) : biD .min3 [.int a, .int b, .int c] = .ok (.int (min (min a b) c)) := by
  show M.ok (D.int (if b < a then (if c < b then c else b) else (if c < a then c else a))) = _
  congr 2; omega
theorem intsOf_map : ∀ ns : List Int, intsOf (ns.map D.int) = some ns
  | [] => rfl
  | n :: ns => by rw [List.map_cons, intsOf, intsOf_map ns]
theorem intsOf_mapf {α : Type} (f : α → Int) (l : List α) : intsOf (l.map fun x => D.int (f x)) = some (l.map f) := by
  rw [← intsOf_map, List.map_map]; rfl
theorem blsOf_mapf {α : Type} (f : α → Bool) : ∀ l : List α, blsOf (l.map fun x => D.bl (f x)) = some (l.map f)
  | [] => rfl
  | n :: ns => by rw [List.map_cons, blsOf, blsOf_mapf f ns]; rfl
theorem i_sum {xs : List D} {ns : List Int} (h : intsOf xs = some ns) : biD .sum [.lst xs] = .ok (.int ns.sum) := by
  show (match intsOf xs with | some ns => M.ok (D.int ns.sum) | none => .no) = _
  rw [h]
theorem Q196 (l : List Int) : biD .sum [.lst (l.map D.int)] = .ok (.int l.sum) := i_sum (intsOf_map l)
theorem i_sumf {α : Type} (f : α → Int) (l : List α) : biD .sum [.lst (l.map fun x => D.int (f x))] = .ok (.int (l.map f).sum) := i_sum (intsOf_mapf f l)
theorem Q195 (i : Int) : biD .abs [.int i] = .ok (.int (i.natAbs : Int)) := by
  show M.ok (D.int (if i < 0 then -i else i)) = _
  congr 2; omega
theorem Q199 (xs : List D) : biD .tup [.tup xs] = .ok (.tup xs) := nr rfl
theorem Q200 (xs : List D) : biD .tup [.lst xs] = .ok (.tup xs) := nr rfl
theorem Q201 (xs : List D) : biD .lst [.tup xs] = .ok (.lst xs) := nr rfl
theorem Q202 (xs : List D) : biD .lst [.lst xs] = .ok (.lst xs) := nr rfl
theorem Q203 (i : Int) : biD .int [.int i] = .ok (.int i) := nr rfl
theorem Q204 (b : Bool) : biD .int [.bl b] = .ok (.int (if b = true then 1 else 0)) := by cases b <;> rfl
theorem i_sor {xs : List D} {ns : List Int} (h : intsOf xs = some ns) : biD .sor [.lst xs] = .ok (.lst ((sortI ns).map D.int)) := by
  show (match intsOf xs with | some ns => M.ok (D.lst ((sortI ns).map D.int)) | none => match rowsOf xs with | some nss => M.ok (D.lst ((sortT nss).map rowD)) | none => match headsOf xs with | some ks => gd (decide ks.Nodup) (D.lst ((sortI ks).map (pickH xs))) | none => .no) = _
  rw [h]
theorem rowsOf_map : ∀ {nss : List (List Int)}, (∀ ns ∈ nss, ns ≠ []) → rowsOf (nss.map rowD) = some nss
  | [], _ => rfl
  | [] :: nss, h => absurd rfl (h [] List.mem_cons_self)
  | (n :: ns) :: nss, h => by
    rw [List.map_cons]
    show (match intsOf (D.int n :: ns.map D.int), rowsOf (nss.map rowD) with | some ns, some l => some (ns :: l) | _, _ => none) = _
    rw [rowsOf_map fun z hz => h z (List.mem_cons_of_mem _ hz)]
    have := intsOf_map (n :: ns)
    rw [List.map_cons] at this
    rw [this]
theorem i_sorT {nss : List (List Int)} (h : ∀ ns ∈ nss, ns ≠ []) : biD .sor [.lst (nss.map rowD)] = .ok (.lst ((sortT nss).map rowD)) := by
  cases nss with
  | nil => rfl
  | cons ns r =>
    show (match intsOf ((ns :: r).map rowD) with | some ns => M.ok (D.lst ((sortI ns).map D.int)) | none => match rowsOf ((ns :: r).map rowD) with | some nss => M.ok (D.lst ((sortT nss).map rowD)) | none => match headsOf ((ns :: r).map rowD) with | some ks => gd (decide ks.Nodup) (D.lst ((sortI ks).map (pickH ((ns :: r).map rowD)))) | none => .no) = _
    rw [rowsOf_map h]
    rfl
theorem i_sorH {xs : List D} {ks : List Int} (h1 : intsOf xs = none) (h2 : rowsOf xs = none) (h3 : headsOf xs = some ks) (nd : ks.Nodup) : biD .sor [.lst xs] = .ok (.lst ((sortI ks).map (pickH xs))) := by
  show (match intsOf xs with | some ns => M.ok (D.lst ((sortI ns).map D.int)) | none => match rowsOf xs with | some nss => M.ok (D.lst ((sortT nss).map rowD)) | none => match headsOf xs with | some ks => gd (decide ks.Nodup) (D.lst ((sortI ks).map (pickH xs))) | none => .no) = _
  rw [h1]
  show (match rowsOf xs with | some nss => M.ok (D.lst ((sortT nss).map rowD)) | none => match headsOf xs with | some ks => gd (decide ks.Nodup) (D.lst ((sortI ks).map (pickH xs))) | none => .no) = _
  rw [h2]
  show (match headsOf xs with | some ks => gd (decide ks.Nodup) (D.lst ((sortI ks).map (pickH xs))) | none => .no) = _
  rw [h3]
  show gd (decide ks.Nodup) _ = _
  rw [decide_eq_true nd, Q4]
theorem Q198 (l : List Int) : biD .sor [.tup (l.map D.int)] = .ok (.lst ((sortI l).map D.int)) := by
  show (match intsOf (l.map D.int) with | some ns => M.ok (D.lst ((sortI ns).map D.int)) | none => .no) = _
  rw [intsOf_map]
theorem Q68 (l : Bool) (xs : List D) : rvsD l (.lst xs) = .ok (.lst xs.reverse) := nr rfl
theorem Q69 (xs : List D) : rvsD false (.tup xs) = .ok (.tup xs.reverse) := nr rfl
theorem Q197 (l : List Int) : biD .sor [.lst (l.map D.int)] = .ok (.lst ((sortI l).map D.int)) := i_sor (intsOf_map l)
theorem Q205 (i : Int) : tyD .int (.int i) = true := nr rfl
theorem Q206 (i : Bool) : tyD .int (.bl i) = true := nr rfl
theorem Q207 (i : Int) : tyD .bl (.int i) = false := nr rfl
theorem Q208 (i : Bool) : tyD .bl (.bl i) = true := nr rfl
theorem Q209 (i : List D) : tyD .tup (.tup i) = true := nr rfl
theorem Q210 (i : Int) : tyD .tup (.int i) = false := nr rfl
theorem Q211 (i : Int) : noIns (.int i) = true := nr rfl
theorem Q212 (i : Bool) : noIns (.bl i) = true := nr rfl
theorem Q213 (i : List D) : noIns (.tup i) = true := nr rfl
theorem Q214 (i : List D) : noIns (.lst i) = true := nr rfl
theorem Q215 : noIns .non = true := nr rfl
theorem Q216 (s : Str) : noIns (.str s) = true := nr rfl
theorem Q217 (xs : List D) : seqOf (.tup xs) = some xs := nr rfl
theorem Q218 (xs : List D) : seqOf (.lst xs) = some xs := nr rfl
theorem rgD_eq : ∀ (n : Nat) (a : Int), rgD a n = (List.range n).map fun k : Nat => D.int (a + (k : Int))
  | 0, a => rfl
  | n + 1, a => by
    rw [rgD, rgD_eq n, List.range_succ_eq_map, List.map_cons, List.map_map]
    congr 1
    · simp
    · apply List.map_congr_left
      intro k _
      simp only [Function.comp_apply, Nat.succ_eq_add_one, Int.natCast_add]
      congr 1; omega
theorem rgS_eq (c : Int) : ∀ (n : Nat) (a : Int), rgS a c n = (List.range n).map fun k : Nat => D.int (a + (k : Int) * c)
  | 0, a => rfl
  | n + 1, a => by
    rw [rgS, rgS_eq c n, List.range_succ_eq_map, List.map_cons, List.map_map]
    congr 1
    · simp
    · apply List.map_congr_left
      intro k _
      simp only [Function.comp_apply, Nat.succ_eq_add_one, Int.natCast_add, Int.add_mul]
      congr 1; omega
theorem Q219 (xs : List D) : itD .seq [.tup xs] = .ok xs := nr rfl
theorem Q220 (xs : List D) : itD .seq [.lst xs] = .ok xs := nr rfl
theorem rgOk_of {a b : Int} (h1 : -(2 ^ 62) ≤ a) (h2 : a < 2 ^ 62) (h3 : -(2 ^ 62) ≤ b) (h4 : b < 2 ^ 62) : rgOk a b = true := by
  unfold rgOk; simp only [Bool.and_eq_true, decide_eq_true_eq]; omega
theorem it_rng1 {j : Int} (h : -(2 ^ 62) ≤ j ∧ j < 2 ^ 62) : itD .rng1 [.int j] = .ok ((List.range j.toNat).map fun k : Nat => D.int (k : Int)) := by
  show gd (rgOk 0 j) (rgD 0 j.toNat) = _
  rw [rgOk_of (by omega) (by omega) h.1 h.2, Q4, rgD_eq]
  congr 2; funext k; rw [Int.zero_add]
theorem it_rng1n {n : Nat} (h : n < 2 ^ 62) : itD .rng1 [.int (n : Int)] = .ok ((List.range n).map fun k : Nat => D.int (k : Int)) := by
  rw [it_rng1 ⟨by omega, by omega⟩, Int.toNat_natCast]
theorem it_rng2 {i j : Int} (h : -(2 ^ 62) ≤ i ∧ i < 2 ^ 62) (h' : -(2 ^ 62) ≤ j ∧ j < 2 ^ 62) : itD .rng2 [.int i, .int j] = .ok ((List.range (j - i).toNat).map fun k : Nat => D.int (i + (k : Int))) := by
  show M.ok (rgD i (j - i).toNat) = _
  rw [rgD_eq]
theorem it_rngB (i j : Int) : itD .rng2 [.int i, .int j] = .ok ((List.range (j - i).toNat).map fun k : Nat => D.int (i + (k : Int))) := by
  show M.ok (rgD i (j - i).toNat) = _
  rw [rgD_eq]
theorem it_rng3 {i j c : Int} (h : -(2 ^ 62) ≤ i ∧ i < 2 ^ 62) (h' : -(2 ^ 62) ≤ j ∧ j < 2 ^ 62) (hc : 0 < c ∧ c < 1073741824) : itD .rng3 [.int i, .int j, .int c] = .ok ((List.range (rgN i j c)).map fun k : Nat => D.int (i + (k : Int) * c)) := by
  show gd (rgOk i j && decide (0 < c) && decide (c < 1073741824)) _ = _
  rw [rgOk_of h.1 h.2 h'.1 h'.2, decide_eq_true hc.1, decide_eq_true hc.2]
  show M.ok _ = _
  rw [rgS_eq]
theorem it_rvr1 {j : Int} (h : -(2 ^ 62) ≤ j ∧ j < 2 ^ 62) : itD .rvr1 [.int j] = .ok ((List.range j.toNat).reverse.map fun k : Nat => D.int (k : Int)) := by
  show gd (rgOk 0 j) (rgD 0 j.toNat).reverse = _
  rw [rgOk_of (by omega) (by omega) h.1 h.2, Q4, rgD_eq, ← List.map_reverse]
  congr 2; funext k; rw [Int.zero_add]
theorem it_rvr2 {i j : Int} (h : -(2 ^ 62) ≤ i ∧ i < 2 ^ 62) (h' : -(2 ^ 62) ≤ j ∧ j < 2 ^ 62) : itD .rvr2 [.int i, .int j] = .ok ((List.range (j - i).toNat).reverse.map fun k : Nat => D.int (i + (k : Int))) := by
  show gd (rgOk i j) (rgD i (j - i).toNat).reverse = _
  rw [rgOk_of h.1 h.2 h'.1 h'.2, Q4, rgD_eq, ← List.map_reverse]
theorem it_zipT {α β : Type} (f : α → D) (g : β → D) (xs : List α) (ys : List β) : itD .zip [.tup (xs.map f), .tup (ys.map g)] = .ok ((xs.zip ys).map fun p => .tup [f p.1, g p.2]) := by
  show M.ok (((xs.map f).zip (ys.map g)).map fun p => D.tup [p.1, p.2]) = _
  rw [List.zip_map, List.map_map]; rfl
theorem it_zipLT {α β : Type} (f : α → D) (g : β → D) (xs : List α) (ys : List β) : itD .zip [.lst (xs.map f), .tup (ys.map g)] = .ok ((xs.zip ys).map fun p => .tup [f p.1, g p.2]) := by
  show M.ok (((xs.map f).zip (ys.map g)).map fun p => D.tup [p.1, p.2]) = _
  rw [List.zip_map, List.map_map]; rfl
theorem it_zipTL {α β : Type} (f : α → D) (g : β → D) (xs : List α) (ys : List β) : itD .zip [.tup (xs.map f), .lst (ys.map g)] = .ok ((xs.zip ys).map fun p => .tup [f p.1, g p.2]) := by
  show M.ok (((xs.map f).zip (ys.map g)).map fun p => D.tup [p.1, p.2]) = _
  rw [List.zip_map, List.map_map]; rfl
theorem it_zipL {α β : Type} (f : α → D) (g : β → D) (xs : List α) (ys : List β) : itD .zip [.lst (xs.map f), .lst (ys.map g)] = .ok ((xs.zip ys).map fun p => .tup [f p.1, g p.2]) := by
  show M.ok (((xs.map f).zip (ys.map g)).map fun p => D.tup [p.1, p.2]) = _
  rw [List.zip_map, List.map_map]; rfl
theorem it_enm {α : Type} (f : α → D) (xs : List α) : itD .enm [.lst (xs.map f)] = .ok (xs.zipIdx.map fun p => .tup [.int (p.2 : Nat), f p.1]) := by
  show M.ok (((xs.map f).zip (rgD 0 (xs.map f).length)).map fun p => D.tup [p.2, p.1]) = _
  rw [rgD_eq, List.zip_map, List.map_map, List.length_map, List.zipIdx_eq_zip_range', ← List.range_eq_range']
  congr 1
  apply List.map_congr_left
  intro p _
  simp [Prod.map]
theorem it_revL {α : Type} (f : α → D) (xs : List α) : itD .rev [.lst (xs.map f)] = .ok (xs.reverse.map f) := by
  show M.ok (xs.map f).reverse = _
  rw [List.map_reverse]
theorem it_revT {α : Type} (f : α → D) (xs : List α) : itD .rev [.tup (xs.map f)] = .ok (xs.reverse.map f) := by
  show M.ok (xs.map f).reverse = _
  rw [List.map_reverse]
theorem fits_of {n : Nat} (h : n ≤ 1000000) : fits n = true := decide_eq_true (Nat.le_trans h (by decide))
theorem dec_size {n : Nat} (h : n < 1000000) : decide (n < sizeLine) = true := decide_eq_true (Nat.lt_of_lt_of_le h (by decide))
theorem mul_ok1 {i j : Int} (h : i.natAbs < 2 ^ 64) : mulOk i j = true := by unfold mulOk; rw [decide_eq_true h]; simp
theorem mul_ok2 {i j : Int} (h : j.natAbs < 2 ^ 64) : mulOk i j = true := by unfold mulOk; rw [decide_eq_true h]; simp
theorem mul_ok3 {i j : Int} (h : i.natAbs < mulB) (h' : j.natAbs < mulB) : mulOk i j = true := by unfold mulOk; rw [decide_eq_true h, decide_eq_true h']; simp
theorem slc_T {α : Type} (f : α → D) (xs : List α) (lo hi : Option Int) : slcD (.tup (xs.map f)) lo hi = .ok (.tup (((xs.drop (HT.sIx xs.length 0 lo)).take (HT.sIx xs.length xs.length hi - HT.sIx xs.length 0 lo)).map f)) := by
  show M.ok (D.tup (cutD _ _ _)) = _
  unfold cutD
  rw [List.length_map, List.map_take, List.map_drop]
theorem slc_L {α : Type} (f : α → D) (xs : List α) (lo hi : Option Int) : slcD (.lst (xs.map f)) lo hi = .ok (.lst (((xs.drop (HT.sIx xs.length 0 lo)).take (HT.sIx xs.length xs.length hi - HT.sIx xs.length 0 lo)).map f)) := by
  show M.ok (D.lst (cutD _ _ _)) = _
  unfold cutD
  rw [List.length_map, List.map_take, List.map_drop]
theorem sIx_int (n d : Nat) {i : Int} (h : 0 ≤ i) : HT.sIx n d (some i) = min i.toNat n := by
  show (if i < 0 then _ else _) = _
  rw [if_neg (by omega)]
theorem Q181 {i j : Int} (h : 0 ≤ j) : i.fdiv j = i / j := Int.fdiv_eq_ediv_of_nonneg _ h
theorem Q180 {i j : Int} (h : 0 ≤ j) : i.fmod j = i % j := Int.fmod_eq_emod_of_nonneg _ h
theorem map_int_comp {α : Type} (f : α → Int) (l : List α) : (l.map fun x => D.int (f x)) = (l.map f).map D.int := by rw [List.map_map]; rfl
theorem Q169 (i j : Int) : eqD (.int i) (.int j) = decide (i = j) := rfl
theorem Q170 (xs ys : List D) : eqD (.tup xs) (.tup ys) = eqDs xs ys := nr (by unfold eqD; rfl)
theorem Q171 (xs ys : List D) : eqD (.lst xs) (.lst ys) = eqDs xs ys := nr (by unfold eqD; rfl)
theorem Q172 : eqDs [] [] = true := nr (by unfold eqDs; rfl)
theorem Q173 (x y : D) (xs ys : List D) : eqDs (x :: xs) (y :: ys) = (eqD x y && eqDs xs ys) := nr (by rw [eqDs])
mutual
theorem eqD_rfl : ∀ (n : Nat) (a : D), plainD n a = true → eqD a a = true
  | _, .non, _ => rfl
  | _, .bl b, _ => by cases b <;> rfl
  | _, .int i, _ => by rw [Q169]; exact decide_eq_true rfl
  | _, .str x, _ => by unfold eqD; exact beq_self_eq_true x
  | 0, .tup xs, h => by simp only [plainD, Bool.false_eq_true] at h
  | 0, .lst xs, h => by simp only [plainD, Bool.false_eq_true] at h
  | n + 1, .tup xs, h => by rw [Q170]; exact eqDs_rfl n xs (by simpa only [plainD] using h)
  | n + 1, .lst xs, h => by rw [Q171]; exact eqDs_rfl n xs (by simpa only [plainD] using h)
  | 0, .ins _ _, h => by simp only [plainD, Bool.false_eq_true] at h
  | n + 1, .ins _ _, h => by simp only [plainD, Bool.false_eq_true] at h
  | 0, .dcK _ _, h => by simp only [plainD, Bool.false_eq_true] at h
  | n + 1, .dcK _ _, h => by simp only [plainD, Bool.false_eq_true] at h
  | 0, .dcT _ _, h => by simp only [plainD, Bool.false_eq_true] at h
  | n + 1, .dcT _ _, h => by simp only [plainD, Bool.false_eq_true] at h
theorem eqDs_rfl : ∀ (n : Nat) (xs : List D), xs.all (plainD n) = true → eqDs xs xs = true
  | _, [], _ => Q172
  | n, x :: xs, h => by
    rw [List.all_cons, Bool.and_eq_true] at h
    rw [Q173, eqD_rfl n x h.1, eqDs_rfl n xs h.2]; rfl
end
theorem Q174 (n : Nat) (i : Int) : plainD n (.int i) = true := nr (by cases n <;> rfl)
theorem Q175 (n : Nat) : plainD n .non = true := nr (by cases n <;> rfl)
theorem Q176 (n : Nat) (b : Bool) : plainD n (.bl b) = true := nr (by cases n <;> rfl)
theorem Q177 (n : Nat) (xs : List D) : plainD (n + 1) (.tup xs) = xs.all (plainD n) := nr (by rw [plainD])
theorem Q178 (n : Nat) (xs : List D) : plainD (n + 1) (.lst xs) = xs.all (plainD n) := nr (by rw [plainD])
theorem Q179 (n : Nat) (l : List Int) : (l.map D.int).all (plainD n) = true := by
  rw [List.all_map, List.all_eq_true]; intro x _; exact Q174 n x
/-! ### dicts -/
theorem Q29 : dNew true = .dcT [] [] := nr rfl
theorem Q30 : dNew false = .dcK [] [] := nr rfl
theorem getK_mem {κ : Type} [DecidableEq κ] (k : κ) : ∀ {ks : List κ} {vs : List D}, vs.length = ks.length → (getK ks vs k).isSome = decide (k ∈ ks)
  | [], [], _ => rfl
  | [], _ :: _, h => by simp at h
  | _ :: _, [], h => by simp at h
  | k' :: ks, v :: vs, h => by
    unfold getK
    by_cases e : k' = k
    · rw [if_pos e]; simp [e]
    · rw [if_neg e, getK_mem k (by simpa using h)]
      simp [Ne.symm e]
theorem Q31 {i : Int} {ks : List L2.Key} {vs : List D} : cmpD .inn (.int i) (.dcK ks vs) = .ok (.bl (getK ks vs (.inl i)).isSome) := nr rfl
theorem Q32 {i : Int} {ks : List L2.Key} {vs : List D} : cmpD .nin (.int i) (.dcK ks vs) = .ok (.bl (!(getK ks vs (.inl i)).isSome)) := nr rfl
theorem dput_K {i : Int} {ks : List L2.Key} {vs : List D} {d : D} : dputD (.dcK ks vs) (.int i) d = gd (decide (ks.length < PySem.sizeLine)) (.dcK (putKs ks (.inl i)) (putVs ks vs (.inl i) d)) := nr rfl
theorem keysOf_nil : keysOf [] = some [] := nr rfl
theorem keysOf_int {i : Int} {r : List D} {l : List L2.Key} (h : keysOf r = some l) : keysOf (.int i :: r) = some (.inl i :: l) := by
  unfold keysOf; rw [h]; rfl
theorem putKs_new {κ : Type} [DecidableEq κ] {ks : List κ} {k : κ} (h : k ∉ ks) : putKs ks k = ks ++ [k] := if_neg h
theorem putVs_new {κ : Type} [DecidableEq κ] {ks : List κ} {k : κ} {vs : List D} {d : D} (h : k ∉ ks) : putVs ks vs k d = vs ++ [d] := if_neg h
/-! ### written numbers -/
theorem dvL {j : Int} (h0 : 0 < j) (h : j < 10000000000000000000000000000000000000000000000000000000000000000000000000000000000000000) : divOk j = true := by
  unfold divOk
  rw [Bool.and_eq_true]
  refine ⟨?_, decide_eq_true (Nat.lt_of_lt_of_le (show j.natAbs < 10000000000000000000000000000000000000000000000000000000000000000000000000000000000000000 by omega) (by unfold mulB; decide))⟩
  rw [decide_eq_false (by omega)]; rfl
theorem mlL {i : Int} (j : Int) (h0 : 0 ≤ i) (h : i < 18446744073709551616) : mulOk i j = true := mul_ok1 (by omega)
theorem mlR {j : Int} (i : Int) (h0 : 0 ≤ j) (h : j < 18446744073709551616) : mulOk i j = true := mul_ok2 (by omega)
theorem pwL {i j : Int} (h0 : 0 ≤ i) (h : i < 18446744073709551616) (h1 : 0 ≤ j) (h2 : j < 1000000) : powOk i j = true := by
  unfold powOk
  simp only [Bool.and_eq_true, Bool.or_eq_true, decide_eq_true_eq]
  exact ⟨by omega, .inl ⟨by omega, by omega⟩⟩
theorem it_enmT {α : Type} (f : α → D) (xs : List α) : itD .enm [.tup (xs.map f)] = .ok (xs.zipIdx.map fun p => .tup [.int (p.2 : Nat), f p.1]) := it_enm f xs
end Dw

/-! ### the defs -/
namespace Dw
def n_drifting : Nat := 37
def n_frame_at : Nat := 38
def n_whole_within : Nat := 105
def n_fine_box : Nat := 106
def n_fine_speeds : Nat := 107
def n_thing_box : Nat := 108
def n_thing_told : Nat := 109
def n_law_stir : Nat := 110
def n_law_next : Nat := 111
def n_law_same : Nat := 112
def n_law_number_by : Nat := 113
def n_law_parts_by : Nat := 114
def n_law_due : Nat := 115
def n_make_thing : Nat := 440
def n_law_made : Nat := 820
def n_law_36 : Nat := 821
-- drifting(box, speeds); slots 0:box 1:speeds 2:side 3:speed
def b_drifting : List Sx := [.ret (.bi .tup [(.comp (.tup [(.idx (.var 2) (.con (.int 0))), (.idx (.var 2) (.con (.int 1))), (.var 3), (.var 3)]) [2, 3] .zip [(.var 0), (.var 1)] none)])]
def d_drifting : Df := ⟨4, false, b_drifting⟩
-- frame_at(frame, beat); slots 0:frame 1:beat 2:side
def b_frame_at : List Sx := [.ret (.bi .tup [(.comp (.tup [(.bin .add (.idx (.var 2) (.con (.int 0))) (.bin .mul (.idx (.var 2) (.con (.int 2))) (.var 1))), (.bin .add (.idx (.var 2) (.con (.int 1))) (.bin .mul (.idx (.var 2) (.con (.int 3))) (.var 1)))]) [2] .seq [(.var 0)] none)])]
def d_frame_at : Df := ⟨3, false, b_frame_at⟩
-- whole_within(value, low, high); slots 0:value 1:low 2:high
def b_whole_within : List Sx := [.ite (.or (.nt (.isi (.var 0) .int)) (.isi (.var 0) .bl)) [.ret (.con (.bl false))] [],
    .ret (.chain .le .le (.var 1) (.var 0) (.var 2))]
def d_whole_within : Df := ⟨3, false, b_whole_within⟩
-- fine_box(box); slots 0:box 1:side
def b_fine_box : List Sx := [.ite (.or (.nt (.isi (.var 0) .tup)) (.or (.cmp .lt (.bi .len [(.var 0)]) (.con (.int 2))) (.cmp .gt (.bi .len [(.var 0)]) (.con (.int 3))))) [.ret (.con (.bl false))] [],
    .for_ [1] .seq [(.var 0)] [.ite (.or (.nt (.isi (.var 1) .tup)) (.cmp .ne (.bi .len [(.var 1)]) (.con (.int 2)))) [.ret (.con (.bl false))] [], .ite (.or (.nt (.call n_whole_within [(.idx (.var 1) (.con (.int 0))), (.neg (.glb (.int 1000000000000000000000000000000))), (.glb (.int 1000000000000000000000000000000))] [])) (.nt (.call n_whole_within [(.idx (.var 1) (.con (.int 1))), (.idx (.var 1) (.con (.int 0))), (.glb (.int 1000000000000000000000000000000))] []))) [.ret (.con (.bl false))] [.del [1]]],
    .ret (.con (.bl true))]
def d_fine_box : Df := ⟨2, false, b_fine_box⟩
-- fine_speeds(speeds, sides); slots 0:speeds 1:sides 2:speed
def b_fine_speeds : List Sx := [.ite (.or (.nt (.isi (.var 0) .tup)) (.cmp .ne (.bi .len [(.var 0)]) (.var 1))) [.ret (.con (.bl false))] [.del [1]],
    .for_ [2] .seq [(.var 0)] [.ite (.nt (.call n_whole_within [(.var 2), (.neg (.glb (.int 1000000000000000))), (.glb (.int 1000000000000000))] [])) [.ret (.con (.bl false))] [.del [2]]],
    .ret (.con (.bl true))]
def d_fine_speeds : Df := ⟨3, false, b_fine_speeds⟩
-- thing_box(thing, beat); slots 0:thing 1:beat
def b_thing_box : List Sx := [.ret (.call n_frame_at [(.idx (.var 0) (.con (.int 1))), (.var 1)] [])]
def d_thing_box : Df := ⟨2, false, b_thing_box⟩
-- thing_told(thing); slots 0:thing 1:swath 2:marks 3:worth
def b_thing_told : List Sx := [.asg 1 (.idx (.var 0) (.con (.int 1))),
    .asg 2 (.idx (.var 0) (.con (.int 2))),
    .asg 3 (.idx (.var 0) (.con (.int 3))),
    .ret (.tup [(.var 1), (.var 1), (.var 2), (.var 2), (.con (.int 1)), (.var 3), (.var 3), (.var 3)])]
def d_thing_told : Df := ⟨4, false, b_thing_told⟩
-- _law_stir(cell); slots 0:cell
def b_law_stir : List Sx := [.retR (.bin .mod (.bin .mul (.var 0) (.con (.int 105172331949523456789012345678901234567))) (.con (.int 170141183460469231731687303715884105727)))]
def d_law_stir : Df := ⟨1, true, b_law_stir⟩
-- _law_next(left); slots 0:left
def b_law_next : List Sx := [.retR (.bin .mod (.bin .mul (.var 0) (.con (.int 83492791123456789012345678901234567891))) (.con (.int 170141183460469231731687303715884105727)))]
def d_law_next : Df := ⟨1, true, b_law_next⟩
-- _law_same(found, due); slots 0:found 1:due 2:k
def b_law_same : List Sx := [.ite (.isi (.var 1) .tup) [.ite (.or (.nt (.isi (.var 0) .tup)) (.cmp .ne (.bi .len [(.var 0)]) (.bi .len [(.var 1)]))) [.ret (.con (.bl false))] [], .for_ [2] .rng1 [(.bi .len [(.var 1)])] [.ite (.nt (.call n_law_same [(.idx (.var 0) (.var 2)), (.idx (.var 1) (.var 2))] [])) [.ret (.con (.bl false))] [.del [2]]], .ret (.con (.bl true))] [],
    .ite (.cmp .isn (.var 1) (.con .non)) [.ret (.cmp .isn (.var 0) (.con .non))] [],
    .ite (.isi (.var 1) .str) [.ret (.and (.isi (.var 0) .str) (.cmp .eq (.var 0) (.var 1)))] [],
    .ite (.or (.nt (.isi (.var 0) .int)) (.cmp .ne (.isi (.var 0) .bl) (.isi (.var 1) .bl))) [.ret (.con (.bl false))] [],
    .ret (.cmp .eq (.var 0) (.var 1))]
def d_law_same : Df := ⟨3, false, b_law_same⟩
-- _law_number_by(left, cell, bound); slots 0:left 1:cell 2:bound
def b_law_number_by : List Sx := [.ite (.cmp .eq (.bin .mod (.var 0) (.con (.int 4))) (.con (.int 1))) [.retR (.bin .sub (.var 2) (.bin .mod (.bin .div (.var 0) (.con (.int 4))) (.con (.int 9))))] [],
    .ite (.cmp .eq (.bin .mod (.var 0) (.con (.int 4))) (.con (.int 2))) [.retR (.bin .sub (.bin .mod (.bin .div (.var 0) (.con (.int 4))) (.con (.int 9))) (.var 2))] [],
    .ite (.cmp .eq (.bin .mod (.var 0) (.con (.int 4))) (.con (.int 3))) [.retR (.bin .sub (.bin .mod (.var 1) (.bin .add (.bin .mul (.con (.int 2)) (.var 2)) (.con (.int 1)))) (.var 2))] [.del [1, 2]],
    .retR (.bin .sub (.bin .mod (.bin .div (.var 0) (.con (.int 4))) (.con (.int 9))) (.con (.int 4)))]
def d_law_number_by : Df := ⟨3, true, b_law_number_by⟩
-- _law_parts_by(cell); slots 0:cell 1:left 2:sides 3:box 4:paces 5:k 6:handle 7:low 8:high
def b_law_parts_by : List Sx := [.asg 1 (.call n_law_stir [(.var 0)] []),
    .asg 2 (.bin .add (.con (.int 2)) (.bin .mod (.var 1) (.con (.int 2)))),
    .asg 1 (.bin .div (.var 1) (.con (.int 2))),
    .own 3 (.lst []),
    .own 4 (.lst []),
    .for_ [5] .rng1 [(.var 2)] [.asg 7 (.call n_law_number_by [(.var 1), (.bin .div (.var 0) (.bin .add (.var 5) (.con (.int 1)))), (.bin .pow (.con (.int 10)) (.con (.int 30)))] []), .asg 8 (.bi .min2 [(.bin .pow (.con (.int 10)) (.con (.int 30))), (.bin .add (.var 7) (.bin .mod (.bin .div (.var 1) (.con (.int 36))) (.con (.int 5))))]), .ite (.cmp .eq (.bin .mod (.bin .div (.var 1) (.con (.int 180))) (.con (.int 4))) (.con (.int 1))) [.del [8], .asg 8 (.bin .pow (.con (.int 10)) (.con (.int 30)))] [], .app 3 (.tup [(.var 7), (.var 8)]), .del [7, 8], .asg 1 (.call n_law_next [(.var 1)] []), .app 4 (.call n_law_number_by [(.var 1), (.bin .div (.var 0) (.bin .add (.var 5) (.con (.int 2)))), (.bin .pow (.con (.int 10)) (.con (.int 15)))] []), .del [5], .asg 1 (.call n_law_next [(.var 1)] [])],
    .frz 3,
    .frz 4,
    .del [2],
    .asg 6 (.bi .abs [(.call n_law_number_by [(.var 1), (.bin .div (.var 0) (.con (.int 5))), (.bin .pow (.con (.int 10)) (.con (.int 18)))] [])]),
    .asg 1 (.call n_law_next [(.var 1)] []),
    .ret (.tup [(.var 6), (.bi .tup [(.var 3)]), (.bi .tup [(.var 4)]), (.bin .mod (.bin .div (.var 1) (.con (.int 36))) (.con (.int 65536))), (.call n_law_number_by [(.var 1), (.bin .div (.var 0) (.con (.int 7))), (.bin .pow (.con (.int 10)) (.con (.int 30)))] [])])]
def d_law_parts_by : Df := ⟨9, false, b_law_parts_by⟩
-- _law_due(parts, way); slots 0:parts 1:way 2:swath 3:k 4:some 5:value 6:pace
def b_law_due : List Sx := [.own 2 (.lst []),
    .for_ [3] .rng1 [(.bi .len [(.idx (.var 0) (.con (.int 1)))])] [.asg 6 (.idx (.idx (.var 0) (.con (.int 2))) (.var 3)), .ite (.or (.cmp .eq (.var 1) (.con (.int 0))) (.cmp .eq (.var 1) (.con (.int 2)))) [.del [6], .asg 6 (.con (.int 0))] [], .app 2 (.tup [(.idx (.idx (.idx (.var 0) (.con (.int 1))) (.var 3)) (.con (.int 0))), (.idx (.idx (.idx (.var 0) (.con (.int 1))) (.var 3)) (.con (.int 1))), (.var 6), (.var 6)]), .del [3, 6]],
    .frz 2,
    .asg 4 (.idx (.var 0) (.con (.int 3))),
    .ite (.or (.cmp .eq (.var 1) (.con (.int 0))) (.or (.cmp .eq (.var 1) (.con (.int 1))) (.cmp .eq (.var 1) (.con (.int 3))))) [.del [4], .asg 4 (.con (.int 0))] [],
    .asg 5 (.idx (.var 0) (.con (.int 4))),
    .ite (.or (.cmp .lt (.var 1) (.con (.int 3))) (.cmp .eq (.var 1) (.con (.int 6)))) [.del [1, 5], .asg 5 (.con (.int 0))] [.del [1]],
    .ret (.tup [(.idx (.var 0) (.con (.int 0))), (.bi .tup [(.var 2)]), (.var 4), (.var 5)])]
def d_law_due : Df := ⟨7, false, b_law_due⟩
-- make_thing(handle, box, speeds, marks, worth); slots 0:handle 1:box 2:speeds 3:marks 4:worth 5:side
def b_make_thing : List Sx := [.ite (.or (.nt (.call n_whole_within [(.var 0), (.con (.int 0)), (.glb (.int 1000000000000000000))] [])) (.nt (.call n_fine_box [(.var 1)] []))) [.del [0, 1, 2, 3, 4], .rse 1] [],
    .ite (.cmp .isn (.var 2) (.con .non)) [.del [2], .asg 2 (.bi .tup [(.comp (.con (.int 0)) [5] .seq [(.var 1)] none)])] [],
    .ite (.nt (.call n_fine_speeds [(.var 2), (.bi .len [(.var 1)])] [])) [.del [0, 1, 2, 3, 4], .rse 1] [],
    .ite (.or (.nt (.call n_whole_within [(.var 3), (.con (.int 0)), (.glb (.int 65535))] [])) (.nt (.call n_whole_within [(.var 4), (.neg (.glb (.int 1000000000000000000000000000000))), (.glb (.int 1000000000000000000000000000000))] []))) [.del [0, 1, 2, 3, 4], .rse 1] [],
    .ret (.tup [(.var 0), (.call n_drifting [(.var 1), (.var 2)] []), (.var 3), (.var 4)])]
def d_make_thing : Df := ⟨6, false, b_make_thing⟩
-- _law_made(parts, way); slots 0:parts 1:way
def b_law_made : List Sx := [.ite (.cmp .eq (.var 1) (.con (.int 0))) [.ret (.call n_make_thing [(.idx (.var 0) (.con (.int 0))), (.idx (.var 0) (.con (.int 1)))] [.non, (.int 0), (.int 0)])] [],
    .ite (.cmp .eq (.var 1) (.con (.int 1))) [.ret (.call n_make_thing [(.idx (.var 0) (.con (.int 0))), (.idx (.var 0) (.con (.int 1))), (.idx (.var 0) (.con (.int 2)))] [(.int 0), (.int 0)])] [],
    .ite (.cmp .eq (.var 1) (.con (.int 2))) [.ret (.call n_make_thing [(.idx (.var 0) (.con (.int 0))), (.idx (.var 0) (.con (.int 1))), (.con .non), (.idx (.var 0) (.con (.int 3)))] [(.int 0)])] [],
    .ite (.cmp .eq (.var 1) (.con (.int 3))) [.ret (.callk n_make_thing [(.idx (.var 0) (.con (.int 0))), (.idx (.var 0) (.con (.int 1))), (.idx (.var 0) (.con (.int 2)))] [(.idx (.var 0) (.con (.int 4)))] [.non, (.int 0), (.int 0)] [0, 1, 2, 5, 3])] [],
    .ite (.cmp .eq (.var 1) (.con (.int 6))) [.ret (.callk n_make_thing [(.idx (.var 0) (.con (.int 0))), (.idx (.var 0) (.con (.int 1)))] [(.idx (.var 0) (.con (.int 3))), (.idx (.var 0) (.con (.int 2)))] [.non, (.int 0), (.int 0)] [0, 1, 3, 2, 6])] [.del [1]],
    .ret (.call n_make_thing [(.idx (.var 0) (.con (.int 0))), (.idx (.var 0) (.con (.int 1))), (.idx (.var 0) (.con (.int 2))), (.idx (.var 0) (.con (.int 3))), (.idx (.var 0) (.con (.int 4)))] [])]
def d_law_made : Df := ⟨2, false, b_law_made⟩
-- law(script); slots 0:script 1:cell 2:parts 3:left 4:way 5:beat 6:due 7:found 8:box 9:told 10:side
def b_law_36 : List Sx := [.for_ [1] .seq [(.bin .add (.lst [(.con (.int 0))]) (.var 0))] [.asg 2 (.call n_law_parts_by [(.var 1)] []), .asg 3 (.call n_law_next [(.call n_law_next [(.call n_law_stir [(.var 1)] [])] [])] []), .asg 4 (.bin .mod (.var 3) (.con (.int 7))), .asg 5 (.bi .abs [(.call n_law_number_by [(.bin .div (.var 3) (.con (.int 7))), (.bin .div (.var 1) (.con (.int 11))), (.bin .pow (.con (.int 10)) (.con (.int 15)))] [])]), .del [1, 3], .asg 6 (.call n_law_due [(.var 2), (.var 4)] []), .asg 7 (.call n_law_made [(.var 2), (.var 4)] []), .del [2, 4], .ite (.nt (.call n_law_same [(.var 7), (.var 6)] [])) [.ret (.con (.bl false))] [], .asg 8 (.bi .tup [(.comp (.tup [(.bin .add (.idx (.var 10) (.con (.int 0))) (.bin .mul (.idx (.var 10) (.con (.int 2))) (.var 5))), (.bin .add (.idx (.var 10) (.con (.int 1))) (.bin .mul (.idx (.var 10) (.con (.int 2))) (.var 5)))]) [10] .seq [(.idx (.var 6) (.con (.int 1)))] none)]), .ite (.nt (.call n_law_same [(.call n_thing_box [(.var 7), (.var 5)] []), (.var 8)] [])) [.ret (.con (.bl false))] [.del [5, 8]], .asg 9 (.tup [(.idx (.var 6) (.con (.int 1))), (.idx (.var 6) (.con (.int 1))), (.idx (.var 6) (.con (.int 2))), (.idx (.var 6) (.con (.int 2))), (.con (.int 1)), (.idx (.var 6) (.con (.int 3))), (.idx (.var 6) (.con (.int 3))), (.idx (.var 6) (.con (.int 3)))]), .del [6], .ite (.nt (.call n_law_same [(.call n_thing_told [(.var 7)] []), (.var 9)] [])) [.ret (.con (.bl false))] [.del [7, 9]]],
    .ret (.con (.bl true))]
def d_law_36 : Df := ⟨11, false, b_law_36⟩
def PL : List (Nat × Df) := [(n_drifting, d_drifting), (n_frame_at, d_frame_at), (n_whole_within, d_whole_within), (n_fine_box, d_fine_box), (n_fine_speeds, d_fine_speeds), (n_thing_box, d_thing_box), (n_thing_told, d_thing_told), (n_law_stir, d_law_stir), (n_law_next, d_law_next), (n_law_same, d_law_same), (n_law_number_by, d_law_number_by), (n_law_parts_by, d_law_parts_by), (n_law_due, d_law_due), (n_make_thing, d_make_thing), (n_law_made, d_law_made), (n_law_36, d_law_36)]
def P : Nat → Option Df := fun i => PL.lookup i
theorem P_drifting : P n_drifting = some d_drifting := rfl
theorem P_frame_at : P n_frame_at = some d_frame_at := rfl
theorem P_whole_within : P n_whole_within = some d_whole_within := rfl
theorem P_fine_box : P n_fine_box = some d_fine_box := rfl
theorem P_fine_speeds : P n_fine_speeds = some d_fine_speeds := rfl
theorem P_thing_box : P n_thing_box = some d_thing_box := rfl
theorem P_thing_told : P n_thing_told = some d_thing_told := rfl
theorem P_law_stir : P n_law_stir = some d_law_stir := rfl
theorem P_law_next : P n_law_next = some d_law_next := rfl
theorem P_law_same : P n_law_same = some d_law_same := rfl
theorem P_law_number_by : P n_law_number_by = some d_law_number_by := rfl
theorem P_law_parts_by : P n_law_parts_by = some d_law_parts_by := rfl
theorem P_law_due : P n_law_due = some d_law_due := rfl
theorem P_make_thing : P n_make_thing = some d_make_thing := rfl
theorem P_law_made : P n_law_made = some d_law_made := rfl
theorem P_law_36 : P n_law_36 = some d_law_36 := rfl
end Dw

namespace Dw
open PySem
def cell (ns : List Int) (k : Nat) : Int := ns.getD k 0
def encP (p : Int × Int) : D := .tup [.int p.1, .int p.2]
def encB (b : List (Int × Int)) : D := .tup (b.map encP)
end Dw
namespace Dw
open PySem
end Dw
namespace Dw
theorem len2 {α : Type} {l : List α} (h : l.length = 2) : ∃ a b, l = [a, b] := by
  match l, h with
  | [a, b], _ => exact ⟨a, b, rfl⟩
theorem len3 {α : Type} {l : List α} (h : l.length = 3) : ∃ a b c, l = [a, b, c] := by
  match l, h with
  | [a, b, c], _ => exact ⟨a, b, c, rfl⟩
end Dw
namespace Dw
open PySem
theorem at_int {α : Type} {xs : List α} {i : Int} (h0 : 0 ≤ i) (h1 : i < xs.length) : ∃ x, x ∈ xs ∧ xs[i.toNat]? = some x ∧ L2.atI xs i = some x := by
  have hi : i.toNat < xs.length := by omega
  exact ⟨xs[i.toNat], List.getElem_mem hi, List.getElem?_eq_getElem hi, by rw [at_lt h0 h1, List.getElem?_eq_getElem hi]⟩
end Dw

namespace Dw
open PySem
def GS (p : Int × Int) : Prop := -2000000000000000000000000000000 ≤ p.1 ∧ p.1 ≤ p.2 ∧ p.2 ≤ 2000000000000000000000000000000
theorem emod_bd (a b : Int) (h : 0 < b) : 0 ≤ a % b ∧ a % b < b := ⟨Int.emod_nonneg _ (by omega), Int.emod_lt_of_pos _ h⟩
def cover (a b : List (Int × Int)) : List (Int × Int) := (a.zip b).map fun p => (min p.1.1 p.2.1, max p.1.2 p.2.2)
theorem itr2 : itD .rng1 [.int 2] = .ok [.int 0, .int 1] := nr rfl
theorem itr3 : itD .rng1 [.int 3] = .ok [.int 0, .int 1, .int 2] := nr rfl
theorem fit2 : fits 2 = true := nr rfl
theorem fit3 : fits 3 = true := nr rfl
def D2 {s : Nat} (hs : s = 2 ∨ s = 3) {α : Type} {a : List α} (h : a.length = s) : (s = 2 ∧ ∃ x y, a = [x, y]) ∨ (s = 3 ∧ ∃ x y z, a = [x, y, z]) := by
  rcases hs with rfl | rfl
  · exact .inl ⟨rfl, len2 h⟩
  · exact .inr ⟨rfl, len3 h⟩
end Dw

namespace Dw
open PySem
abbrev Sd := Int × Int × Int × Int
def encS (p : Sd) : D := .tup [.int p.1, .int p.2.1, .int p.2.2.1, .int p.2.2.2]
def encF (f : List Sd) : D := .tup (f.map encS)
/-- a side of a swath within the bounds -/
def GW (p : Sd) : Prop := (-1000000000000000000000000000000 ≤ p.1 ∧ p.1 ≤ p.2.1 ∧ p.2.1 ≤ 1000000000000000000000000000000) ∧ -1000000000000000 ≤ p.2.2.1 ∧ p.2.2.1 ≤ p.2.2.2 ∧ p.2.2.2 ≤ 1000000000000000
def fat (f : List Sd) (t : Int) : List (Int × Int) := f.map fun p => (p.1 + p.2.2.1 * t, p.2.1 + p.2.2.2 * t)
theorem frame_at_ok (n : Nat) (f : List Sd) (t : Int) (h : f.length ≤ 1000) (ht : t.natAbs < 2 ^ 64) : callN P (n + 1) n_frame_at [encF f, .int t] = .ok (encB (fat f t)) := by
  rw [callN_eq P_frame_at _ (by simp)]
  unfold b_frame_at encF encB
  have hm : ∀ x : Int, mulOk x t = true := fun x => mul_ok2 ht
  simp only [Q0, Q1, Q2, Q3, Q4, Q5, Q6, Q7, Q8, Q9, Q10, Q11, Q12, Q13, Q14, Q15, Q16, Q17, Q18, Q19, Q20, Q21, Q22, Q23, Q24, Q25, Q26, Q27, Q28, Q29, Q30, Q31, Q32, Q33, Q34, Q35, Q36, Q37, Q38, Q39, Q40, Q41, Q42, Q43, Q44, Q45, Q46, Q47, Q48, Q49, Q50, Q51, Q52, Q53, Q54, Q55, Q56, Q57, Q58, Q59, Q60, Q61, Q62, Q63, Q64, Q65, Q66, Q67, Q68, Q69, Q70, Q71, lends, Q72, Q73, Q74, Q75, Q76, Q77, Q78, Q79, Q80, Q81, Q82, Q83, Q84, Q85, Q86, Q87, Q88, Q89, Q90, Q91, Q92, Q93, Q94, Q95, Q96, Q97, Q98, Q99, Q100, Q101, Q102, Q103, Q104, List.drop_succ_cons, List.drop_zero, List.take_succ_cons, List.take_zero, Q105, Q106, Q107, Q108, Q109, Q110, Q111, Q112, Q113, Q114, Q115, Q116, Q117, Q118, Q119, Q120, Q121, Q122, Q123, Q124, Q125, Q126, Q127, Q128, Q129, Q130, Q131, Q132, Q133, Q134, Q135, Q136, Q137, Q138, Q139, Q140, Q141, Q142, Q143, Q144, Q145, Q146, Q147, Q148, Q149, Q150, Q151, Q152, Q153, Q154, Q155, Q156, Q157, Q158, Q159, Q160, c_lt, c_le, c_gt, c_ge, Q161, Q162, Q163, Q164, Q165, Q166, Q167, Q168, Q169, Q170, Q171, Q172, Q173, Q174, Q175, Q176, Q177, Q178, Q179, List.all_cons, List.all_nil, Q180, Q181, Q182, Q183, Q184, Q185, Q186, Q187, Q188, at_0, at_1, at_2, at_3, at_4, at_5, at_6, at_7, Q189, Q190, Q191, Q192, Q193, Q194, Q195, Q196, Q197, Q198, Q199, Q200, Q201, Q202, Q203, Q204, Q205, Q206, Q207, Q208, Q209, Q210, Q211, Q212, Q213, Q214, Q215, Q216, Q217, Q218, Q219, Q220, Nat.reduceAdd, Nat.reduceSub, Nat.reduceMul, Nat.reduceEqDiff, Nat.reduceLeDiff, Int.reduceEq, Int.reduceNe, Int.reduceLT, Int.reduceLE, Int.reduceGT, Int.reduceGE, Int.reduceAdd, Int.reduceSub, Int.reduceMul, Int.reduceNeg, Int.reduceToNat, Int.reducePow, Int.reduceAbs, Int.cast_ofNat_Int, List.map_cons, List.map_nil, List.append_nil, List.nil_append, List.cons_append, List.length_cons, List.length_nil, List.length_map, decide_true, decide_false, decide_eq_true_eq, Bool.not_eq_true', decide_eq_false_iff_not, Bool.and_eq_true, Bool.or_eq_true, not_true_eq_false, not_false_eq_true, Bool.not_true, Bool.not_false, Bool.true_and, Bool.and_true, Bool.false_and, Bool.and_false, Bool.or_false, Bool.false_or, Bool.true_or, Bool.or_true, Bool.false_eq_true, if_true, if_false, ite_true, ite_false, reduceIte, ite_self, beq_self_eq_true, Bool.true_eq_false, fits_of (show f.length ≤ 1000000 by omega), encS, hm, compA_ok]
  unfold fat
  rw [List.map_map]; rfl
end Dw

namespace Dw
open PySem
def jn (p q : Sd) : Sd := (min p.1 q.1, max p.2.1 q.2.1, min p.2.2.1 q.2.2.1, max p.2.2.2 q.2.2.2)
def joined (a b : List Sd) : List Sd := (a.zip b).map fun p => jn p.1 p.2
/-- the first one is held by the second one -/
def hd (p q : Sd) : Bool := decide (q.1 ≤ p.1) && decide (p.2.1 ≤ q.2.1) && decide (q.2.2.1 ≤ p.2.2.1) && decide (p.2.2.2 ≤ q.2.2.2)
end Dw

namespace Dw
open PySem
/-! ### two sides woven -/
end Dw

namespace Dw
open PySem
theorem c2 (a : Nat) : (a : Int) / 2 = ((a / 2 : Nat) : Int) := by omega
theorem mul_okB {a b : Int} (ha : 0 ≤ a ∧ a < 2 ^ 1900) (hb : 0 ≤ b ∧ b < 2 ^ 1900) : mulOk a b = true := by
  have e : (2 : Int) ^ 1900 = ((2 ^ 1900 : Nat) : Int) := by norm_cast
  rw [e] at ha hb
  exact mul_ok3 (Nat.lt_of_lt_of_le (show a.natAbs < 2 ^ 1900 by omega) (by decide)) (Nat.lt_of_lt_of_le (show b.natAbs < 2 ^ 1900 by omega) (by decide))
end Dw

namespace Dw
open PySem
/-! least and greatest of a row -/
def mnL (l : List Int) : Int := (minOf l).getD 0
def mxL (l : List Int) : Int := (maxOf l).getD 0
/-! things and what they tell -/
structure Th where
  h : Int
  s : List Sd
  m : Int
  w : Int
deriving DecidableEq
def encT (t : Th) : D := .tup [.int t.h, encF t.s, .int t.m, .int t.w]
structure Td where
  cov : List Sd
  hrt : List Sd
  some' : Int
  evr : Int
  many : Int
  lst : Int
  mst : Int
  sum : Int
deriving DecidableEq
def encD (t : Td) : D := .tup [encF t.cov, encF t.hrt, .int t.some', .int t.evr, .int t.many, .int t.lst, .int t.mst, .int t.sum]
/-- a thing of s sides within the bounds, its speeds one -/
structure GT (s : Nat) (t : Th) : Prop where
  len : t.s.length = s
  g : ∀ p ∈ t.s, GW p ∧ p.2.2.1 = p.2.2.2
  hd : 0 ≤ t.h ∧ t.h ≤ 1000000000000000000
  mr : 0 ≤ t.m ∧ t.m < 65536
  wr : -1000000000000000000000000000000 ≤ t.w ∧ t.w ≤ 1000000000000000000000000000000
def sdN (t : Th) (j : Nat) : Sd := t.s.getD j (0, 0, 0, 0)
def covJ (ts : List Th) (j : Nat) : Sd := (mnL (ts.map fun t => (sdN t j).1), mxL (ts.map fun t => (sdN t j).2.1), mnL (ts.map fun t => (sdN t j).2.2.1), mxL (ts.map fun t => (sdN t j).2.2.1))
def hrtJ (ts : List Th) (j : Nat) : Sd := (mxL (ts.map fun t => (sdN t j).1), mnL (ts.map fun t => (sdN t j).2.1), mxL (ts.map fun t => (sdN t j).2.2.1), mnL (ts.map fun t => (sdN t j).2.2.1))
def orL (a : Int) (ts : List Th) : Int := ts.foldl (fun a t => Builtin.bitOr a t.m) a
def andL (a : Int) (ts : List Th) : Int := ts.foldl (fun a t => Builtin.bitAnd a t.m) a
def told (s : Nat) (ts : List Th) : Td := ⟨(List.range s).map (covJ ts), (List.range s).map (hrtJ ts), orL 0 ts, andL 65535 ts, ts.length, mnL (ts.map (·.w)), mxL (ts.map (·.w)), (ts.map (·.w)).sum⟩
/-! the law's thing of k31 .. -/
end Dw

namespace Dw
open PySem
theorem law_stir_ok (n : Nat) (c : Int) (h : c.natAbs < cellB) : ∃ v, (0 ≤ v ∧ v < 170141183460469231731687303715884105727) ∧ callN P (n + 1) n_law_stir [.int c] = .ok (.int v) := by
  rw [callN_eq P_law_stir _ (by simp)]
  have m : mulOk c 105172331949523456789012345678901234567 = true := mul_cell h (by unfold mulB; decide)
  unfold b_law_stir
  exact ⟨c * 105172331949523456789012345678901234567 % 170141183460469231731687303715884105727, emod_bd _ 170141183460469231731687303715884105727 (by decide), by simp only [Q0, Q1, Q2, Q3, Q4, Q5, Q6, Q7, Q8, Q9, Q10, Q11, Q12, Q13, Q14, Q15, Q16, Q17, Q18, Q19, Q20, Q21, Q22, Q23, Q24, Q25, Q26, Q27, Q28, Q29, Q30, Q31, Q32, Q33, Q34, Q35, Q36, Q37, Q38, Q39, Q40, Q41, Q42, Q43, Q44, Q45, Q46, Q47, Q48, Q49, Q50, Q51, Q52, Q53, Q54, Q55, Q56, Q57, Q58, Q59, Q60, Q61, Q62, Q63, Q64, Q65, Q66, Q67, Q68, Q69, Q70, Q71, lends, Q72, Q73, Q74, Q75, Q76, Q77, Q78, Q79, Q80, Q81, Q82, Q83, Q84, Q85, Q86, Q87, Q88, Q89, Q90, Q91, Q92, Q93, Q94, Q95, Q96, Q97, Q98, Q99, Q100, Q101, Q102, Q103, Q104, List.drop_succ_cons, List.drop_zero, List.take_succ_cons, List.take_zero, Q105, Q106, Q107, Q108, Q109, Q110, Q111, Q112, Q113, Q114, Q115, Q116, Q117, Q118, Q119, Q120, Q121, Q122, Q123, Q124, Q125, Q126, Q127, Q128, Q129, Q130, Q131, Q132, Q133, Q134, Q135, Q136, Q137, Q138, Q139, Q140, Q141, Q142, Q143, Q144, Q145, Q146, Q147, Q148, Q149, Q150, Q151, Q152, Q153, Q154, Q155, Q156, Q157, Q158, Q159, Q160, c_lt, c_le, c_gt, c_ge, Q161, Q162, Q163, Q164, Q165, Q166, Q167, Q168, Q169, Q170, Q171, Q172, Q173, Q174, Q175, Q176, Q177, Q178, Q179, List.all_cons, List.all_nil, Q180, Q181, Q182, Q183, Q184, Q185, Q186, Q187, Q188, at_0, at_1, at_2, at_3, at_4, at_5, at_6, at_7, Q189, Q190, Q191, Q192, Q193, Q194, Q195, Q196, Q197, Q198, Q199, Q200, Q201, Q202, Q203, Q204, Q205, Q206, Q207, Q208, Q209, Q210, Q211, Q212, Q213, Q214, Q215, Q216, Q217, Q218, Q219, Q220, Nat.reduceAdd, Nat.reduceSub, Nat.reduceMul, Nat.reduceEqDiff, Nat.reduceLeDiff, Int.reduceEq, Int.reduceNe, Int.reduceLT, Int.reduceLE, Int.reduceGT, Int.reduceGE, Int.reduceAdd, Int.reduceSub, Int.reduceMul, Int.reduceNeg, Int.reduceToNat, Int.reducePow, Int.reduceAbs, Int.cast_ofNat_Int, List.map_cons, List.map_nil, List.append_nil, List.nil_append, List.cons_append, List.length_cons, List.length_nil, List.length_map, decide_true, decide_false, decide_eq_true_eq, Bool.not_eq_true', decide_eq_false_iff_not, Bool.and_eq_true, Bool.or_eq_true, not_true_eq_false, not_false_eq_true, Bool.not_true, Bool.not_false, Bool.true_and, Bool.and_true, Bool.false_and, Bool.and_false, Bool.or_false, Bool.false_or, Bool.true_or, Bool.or_true, Bool.false_eq_true, if_true, if_false, ite_true, ite_false, reduceIte, ite_self, beq_self_eq_true, Bool.true_eq_false, Q221, Q222, String.reduceEq, Q223, Q224, Q225, Q226, Q227, Q228, Q229, Q230, Q231, Q232, Q233, Q234, Q235, Q236, Q237, Q238, Q239, Q240, Q241, Q242, Q243, Q244, Q245, Q246, Q247, Q248, Q249, Q250, Q251, Q252, Q253, Q254, Q255, Q256, Q257, Q258, Q259, Q260, Q261, Q262, Q263, Q264, Q265, Q266, Q267, Q268, Q269, Q270, Q271, Q272, Q273, Q274, Q275, Q276, dvL, mlL, mlR, pwL, Nat.reduceLT, m]⟩
theorem law_next_ok (n : Nat) (c : Int) (h : 0 ≤ c ∧ c < 170141183460469231731687303715884105727) : ∃ v, (0 ≤ v ∧ v < 170141183460469231731687303715884105727) ∧ callN P (n + 1) n_law_next [.int c] = .ok (.int v) := by
  rw [callN_eq P_law_next _ (by simp)]
  have m : mulOk c 83492791123456789012345678901234567891 = true := mul_okB ⟨h.1, Int.lt_trans h.2 (by decide)⟩ (by decide)
  unfold b_law_next
  exact ⟨c * 83492791123456789012345678901234567891 % 170141183460469231731687303715884105727, emod_bd _ 170141183460469231731687303715884105727 (by decide), by simp only [Q0, Q1, Q2, Q3, Q4, Q5, Q6, Q7, Q8, Q9, Q10, Q11, Q12, Q13, Q14, Q15, Q16, Q17, Q18, Q19, Q20, Q21, Q22, Q23, Q24, Q25, Q26, Q27, Q28, Q29, Q30, Q31, Q32, Q33, Q34, Q35, Q36, Q37, Q38, Q39, Q40, Q41, Q42, Q43, Q44, Q45, Q46, Q47, Q48, Q49, Q50, Q51, Q52, Q53, Q54, Q55, Q56, Q57, Q58, Q59, Q60, Q61, Q62, Q63, Q64, Q65, Q66, Q67, Q68, Q69, Q70, Q71, lends, Q72, Q73, Q74, Q75, Q76, Q77, Q78, Q79, Q80, Q81, Q82, Q83, Q84, Q85, Q86, Q87, Q88, Q89, Q90, Q91, Q92, Q93, Q94, Q95, Q96, Q97, Q98, Q99, Q100, Q101, Q102, Q103, Q104, List.drop_succ_cons, List.drop_zero, List.take_succ_cons, List.take_zero, Q105, Q106, Q107, Q108, Q109, Q110, Q111, Q112, Q113, Q114, Q115, Q116, Q117, Q118, Q119, Q120, Q121, Q122, Q123, Q124, Q125, Q126, Q127, Q128, Q129, Q130, Q131, Q132, Q133, Q134, Q135, Q136, Q137, Q138, Q139, Q140, Q141, Q142, Q143, Q144, Q145, Q146, Q147, Q148, Q149, Q150, Q151, Q152, Q153, Q154, Q155, Q156, Q157, Q158, Q159, Q160, c_lt, c_le, c_gt, c_ge, Q161, Q162, Q163, Q164, Q165, Q166, Q167, Q168, Q169, Q170, Q171, Q172, Q173, Q174, Q175, Q176, Q177, Q178, Q179, List.all_cons, List.all_nil, Q180, Q181, Q182, Q183, Q184, Q185, Q186, Q187, Q188, at_0, at_1, at_2, at_3, at_4, at_5, at_6, at_7, Q189, Q190, Q191, Q192, Q193, Q194, Q195, Q196, Q197, Q198, Q199, Q200, Q201, Q202, Q203, Q204, Q205, Q206, Q207, Q208, Q209, Q210, Q211, Q212, Q213, Q214, Q215, Q216, Q217, Q218, Q219, Q220, Nat.reduceAdd, Nat.reduceSub, Nat.reduceMul, Nat.reduceEqDiff, Nat.reduceLeDiff, Int.reduceEq, Int.reduceNe, Int.reduceLT, Int.reduceLE, Int.reduceGT, Int.reduceGE, Int.reduceAdd, Int.reduceSub, Int.reduceMul, Int.reduceNeg, Int.reduceToNat, Int.reducePow, Int.reduceAbs, Int.cast_ofNat_Int, List.map_cons, List.map_nil, List.append_nil, List.nil_append, List.cons_append, List.length_cons, List.length_nil, List.length_map, decide_true, decide_false, decide_eq_true_eq, Bool.not_eq_true', decide_eq_false_iff_not, Bool.and_eq_true, Bool.or_eq_true, not_true_eq_false, not_false_eq_true, Bool.not_true, Bool.not_false, Bool.true_and, Bool.and_true, Bool.false_and, Bool.and_false, Bool.or_false, Bool.false_or, Bool.true_or, Bool.or_true, Bool.false_eq_true, if_true, if_false, ite_true, ite_false, reduceIte, ite_self, beq_self_eq_true, Bool.true_eq_false, Q221, Q222, String.reduceEq, Q223, Q224, Q225, Q226, Q227, Q228, Q229, Q230, Q231, Q232, Q233, Q234, Q235, Q236, Q237, Q238, Q239, Q240, Q241, Q242, Q243, Q244, Q245, Q246, Q247, Q248, Q249, Q250, Q251, Q252, Q253, Q254, Q255, Q256, Q257, Q258, Q259, Q260, Q261, Q262, Q263, Q264, Q265, Q266, Q267, Q268, Q269, Q270, Q271, Q272, Q273, Q274, Q275, Q276, dvL, mlL, mlR, pwL, Nat.reduceLT, m]⟩
end Dw

namespace Dw
open PySem
def rim (f : List Sd) : Int := (f.map fun p => p.2.1 - p.1).sum
/-- how much a cover grows -/
def grw (t c : List Sd) : Int := rim (joined c t) - rim c
def betr (t a b : List Sd) : Prop := grw t a < grw t b ∨ (grw t a = grw t b ∧ rim a < rim b)
instance (t a b : List Sd) : Decidable (betr t a b) := by unfold betr; infer_instance
end Dw

namespace Dw
open PySem
end Dw

namespace Dw
open PySem
end Dw

namespace Dw
open PySem
end Dw

namespace Dw
open PySem
/-! trees of pages -/
inductive Pg where
  | leaf (t : Option Td) (ts : List Th)
  | fork (t : Option Td) (ps : List Pg)
def toldO (s : Nat) (ts : List Th) : Option Td := if ts = [] then none else some (told s ts)
/-- a page in health: its height, the things beneath it -/
inductive HP (s room : Nat) : Nat → Nat → Pg → List Th → Prop
  | leaf {low : Nat} {ts : List Th} : low ≤ ts.length → ts.length ≤ room → HP s room low 0 (.leaf (toldO s ts) ts) ts
  | fork {low h : Nat} {rows : List (Pg × List Th)} : low ≤ rows.length → 2 ≤ rows.length → rows.length ≤ room → (∀ r ∈ rows, HP s room (room / 2) h r.1 r.2) → HP s room low (h + 1) (.fork (toldO s (rows.flatMap (·.2))) (rows.map (·.1))) (rows.flatMap (·.2))
/-! the cuts of a row -/
end Dw

namespace Dw
open PySem
end Dw

namespace Dw
open PySem
end Dw

namespace Dw
open PySem
end Dw

namespace Dw
open PySem
end Dw

namespace Dw
open PySem
end Dw

namespace Dw
open PySem
theorem ev_compST {F : Fs} {elt v : Ex} {i : Nat} {ρ : List Sl} {α : Type} {l : List α} {enc G : α → D} (h0 : evE F v ρ = .ok (.tup (l.map enc))) (hf : l.length ≤ 1000000) (h : ∀ x ∈ l, evE F elt (setS (setS ρ i .no) i (.sh (enc x))) = .ok (G x)) : evE F (.comp elt [i] .seq [v] none) ρ = .ok (.lst (l.map G)) := by
  rw [Q79, Q75, Q74, h0, Q0, Q0, Q0, Q219, Q0, fits_of (by rw [List.length_map]; exact hf), Q4, Q0, Q82]
  rw [compA_mem (G := G) (fun x hx => ?_), Q0]
  rw [Q80, Q13, Q12, Q35, Q0, h x hx, Q0]
end Dw

namespace Dw
open PySem
end Dw

namespace Dw
open PySem
instance : Inhabited Th := ⟨⟨0, [], 0, 0⟩⟩
instance : Inhabited Pg := ⟨.leaf none []⟩
end Dw

namespace Dw
open PySem
end Dw

namespace Dw
open PySem
/-! alike: a value and itself -/
def LK : Nat → D → Prop
  | _, .non => True
  | _, .int _ => True
  | n + 1, .tup xs => xs.length ≤ 100000 ∧ ∀ x ∈ xs, LK n x
  | _, _ => False
end Dw

namespace Dw
open PySem
theorem same_ok (m : Nat) : ∀ (n : Nat) (d : D), LK n d → callN P (m + n + 1) n_law_same [d, d] = .ok (.bl true)
  | n, .non, _ => by
    rw [callN_eq P_law_same _ (by simp)]
    have t1 : tyD .tup .non = false := rfl
    unfold b_law_same
    simp only [Q0, Q1, Q2, Q3, Q4, Q5, Q6, Q7, Q8, Q9, Q10, Q11, Q12, Q13, Q14, Q15, Q16, Q17, Q18, Q19, Q20, Q21, Q22, Q23, Q24, Q25, Q26, Q27, Q28, Q29, Q30, Q31, Q32, Q33, Q34, Q35, Q36, Q37, Q38, Q39, Q40, Q41, Q42, Q43, Q44, Q45, Q46, Q47, Q48, Q49, Q50, Q51, Q52, Q53, Q54, Q55, Q56, Q57, Q58, Q59, Q60, Q61, Q62, Q63, Q64, Q65, Q66, Q67, Q68, Q69, Q70, Q71, lends, Q72, Q73, Q74, Q75, Q76, Q77, Q78, Q79, Q80, Q81, Q82, Q83, Q84, Q85, Q86, Q87, Q88, Q89, Q90, Q91, Q92, Q93, Q94, Q95, Q96, Q97, Q98, Q99, Q100, Q101, Q102, Q103, Q104, List.drop_succ_cons, List.drop_zero, List.take_succ_cons, List.take_zero, Q105, Q106, Q107, Q108, Q109, Q110, Q111, Q112, Q113, Q114, Q115, Q116, Q117, Q118, Q119, Q120, Q121, Q122, Q123, Q124, Q125, Q126, Q127, Q128, Q129, Q130, Q131, Q132, Q133, Q134, Q135, Q136, Q137, Q138, Q139, Q140, Q141, Q142, Q143, Q144, Q145, Q146, Q147, Q148, Q149, Q150, Q151, Q152, Q153, Q154, Q155, Q156, Q157, Q158, Q159, Q160, c_lt, c_le, c_gt, c_ge, Q161, Q162, Q163, Q164, Q165, Q166, Q167, Q168, Q169, Q170, Q171, Q172, Q173, Q174, Q175, Q176, Q177, Q178, Q179, List.all_cons, List.all_nil, Q180, Q181, Q182, Q183, Q184, Q185, Q186, Q187, Q188, at_0, at_1, at_2, at_3, at_4, at_5, at_6, at_7, Q189, Q190, Q191, Q192, Q193, Q194, Q195, Q196, Q197, Q198, Q199, Q200, Q201, Q202, Q203, Q204, Q205, Q206, Q207, Q208, Q209, Q210, Q211, Q212, Q213, Q214, Q215, Q216, Q217, Q218, Q219, Q220, Nat.reduceAdd, Nat.reduceSub, Nat.reduceMul, Nat.reduceEqDiff, Nat.reduceLeDiff, Int.reduceEq, Int.reduceNe, Int.reduceLT, Int.reduceLE, Int.reduceGT, Int.reduceGE, Int.reduceAdd, Int.reduceSub, Int.reduceMul, Int.reduceNeg, Int.reduceToNat, Int.reducePow, Int.reduceAbs, Int.cast_ofNat_Int, List.map_cons, List.map_nil, List.append_nil, List.nil_append, List.cons_append, List.length_cons, List.length_nil, List.length_map, decide_true, decide_false, decide_eq_true_eq, Bool.not_eq_true', decide_eq_false_iff_not, Bool.and_eq_true, Bool.or_eq_true, not_true_eq_false, not_false_eq_true, Bool.not_true, Bool.not_false, Bool.true_and, Bool.and_true, Bool.false_and, Bool.and_false, Bool.or_false, Bool.false_or, Bool.true_or, Bool.or_true, Bool.false_eq_true, if_true, if_false, ite_true, ite_false, reduceIte, ite_self, beq_self_eq_true, Bool.true_eq_false, t1]
  | n, .int i, _ => by
    rw [callN_eq P_law_same _ (by simp)]
    have t1 : isNon (.int i) = false := rfl
    have t2 : tyD .str (.int i) = false := rfl
    unfold b_law_same
    simp only [Q0, Q1, Q2, Q3, Q4, Q5, Q6, Q7, Q8, Q9, Q10, Q11, Q12, Q13, Q14, Q15, Q16, Q17, Q18, Q19, Q20, Q21, Q22, Q23, Q24, Q25, Q26, Q27, Q28, Q29, Q30, Q31, Q32, Q33, Q34, Q35, Q36, Q37, Q38, Q39, Q40, Q41, Q42, Q43, Q44, Q45, Q46, Q47, Q48, Q49, Q50, Q51, Q52, Q53, Q54, Q55, Q56, Q57, Q58, Q59, Q60, Q61, Q62, Q63, Q64, Q65, Q66, Q67, Q68, Q69, Q70, Q71, lends, Q72, Q73, Q74, Q75, Q76, Q77, Q78, Q79, Q80, Q81, Q82, Q83, Q84, Q85, Q86, Q87, Q88, Q89, Q90, Q91, Q92, Q93, Q94, Q95, Q96, Q97, Q98, Q99, Q100, Q101, Q102, Q103, Q104, List.drop_succ_cons, List.drop_zero, List.take_succ_cons, List.take_zero, Q105, Q106, Q107, Q108, Q109, Q110, Q111, Q112, Q113, Q114, Q115, Q116, Q117, Q118, Q119, Q120, Q121, Q122, Q123, Q124, Q125, Q126, Q127, Q128, Q129, Q130, Q131, Q132, Q133, Q134, Q135, Q136, Q137, Q138, Q139, Q140, Q141, Q142, Q143, Q144, Q145, Q146, Q147, Q148, Q149, Q150, Q151, Q152, Q153, Q154, Q155, Q156, Q157, Q158, Q159, Q160, c_lt, c_le, c_gt, c_ge, Q161, Q162, Q163, Q164, Q165, Q166, Q167, Q168, Q169, Q170, Q171, Q172, Q173, Q174, Q175, Q176, Q177, Q178, Q179, List.all_cons, List.all_nil, Q180, Q181, Q182, Q183, Q184, Q185, Q186, Q187, Q188, at_0, at_1, at_2, at_3, at_4, at_5, at_6, at_7, Q189, Q190, Q191, Q192, Q193, Q194, Q195, Q196, Q197, Q198, Q199, Q200, Q201, Q202, Q203, Q204, Q205, Q206, Q207, Q208, Q209, Q210, Q211, Q212, Q213, Q214, Q215, Q216, Q217, Q218, Q219, Q220, Nat.reduceAdd, Nat.reduceSub, Nat.reduceMul, Nat.reduceEqDiff, Nat.reduceLeDiff, Int.reduceEq, Int.reduceNe, Int.reduceLT, Int.reduceLE, Int.reduceGT, Int.reduceGE, Int.reduceAdd, Int.reduceSub, Int.reduceMul, Int.reduceNeg, Int.reduceToNat, Int.reducePow, Int.reduceAbs, Int.cast_ofNat_Int, List.map_cons, List.map_nil, List.append_nil, List.nil_append, List.cons_append, List.length_cons, List.length_nil, List.length_map, decide_true, decide_false, decide_eq_true_eq, Bool.not_eq_true', decide_eq_false_iff_not, Bool.and_eq_true, Bool.or_eq_true, not_true_eq_false, not_false_eq_true, Bool.not_true, Bool.not_false, Bool.true_and, Bool.and_true, Bool.false_and, Bool.and_false, Bool.or_false, Bool.false_or, Bool.true_or, Bool.or_true, Bool.false_eq_true, if_true, if_false, ite_true, ite_false, reduceIte, ite_self, beq_self_eq_true, Bool.true_eq_false, t1, t2]
  | n + 1, .tup xs, h => by
    rw [callN_eq P_law_same _ (by simp)]
    have loop : forD (forT (callN P (m + (n + 1))) false [2] [.ite (.nt (.call n_law_same [(.idx (.var 0) (.var 2)), (.idx (.var 1) (.var 2))] [])) [.ret (.con (.bl false))] [.del [2]]]) ((List.range xs.length).map fun k : Nat => D.int (k : Int)) [.sh (.tup xs), .sh (.tup xs), .no] = .ok (.nx [.sh (.tup xs), .sh (.tup xs), .no]) := by
      refine forD_all (enc := fun k : Nat => D.int (k : Int)) (List.range xs.length) fun k hk => ?_
      have hk := List.mem_range.1 hk
      obtain ⟨x, hx, _, e⟩ := at_int (xs := xs) (i := (k : Int)) (by omega) (by omega)
      have ih := same_ok m n x (h.2 x hx)
      have ih : callN P (m + (n + 1)) n_law_same [x, x] = .ok (.bl true) := ih
      simp only [Q0, Q1, Q2, Q3, Q4, Q5, Q6, Q7, Q8, Q9, Q10, Q11, Q12, Q13, Q14, Q15, Q16, Q17, Q18, Q19, Q20, Q21, Q22, Q23, Q24, Q25, Q26, Q27, Q28, Q29, Q30, Q31, Q32, Q33, Q34, Q35, Q36, Q37, Q38, Q39, Q40, Q41, Q42, Q43, Q44, Q45, Q46, Q47, Q48, Q49, Q50, Q51, Q52, Q53, Q54, Q55, Q56, Q57, Q58, Q59, Q60, Q61, Q62, Q63, Q64, Q65, Q66, Q67, Q68, Q69, Q70, Q71, lends, Q72, Q73, Q74, Q75, Q76, Q77, Q78, Q79, Q80, Q81, Q82, Q83, Q84, Q85, Q86, Q87, Q88, Q89, Q90, Q91, Q92, Q93, Q94, Q95, Q96, Q97, Q98, Q99, Q100, Q101, Q102, Q103, Q104, List.drop_succ_cons, List.drop_zero, List.take_succ_cons, List.take_zero, Q105, Q106, Q107, Q108, Q109, Q110, Q111, Q112, Q113, Q114, Q115, Q116, Q117, Q118, Q119, Q120, Q121, Q122, Q123, Q124, Q125, Q126, Q127, Q128, Q129, Q130, Q131, Q132, Q133, Q134, Q135, Q136, Q137, Q138, Q139, Q140, Q141, Q142, Q143, Q144, Q145, Q146, Q147, Q148, Q149, Q150, Q151, Q152, Q153, Q154, Q155, Q156, Q157, Q158, Q159, Q160, c_lt, c_le, c_gt, c_ge, Q161, Q162, Q163, Q164, Q165, Q166, Q167, Q168, Q169, Q170, Q171, Q172, Q173, Q174, Q175, Q176, Q177, Q178, Q179, List.all_cons, List.all_nil, Q180, Q181, Q182, Q183, Q184, Q185, Q186, Q187, Q188, at_0, at_1, at_2, at_3, at_4, at_5, at_6, at_7, Q189, Q190, Q191, Q192, Q193, Q194, Q195, Q196, Q197, Q198, Q199, Q200, Q201, Q202, Q203, Q204, Q205, Q206, Q207, Q208, Q209, Q210, Q211, Q212, Q213, Q214, Q215, Q216, Q217, Q218, Q219, Q220, Nat.reduceAdd, Nat.reduceSub, Nat.reduceMul, Nat.reduceEqDiff, Nat.reduceLeDiff, Int.reduceEq, Int.reduceNe, Int.reduceLT, Int.reduceLE, Int.reduceGT, Int.reduceGE, Int.reduceAdd, Int.reduceSub, Int.reduceMul, Int.reduceNeg, Int.reduceToNat, Int.reducePow, Int.reduceAbs, Int.cast_ofNat_Int, List.map_cons, List.map_nil, List.append_nil, List.nil_append, List.cons_append, List.length_cons, List.length_nil, List.length_map, decide_true, decide_false, decide_eq_true_eq, Bool.not_eq_true', decide_eq_false_iff_not, Bool.and_eq_true, Bool.or_eq_true, not_true_eq_false, not_false_eq_true, Bool.not_true, Bool.not_false, Bool.true_and, Bool.and_true, Bool.false_and, Bool.and_false, Bool.or_false, Bool.false_or, Bool.true_or, Bool.or_true, Bool.false_eq_true, if_true, if_false, ite_true, ite_false, reduceIte, ite_self, beq_self_eq_true, Bool.true_eq_false, e, ih]
    unfold b_law_same
    simp only [Q0, Q1, Q2, Q3, Q4, Q5, Q6, Q7, Q8, Q9, Q10, Q11, Q12, Q13, Q14, Q15, Q16, Q17, Q18, Q19, Q20, Q21, Q22, Q23, Q24, Q25, Q26, Q27, Q28, Q29, Q30, Q31, Q32, Q33, Q34, Q35, Q36, Q37, Q38, Q39, Q40, Q41, Q42, Q43, Q44, Q45, Q46, Q47, Q48, Q49, Q50, Q51, Q52, Q53, Q54, Q55, Q56, Q57, Q58, Q59, Q60, Q61, Q62, Q63, Q64, Q65, Q66, Q67, Q68, Q69, Q70, Q71, lends, Q72, Q73, Q74, Q75, Q76, Q77, Q78, Q79, Q80, Q81, Q82, Q83, Q84, Q85, Q86, Q87, Q88, Q89, Q90, Q91, Q92, Q93, Q94, Q95, Q96, Q97, Q98, Q99, Q100, Q101, Q102, Q103, Q104, List.drop_succ_cons, List.drop_zero, List.take_succ_cons, List.take_zero, Q105, Q106, Q107, Q108, Q109, Q110, Q111, Q112, Q113, Q114, Q115, Q116, Q117, Q118, Q119, Q120, Q121, Q122, Q123, Q124, Q125, Q126, Q127, Q128, Q129, Q130, Q131, Q132, Q133, Q134, Q135, Q136, Q137, Q138, Q139, Q140, Q141, Q142, Q143, Q144, Q145, Q146, Q147, Q148, Q149, Q150, Q151, Q152, Q153, Q154, Q155, Q156, Q157, Q158, Q159, Q160, c_lt, c_le, c_gt, c_ge, Q161, Q162, Q163, Q164, Q165, Q166, Q167, Q168, Q169, Q170, Q171, Q172, Q173, Q174, Q175, Q176, Q177, Q178, Q179, List.all_cons, List.all_nil, Q180, Q181, Q182, Q183, Q184, Q185, Q186, Q187, Q188, at_0, at_1, at_2, at_3, at_4, at_5, at_6, at_7, Q189, Q190, Q191, Q192, Q193, Q194, Q195, Q196, Q197, Q198, Q199, Q200, Q201, Q202, Q203, Q204, Q205, Q206, Q207, Q208, Q209, Q210, Q211, Q212, Q213, Q214, Q215, Q216, Q217, Q218, Q219, Q220, Nat.reduceAdd, Nat.reduceSub, Nat.reduceMul, Nat.reduceEqDiff, Nat.reduceLeDiff, Int.reduceEq, Int.reduceNe, Int.reduceLT, Int.reduceLE, Int.reduceGT, Int.reduceGE, Int.reduceAdd, Int.reduceSub, Int.reduceMul, Int.reduceNeg, Int.reduceToNat, Int.reducePow, Int.reduceAbs, Int.cast_ofNat_Int, List.map_cons, List.map_nil, List.append_nil, List.nil_append, List.cons_append, List.length_cons, List.length_nil, List.length_map, decide_true, decide_false, decide_eq_true_eq, Bool.not_eq_true', decide_eq_false_iff_not, Bool.and_eq_true, Bool.or_eq_true, not_true_eq_false, not_false_eq_true, Bool.not_true, Bool.not_false, Bool.true_and, Bool.and_true, Bool.false_and, Bool.and_false, Bool.or_false, Bool.false_or, Bool.true_or, Bool.or_true, Bool.false_eq_true, if_true, if_false, ite_true, ite_false, reduceIte, ite_self, beq_self_eq_true, Bool.true_eq_false, it_rng1n (show xs.length < 2 ^ 62 by have := h.1; omega), loop]
  | 0, .tup xs, h => h.elim
  | n, .bl b, h => by cases n <;> exact h.elim
  | n, .str b, h => by cases n <;> exact h.elim
  | n, .lst b, h => by cases n <;> exact h.elim
  | n, .ins b c, h => by cases n <;> exact h.elim
  | n, .dcK b c, h => by cases n <;> exact h.elim
  | n, .dcT b c, h => by cases n <;> exact h.elim
end Dw

namespace Dw
open PySem
end Dw

namespace Dw
open PySem
/-- speeds within the bounds -/
def BW (p : Sd) : Prop := (-1000000000000000 ≤ p.2.2.1 ∧ p.2.2.1 ≤ 1000000000000000) ∧ -1000000000000000 ≤ p.2.2.2 ∧ p.2.2.2 ≤ 1000000000000000
theorem BW.of {p : Sd} (h : GW p) : BW p := by unfold GW at h; unfold BW; omega
end Dw

namespace Dw
open PySem
/-- within bounds, whichever end is the greater -/
def BB (p : Int × Int) : Prop := (-2000000000000000000000000000000 ≤ p.1 ∧ p.1 ≤ 2000000000000000000000000000000) ∧ -2000000000000000000000000000000 ≤ p.2 ∧ p.2 ≤ 2000000000000000000000000000000
theorem BB.of {p : Int × Int} (h : GS p) : BB p := by unfold GS at h; unfold BB; omega
end Dw

namespace Dw
open PySem
end Dw

namespace Dw
open PySem
/-! boxes, atoms and wants of the law's scenes -/
end Dw

namespace Dw
open PySem
/-! what suits a want -/
theorem GT.gw {s : Nat} {t : Th} (g : GT s t) : ∀ p ∈ t.s, GW p := fun p hp => (g.g p hp).1
theorem thing_box_ok (n : Nat) (t : Th) (b : Int) (h : t.s.length ≤ 1000) (hb : b.natAbs < 2 ^ 64) : callN P (n + 2) n_thing_box [encT t, .int b] = .ok (encB (fat t.s b)) := by
  rw [callN_eq P_thing_box _ (by simp)]
  have i1 : idxD (encT t) (.int 1) = .ok (encF t.s) := rfl
  unfold b_thing_box
  simp only [Q0, Q1, Q2, Q3, Q4, Q5, Q6, Q7, Q8, Q9, Q10, Q11, Q12, Q13, Q14, Q15, Q16, Q17, Q18, Q19, Q20, Q21, Q22, Q23, Q24, Q25, Q26, Q27, Q28, Q29, Q30, Q31, Q32, Q33, Q34, Q35, Q36, Q37, Q38, Q39, Q40, Q41, Q42, Q43, Q44, Q45, Q46, Q47, Q48, Q49, Q50, Q51, Q52, Q53, Q54, Q55, Q56, Q57, Q58, Q59, Q60, Q61, Q62, Q63, Q64, Q65, Q66, Q67, Q68, Q69, Q70, Q71, lends, Q72, Q73, Q74, Q75, Q76, Q77, Q78, Q79, Q80, Q81, Q82, Q83, Q84, Q85, Q86, Q87, Q88, Q89, Q90, Q91, Q92, Q93, Q94, Q95, Q96, Q97, Q98, Q99, Q100, Q101, Q102, Q103, Q104, List.drop_succ_cons, List.drop_zero, List.take_succ_cons, List.take_zero, Q105, Q106, Q107, Q108, Q109, Q110, Q111, Q112, Q113, Q114, Q115, Q116, Q117, Q118, Q119, Q120, Q121, Q122, Q123, Q124, Q125, Q126, Q127, Q128, Q129, Q130, Q131, Q132, Q133, Q134, Q135, Q136, Q137, Q138, Q139, Q140, Q141, Q142, Q143, Q144, Q145, Q146, Q147, Q148, Q149, Q150, Q151, Q152, Q153, Q154, Q155, Q156, Q157, Q158, Q159, Q160, c_lt, c_le, c_gt, c_ge, Q161, Q162, Q163, Q164, Q165, Q166, Q167, Q168, Q169, Q170, Q171, Q172, Q173, Q174, Q175, Q176, Q177, Q178, Q179, List.all_cons, List.all_nil, Q180, Q181, Q182, Q183, Q184, Q185, Q186, Q187, Q188, at_0, at_1, at_2, at_3, at_4, at_5, at_6, at_7, Q189, Q190, Q191, Q192, Q193, Q194, Q195, Q196, Q197, Q198, Q199, Q200, Q201, Q202, Q203, Q204, Q205, Q206, Q207, Q208, Q209, Q210, Q211, Q212, Q213, Q214, Q215, Q216, Q217, Q218, Q219, Q220, Nat.reduceAdd, Nat.reduceSub, Nat.reduceMul, Nat.reduceEqDiff, Nat.reduceLeDiff, Int.reduceEq, Int.reduceNe, Int.reduceLT, Int.reduceLE, Int.reduceGT, Int.reduceGE, Int.reduceAdd, Int.reduceSub, Int.reduceMul, Int.reduceNeg, Int.reduceToNat, Int.reducePow, Int.reduceAbs, Int.cast_ofNat_Int, List.map_cons, List.map_nil, List.append_nil, List.nil_append, List.cons_append, List.length_cons, List.length_nil, List.length_map, decide_true, decide_false, decide_eq_true_eq, Bool.not_eq_true', decide_eq_false_iff_not, Bool.and_eq_true, Bool.or_eq_true, not_true_eq_false, not_false_eq_true, Bool.not_true, Bool.not_false, Bool.true_and, Bool.and_true, Bool.false_and, Bool.and_false, Bool.or_false, Bool.false_or, Bool.true_or, Bool.or_true, Bool.false_eq_true, if_true, if_false, ite_true, ite_false, reduceIte, ite_self, beq_self_eq_true, Bool.true_eq_false, Q221, Q222, String.reduceEq, Q223, Q224, Q225, Q226, Q227, Q228, Q229, Q230, Q231, Q232, Q233, Q234, Q235, Q236, Q237, Q238, Q239, Q240, Q241, Q242, Q243, Q244, Q245, Q246, Q247, Q248, Q249, Q250, Q251, Q252, Q253, Q254, Q255, Q256, Q257, Q258, Q259, Q260, Q261, Q262, Q263, Q264, Q265, Q266, Q267, Q268, Q269, Q270, Q271, Q272, Q273, Q274, Q275, Q276, dvL, mlL, mlR, pwL, Nat.reduceLT, i1, frame_at_ok n t.s b h hb]
section
variable (n : Nat) {s : Nat} (hs : s = 2 ∨ s = 3) {t : Th} (g : GT s t) {beat : Int} (hb : 0 ≤ beat ∧ beat ≤ 1000000000000000)
include hs g hb
end
end Dw

namespace Dw
open PySem
/-! things, boxes and wants drawn from a cell -/
/-- what the scale is -/
structure Sl3 (a b e : Int) : Prop where
  a : a = 1 ∨ a = 10000000000000000000000000000
  b : b = 3 ∨ b = 0 ∨ b = 100000000000000
  e : e = 13 ∨ e = 2 ∨ e = 1000000000000001
section
variable {a b e : Int} (S : Sl3 a b e)
include S
end
end Dw

namespace Dw
open PySem
/-! the law's own sense of an atom -/
end Dw

namespace Dw
open PySem
/-! wants of wants -/
end Dw

namespace Dw
open PySem
/-! what suits a want of wants, to the law and to the program -/
/-! the methods -/
end Dw

namespace Dw
open PySem
/-! what a want says of what is told -/
/-- bounds alone, no order -/
def PB (p : Sd) : Prop := ((-1000000000000000000000000000000 ≤ p.1 ∧ p.1 ≤ 1000000000000000000000000000000) ∧ -1000000000000000000000000000000 ≤ p.2.1 ∧ p.2.1 ≤ 1000000000000000000000000000000) ∧ BW p
structure GD (s : Nat) (d : Td) : Prop where
  cl : d.cov.length = s
  hl : d.hrt.length = s
  cb : ∀ p ∈ d.cov, PB p
  hb : ∀ p ∈ d.hrt, PB p
section
variable (n : Nat) {s : Nat} (hs : s = 2 ∨ s = 3) {d : Td} (g : GD s d) {beat : Int} (hb : 0 ≤ beat ∧ beat ≤ 1000000000000000)
include hs g hb
omit hs g hb in
theorem td6 (d : Td) : idxD (encD d) (.int 6) = .ok (.int d.mst) := nr rfl
end
end Dw

namespace Dw
open PySem
/-! what is told of things is true of each of them -/
section
variable {s : Nat} {ts : List Th} {t : Th} (hm : t ∈ ts) (hl : t.s.length = s)
include hm hl
end
/-! marks -/
end Dw

namespace Dw
open PySem
/-! pages that tell the truth, what is found on them and the paper -/
inductive FP (s : Nat) : Nat → Pg → List Th → Prop
  | leaf {h : Nat} {ts : List Th} : FP s h (.leaf (toldO s ts) ts) ts
  | fork {h : Nat} {rows : List (Pg × List Th)} : rows.length ≤ 100000 → (∀ r ∈ rows, FP s h r.1 r.2) → FP s (h + 1) (.fork (toldO s (rows.flatMap (·.2))) (rows.map (·.1))) (rows.flatMap (·.2))
end Dw

namespace Dw
open PySem
/-! the paper -/
mutual
def sizeP : Pg → Nat
  | .leaf _ _ => 1
  | .fork _ ps => 1 + sizePs ps
def sizePs : List Pg → Nat
  | [] => 0
  | p :: ps => sizeP p + sizePs ps
end
end Dw

namespace Dw
open PySem
end Dw

/-! Joins of two trees: plain. -/
namespace Dw
open PySem
theorem HP.fp {s room low h : Nat} {p : Pg} {ts : List Th} (q : HP s room low h p ts) (hr : room ≤ 100000) : FP s h p ts := by
  induction q with
  | leaf h1 h2 => exact .leaf
  | fork h1 h2 h3 h4 ih => exact .fork (by omega) ih
/-! a loop that makes a list longer -/
/-! all pairs of two rows -/
section
variable {α : Type} (f : Th → Th → Option α)
end
/-! pages and what lies beneath them -/
abbrev Bp := Pg × List Nat
abbrev Qp := Bp × Bp
mutual
def thg : Pg → List Th
  | .leaf _ ts => ts
  | .fork _ ps => thgs ps
def thgs : List Pg → List Th
  | [] => []
  | p :: ps => thg p ++ thgs ps
end
theorem thgs_map : ∀ ps : List Pg, thgs ps = ps.flatMap thg
  | [] => rfl
  | p :: ps => by rw [thgs, thgs_map ps, List.flatMap_cons]
theorem FP.thg {s h : Nat} {p : Pg} {ts : List Th} (f : FP s h p ts) : Dw.thg p = ts := by
  induction f with
  | leaf => rw [Dw.thg]
  | @fork h rows hr hf ih =>
    rw [Dw.thg, thgs_map, List.flatMap_map]
    clear hr hf
    induction rows with
    | nil => rfl
    | cons r rows ih2 => rw [List.flatMap_cons, List.flatMap_cons, ih r (by simp), ih2 fun r hr => ih r (List.mem_cons_of_mem _ hr)]
/-- two pages with what lies beneath them, and how deep they are together -/
def FQ (s m : Nat) (q : Qp) : Prop := ∃ h1 h2, FP s h1 q.1.1 (thg q.1.1) ∧ FP s h2 q.2.1 (thg q.2.1) ∧ h1 + h2 ≤ m
theorem FP.thg' {s h : Nat} {p : Pg} {ts : List Th} (f : FP s h p ts) : FP s h p (Dw.thg p) := by rw [f.thg]; exact f
/-- words of a join's paper -/
inductive Wj where
  | apart
  | whole
  | open_
  | far
deriving DecidableEq
section
variable (W : Option Td → Option Td → Wj)
end
end Dw

/-! Joins of two trees: the walk. -/
namespace Dw
open PySem
section
variable {s : Nat} (hs : s = 2 ∨ s = 3) {beat : Int} (hb : 0 ≤ beat ∧ beat ≤ 1000000000000000)
include hs hb
end
end Dw

/-! Near pairs. -/
namespace Dw
open PySem
def hh (q : Th × Th) : List Int := [q.1.h, q.2.h]
section
variable {s : Nat} {beat : Int} (hb : 0 ≤ beat)
include hb
end
section
variable {s : Nat} (hs : s = 2 ∨ s = 3) {beat : Int} (hb : 0 ≤ beat ∧ beat ≤ 1000000000000000)
include hs hb
/-- two pages that may be joined -/
structure Jo (s m : Nat) (q : Qp) : Prop where
  fq : FQ s m q
  g1 : ∀ t ∈ thg q.1.1, GT s t
  g2 : ∀ t ∈ thg q.2.1, GT s t
  p1 : q.1.2.length + m ≤ 10000
  p2 : q.2.2.length + m ≤ 10000
  z : sizeP q.1.1 * sizeP q.2.1 ≤ 100000
  z1 : sizeP q.1.1 ≤ 100000
  z2 : sizeP q.2.1 ≤ 100000
  l : (thg q.1.1).length * (thg q.2.1).length ≤ 100000
  l1 : (thg q.1.1).length ≤ 100000
  l2 : (thg q.2.1).length ≤ 100000
end
end Dw

/-! What the laws of joins draw and reckon. -/
namespace Dw
open PySem
section
variable {s : Nat} (hs : s = 2 ∨ s = 3) {beat : Int} (hb : 0 ≤ beat ∧ beat ≤ 1000000000000000)
include hs hb
end
end Dw

/-! Two trees that a law makes. -/
namespace Dw
open PySem
theorem HP.pw {s room : Nat} (hr : 4 ≤ room) {low h : Nat} {p : Pg} {ts : List Th} (q : HP s room low h p ts) : (2 ≤ low → 2 ^ (h + 1) ≤ ts.length ∧ sizeP p + 1 ≤ 2 * ts.length) ∧ (h = 0 ∨ 2 ^ h ≤ ts.length) ∧ sizeP p ≤ 2 * ts.length + 1 := by
  induction q with
  | leaf h1 h2 =>
    rw [sizeP]
    exact ⟨fun _ => ⟨by simp; omega, by omega⟩, .inl rfl, by omega⟩
  | @fork low h rows h1 h2 h3 h4 ih =>
    have lo : 2 ≤ room / 2 := by omega
    have hs : ∀ l : List (Pg × List Th), (∀ r ∈ l, 2 ^ (h + 1) ≤ r.2.length ∧ sizeP r.1 + 1 ≤ 2 * r.2.length) → sizePs (l.map (·.1)) + l.length ≤ 2 * (l.flatMap (·.2)).length ∧ l.length * 2 ^ (h + 1) ≤ (l.flatMap (·.2)).length := by
      intro l
      induction l with
      | nil => intro _; simp [sizePs]
      | cons r l ih2 =>
        intro k
        have a := k r (by simp)
        have b := ih2 fun r hr => k r (List.mem_cons_of_mem _ hr)
        rw [List.map_cons, sizePs, List.length_cons, List.flatMap_cons, List.length_append, Nat.add_mul, Nat.one_mul]
        omega
    have a := hs rows fun r hr => (ih r hr).1 lo
    have b : 2 * 2 ^ (h + 1) ≤ rows.length * 2 ^ (h + 1) := Nat.mul_le_mul_right _ h2
    have c : 2 ^ (h + 1 + 1) = 2 * 2 ^ (h + 1) := by rw [Nat.pow_succ]; omega
    rw [sizeP]
    refine ⟨fun _ => ⟨by omega, by omega⟩, .inr (by omega), by omega⟩
theorem Jo.of {s room h1 h2 : Nat} (hr : 4 ≤ room) (hr2 : room ≤ 1000) {p q : Pg} {ts us : List Th} (a : HP s room 0 h1 p ts) (b : HP s room 0 h2 q us) (gt : ∀ t ∈ ts, GT s t) (gu : ∀ t ∈ us, GT s t) (hl1 : ts.length ≤ 60) (hl2 : us.length ≤ 60) : Jo s 10 ((p, []), (q, [])) := by
  have f1 := a.fp (by omega)
  have f2 := b.fp (by omega)
  have e1 := f1.thg
  have e2 := f2.thg
  have hh : ∀ h : Nat, 2 ^ h ≤ 60 → h ≤ 5 := fun h k => by
    refine Classical.byContradiction fun z => ?_
    have : 2 ^ 6 ≤ 2 ^ h := Nat.pow_le_pow_right (by decide) (by omega)
    omega
  have w1 := (a.pw hr).2
  have w2 := (b.pw hr).2
  have i1 : h1 ≤ 5 := by
    rcases w1.1 with z | z
    · omega
    · exact hh h1 (by omega)
  have i2 : h2 ≤ 5 := by
    rcases w2.1 with z | z
    · omega
    · exact hh h2 (by omega)
  refine ⟨⟨h1, h2, f1.thg', f2.thg', by omega⟩, by rw [e1]; exact gt, by rw [e2]; exact gu, (show 0 + 10 ≤ 10000 by decide), (show 0 + 10 ≤ 10000 by decide), ?_, by show sizeP p ≤ _; omega, by show sizeP q ≤ _; omega, ?_, by show (thg p).length ≤ _; rw [e1]; omega, by show (thg q).length ≤ _; rw [e2]; omega⟩
  · show sizeP p * sizeP q ≤ _
    exact Nat.le_trans (Nat.mul_le_mul (show sizeP p ≤ 121 by omega) (show sizeP q ≤ 121 by omega)) (by decide)
  · show (thg p).length * (thg q).length ≤ _
    rw [e1, e2]
    exact Nat.le_trans (Nat.mul_le_mul hl1 hl2) (by decide)
end Dw

/-! Papers of joins, walked. -/
namespace Dw
open PySem
section
variable (W : Option Td → Option Td → Wj)
end
/-! what the laws of joins reckon of papers -/
end Dw

namespace Dw
open PySem
/-! shapes of pages -/
end Dw

namespace Dw
open PySem
end Dw

/-! The paper of near pairs, walked. -/
namespace Dw
open PySem
section
variable {s : Nat} (hs : s = 2 ∨ s = 3) {beat : Int} (hb : 0 ≤ beat ∧ beat ≤ 1000000000000000)
include hs hb
end
end Dw

/-! A thing made, by every way of the call (law_true still to be written). -/
namespace Dw
open PySem
theorem drifting_ok' (n : Nat) (b : List (Int × Int)) (v : List Int) (h : b.length ≤ 1000) : callN P (n + 1) n_drifting [encB b, .tup (v.map D.int)] = .ok (encF ((b.zip v).map fun p => (p.1.1, p.1.2, p.2, p.2))) := by
  rw [callN_eq P_drifting _ (by simp)]
  have hf : fits (min b.length v.length) = true := fits_of (by omega)
  have iz : itD .zip [encB b, .tup (v.map D.int)] = .ok ((b.zip v).map fun p => .tup [encP p.1, .int p.2]) := it_zipT encP D.int b v
  have hl : (b.zip v).length = min b.length v.length := List.length_zip ..
  unfold b_drifting encF
  simp only [Q0, Q1, Q2, Q3, Q4, Q5, Q6, Q7, Q8, Q9, Q10, Q11, Q12, Q13, Q14, Q15, Q16, Q17, Q18, Q19, Q20, Q21, Q22, Q23, Q24, Q25, Q26, Q27, Q28, Q29, Q30, Q31, Q32, Q33, Q34, Q35, Q36, Q37, Q38, Q39, Q40, Q41, Q42, Q43, Q44, Q45, Q46, Q47, Q48, Q49, Q50, Q51, Q52, Q53, Q54, Q55, Q56, Q57, Q58, Q59, Q60, Q61, Q62, Q63, Q64, Q65, Q66, Q67, Q68, Q69, Q70, Q71, lends, Q72, Q73, Q74, Q75, Q76, Q77, Q78, Q79, Q80, Q81, Q82, Q83, Q84, Q85, Q86, Q87, Q88, Q89, Q90, Q91, Q92, Q93, Q94, Q95, Q96, Q97, Q98, Q99, Q100, Q101, Q102, Q103, Q104, List.drop_succ_cons, List.drop_zero, List.take_succ_cons, List.take_zero, Q105, Q106, Q107, Q108, Q109, Q110, Q111, Q112, Q113, Q114, Q115, Q116, Q117, Q118, Q119, Q120, Q121, Q122, Q123, Q124, Q125, Q126, Q127, Q128, Q129, Q130, Q131, Q132, Q133, Q134, Q135, Q136, Q137, Q138, Q139, Q140, Q141, Q142, Q143, Q144, Q145, Q146, Q147, Q148, Q149, Q150, Q151, Q152, Q153, Q154, Q155, Q156, Q157, Q158, Q159, Q160, c_lt, c_le, c_gt, c_ge, Q161, Q162, Q163, Q164, Q165, Q166, Q167, Q168, Q169, Q170, Q171, Q172, Q173, Q174, Q175, Q176, Q177, Q178, Q179, List.all_cons, List.all_nil, Q180, Q181, Q182, Q183, Q184, Q185, Q186, Q187, Q188, at_0, at_1, at_2, at_3, at_4, at_5, at_6, at_7, Q189, Q190, Q191, Q192, Q193, Q194, Q195, Q196, Q197, Q198, Q199, Q200, Q201, Q202, Q203, Q204, Q205, Q206, Q207, Q208, Q209, Q210, Q211, Q212, Q213, Q214, Q215, Q216, Q217, Q218, Q219, Q220, Nat.reduceAdd, Nat.reduceSub, Nat.reduceMul, Nat.reduceEqDiff, Nat.reduceLeDiff, Int.reduceEq, Int.reduceNe, Int.reduceLT, Int.reduceLE, Int.reduceGT, Int.reduceGE, Int.reduceAdd, Int.reduceSub, Int.reduceMul, Int.reduceNeg, Int.reduceToNat, Int.reducePow, Int.reduceAbs, Int.cast_ofNat_Int, List.map_cons, List.map_nil, List.append_nil, List.nil_append, List.cons_append, List.length_cons, List.length_nil, List.length_map, decide_true, decide_false, decide_eq_true_eq, Bool.not_eq_true', decide_eq_false_iff_not, Bool.and_eq_true, Bool.or_eq_true, not_true_eq_false, not_false_eq_true, Bool.not_true, Bool.not_false, Bool.true_and, Bool.and_true, Bool.false_and, Bool.and_false, Bool.or_false, Bool.false_or, Bool.true_or, Bool.or_true, Bool.false_eq_true, if_true, if_false, ite_true, ite_false, reduceIte, ite_self, beq_self_eq_true, Bool.true_eq_false, Q221, Q222, String.reduceEq, Q223, Q224, Q225, Q226, Q227, Q228, Q229, Q230, Q231, Q232, Q233, Q234, Q235, Q236, Q237, Q238, Q239, Q240, Q241, Q242, Q243, Q244, Q245, Q246, Q247, Q248, Q249, Q250, Q251, Q252, Q253, Q254, Q255, Q256, Q257, Q258, Q259, Q260, Q261, Q262, Q263, Q264, Q265, Q266, Q267, Q268, Q269, Q270, Q271, Q272, Q273, Q274, Q275, Q276, dvL, mlL, mlR, pwL, Nat.reduceLT, iz, hl, hf, compA_ok, encP, encS, List.map_map]
  rfl
theorem whole_within_ok (n : Nat) (v lo hi : Int) : callN P (n + 1) n_whole_within [.int v, .int lo, .int hi] = .ok (.bl (decide (lo ≤ v) && decide (v ≤ hi))) := by
  rw [callN_eq P_whole_within _ (by simp)]
  unfold b_whole_within
  by_cases h : lo ≤ v
  · simp only [Q0, Q1, Q2, Q3, Q4, Q5, Q6, Q7, Q8, Q9, Q10, Q11, Q12, Q13, Q14, Q15, Q16, Q17, Q18, Q19, Q20, Q21, Q22, Q23, Q24, Q25, Q26, Q27, Q28, Q29, Q30, Q31, Q32, Q33, Q34, Q35, Q36, Q37, Q38, Q39, Q40, Q41, Q42, Q43, Q44, Q45, Q46, Q47, Q48, Q49, Q50, Q51, Q52, Q53, Q54, Q55, Q56, Q57, Q58, Q59, Q60, Q61, Q62, Q63, Q64, Q65, Q66, Q67, Q68, Q69, Q70, Q71, lends, Q72, Q73, Q74, Q75, Q76, Q77, Q78, Q79, Q80, Q81, Q82, Q83, Q84, Q85, Q86, Q87, Q88, Q89, Q90, Q91, Q92, Q93, Q94, Q95, Q96, Q97, Q98, Q99, Q100, Q101, Q102, Q103, Q104, List.drop_succ_cons, List.drop_zero, List.take_succ_cons, List.take_zero, Q105, Q106, Q107, Q108, Q109, Q110, Q111, Q112, Q113, Q114, Q115, Q116, Q117, Q118, Q119, Q120, Q121, Q122, Q123, Q124, Q125, Q126, Q127, Q128, Q129, Q130, Q131, Q132, Q133, Q134, Q135, Q136, Q137, Q138, Q139, Q140, Q141, Q142, Q143, Q144, Q145, Q146, Q147, Q148, Q149, Q150, Q151, Q152, Q153, Q154, Q155, Q156, Q157, Q158, Q159, Q160, c_lt, c_le, c_gt, c_ge, Q161, Q162, Q163, Q164, Q165, Q166, Q167, Q168, Q169, Q170, Q171, Q172, Q173, Q174, Q175, Q176, Q177, Q178, Q179, List.all_cons, List.all_nil, Q180, Q181, Q182, Q183, Q184, Q185, Q186, Q187, Q188, at_0, at_1, at_2, at_3, at_4, at_5, at_6, at_7, Q189, Q190, Q191, Q192, Q193, Q194, Q195, Q196, Q197, Q198, Q199, Q200, Q201, Q202, Q203, Q204, Q205, Q206, Q207, Q208, Q209, Q210, Q211, Q212, Q213, Q214, Q215, Q216, Q217, Q218, Q219, Q220, Nat.reduceAdd, Nat.reduceSub, Nat.reduceMul, Nat.reduceEqDiff, Nat.reduceLeDiff, Int.reduceEq, Int.reduceNe, Int.reduceLT, Int.reduceLE, Int.reduceGT, Int.reduceGE, Int.reduceAdd, Int.reduceSub, Int.reduceMul, Int.reduceNeg, Int.reduceToNat, Int.reducePow, Int.reduceAbs, Int.cast_ofNat_Int, List.map_cons, List.map_nil, List.append_nil, List.nil_append, List.cons_append, List.length_cons, List.length_nil, List.length_map, decide_true, decide_false, decide_eq_true_eq, Bool.not_eq_true', decide_eq_false_iff_not, Bool.and_eq_true, Bool.or_eq_true, not_true_eq_false, not_false_eq_true, Bool.not_true, Bool.not_false, Bool.true_and, Bool.and_true, Bool.false_and, Bool.and_false, Bool.or_false, Bool.false_or, Bool.true_or, Bool.or_true, Bool.false_eq_true, if_true, if_false, ite_true, ite_false, reduceIte, ite_self, beq_self_eq_true, Bool.true_eq_false, Q221, Q222, String.reduceEq, Q223, Q224, Q225, Q226, Q227, Q228, Q229, Q230, Q231, Q232, Q233, Q234, Q235, Q236, Q237, Q238, Q239, Q240, Q241, Q242, Q243, Q244, Q245, Q246, Q247, Q248, Q249, Q250, Q251, Q252, Q253, Q254, Q255, Q256, Q257, Q258, Q259, Q260, Q261, Q262, Q263, Q264, Q265, Q266, Q267, Q268, Q269, Q270, Q271, Q272, Q273, Q274, Q275, Q276, dvL, mlL, mlR, pwL, Nat.reduceLT, h]
  · simp only [Q0, Q1, Q2, Q3, Q4, Q5, Q6, Q7, Q8, Q9, Q10, Q11, Q12, Q13, Q14, Q15, Q16, Q17, Q18, Q19, Q20, Q21, Q22, Q23, Q24, Q25, Q26, Q27, Q28, Q29, Q30, Q31, Q32, Q33, Q34, Q35, Q36, Q37, Q38, Q39, Q40, Q41, Q42, Q43, Q44, Q45, Q46, Q47, Q48, Q49, Q50, Q51, Q52, Q53, Q54, Q55, Q56, Q57, Q58, Q59, Q60, Q61, Q62, Q63, Q64, Q65, Q66, Q67, Q68, Q69, Q70, Q71, lends, Q72, Q73, Q74, Q75, Q76, Q77, Q78, Q79, Q80, Q81, Q82, Q83, Q84, Q85, Q86, Q87, Q88, Q89, Q90, Q91, Q92, Q93, Q94, Q95, Q96, Q97, Q98, Q99, Q100, Q101, Q102, Q103, Q104, List.drop_succ_cons, List.drop_zero, List.take_succ_cons, List.take_zero, Q105, Q106, Q107, Q108, Q109, Q110, Q111, Q112, Q113, Q114, Q115, Q116, Q117, Q118, Q119, Q120, Q121, Q122, Q123, Q124, Q125, Q126, Q127, Q128, Q129, Q130, Q131, Q132, Q133, Q134, Q135, Q136, Q137, Q138, Q139, Q140, Q141, Q142, Q143, Q144, Q145, Q146, Q147, Q148, Q149, Q150, Q151, Q152, Q153, Q154, Q155, Q156, Q157, Q158, Q159, Q160, c_lt, c_le, c_gt, c_ge, Q161, Q162, Q163, Q164, Q165, Q166, Q167, Q168, Q169, Q170, Q171, Q172, Q173, Q174, Q175, Q176, Q177, Q178, Q179, List.all_cons, List.all_nil, Q180, Q181, Q182, Q183, Q184, Q185, Q186, Q187, Q188, at_0, at_1, at_2, at_3, at_4, at_5, at_6, at_7, Q189, Q190, Q191, Q192, Q193, Q194, Q195, Q196, Q197, Q198, Q199, Q200, Q201, Q202, Q203, Q204, Q205, Q206, Q207, Q208, Q209, Q210, Q211, Q212, Q213, Q214, Q215, Q216, Q217, Q218, Q219, Q220, Nat.reduceAdd, Nat.reduceSub, Nat.reduceMul, Nat.reduceEqDiff, Nat.reduceLeDiff, Int.reduceEq, Int.reduceNe, Int.reduceLT, Int.reduceLE, Int.reduceGT, Int.reduceGE, Int.reduceAdd, Int.reduceSub, Int.reduceMul, Int.reduceNeg, Int.reduceToNat, Int.reducePow, Int.reduceAbs, Int.cast_ofNat_Int, List.map_cons, List.map_nil, List.append_nil, List.nil_append, List.cons_append, List.length_cons, List.length_nil, List.length_map, decide_true, decide_false, decide_eq_true_eq, Bool.not_eq_true', decide_eq_false_iff_not, Bool.and_eq_true, Bool.or_eq_true, not_true_eq_false, not_false_eq_true, Bool.not_true, Bool.not_false, Bool.true_and, Bool.and_true, Bool.false_and, Bool.and_false, Bool.or_false, Bool.false_or, Bool.true_or, Bool.or_true, Bool.false_eq_true, if_true, if_false, ite_true, ite_false, reduceIte, ite_self, beq_self_eq_true, Bool.true_eq_false, Q221, Q222, String.reduceEq, Q223, Q224, Q225, Q226, Q227, Q228, Q229, Q230, Q231, Q232, Q233, Q234, Q235, Q236, Q237, Q238, Q239, Q240, Q241, Q242, Q243, Q244, Q245, Q246, Q247, Q248, Q249, Q250, Q251, Q252, Q253, Q254, Q255, Q256, Q257, Q258, Q259, Q260, Q261, Q262, Q263, Q264, Q265, Q266, Q267, Q268, Q269, Q270, Q271, Q272, Q273, Q274, Q275, Q276, dvL, mlL, mlR, pwL, Nat.reduceLT, h]
def FB (p : Int × Int) : Prop := -1000000000000000000000000000000 ≤ p.1 ∧ p.1 ≤ p.2 ∧ p.2 ≤ 1000000000000000000000000000000
theorem fine_box_ok (n : Nat) {s : Nat} (hs : s = 2 ∨ s = 3) {b : List (Int × Int)} (hb : b.length = s) (gb : ∀ p ∈ b, FB p) : callN P (n + 2) n_fine_box [encB b] = .ok (.bl true) := by
  rw [callN_eq P_fine_box _ (by simp)]
  have el : biD .len [encB b] = .ok (.int (s : Nat)) := by show M.ok (D.int _) = _; rw [List.length_map, hb]
  have loop : forD (forT (callN P (n + 1)) false [1] (loopB b_fine_box 1)) (b.map encP) [.sh (encB b), .no] = .ok (.nx [.sh (encB b), .no]) := by
    refine forD_all (enc := encP) b fun p hp => ?_
    have g := gb p hp
    unfold FB at g
    have h1 := g.1
    have h2 := g.2.1
    have h3 := g.2.2
    have h4 : p.1 ≤ 1000000000000000000000000000000 := by omega
    unfold b_fine_box encP
    simp only [Q0, Q1, Q2, Q3, Q4, Q5, Q6, Q7, Q8, Q9, Q10, Q11, Q12, Q13, Q14, Q15, Q16, Q17, Q18, Q19, Q20, Q21, Q22, Q23, Q24, Q25, Q26, Q27, Q28, Q29, Q30, Q31, Q32, Q33, Q34, Q35, Q36, Q37, Q38, Q39, Q40, Q41, Q42, Q43, Q44, Q45, Q46, Q47, Q48, Q49, Q50, Q51, Q52, Q53, Q54, Q55, Q56, Q57, Q58, Q59, Q60, Q61, Q62, Q63, Q64, Q65, Q66, Q67, Q68, Q69, Q70, Q71, lends, Q72, Q73, Q74, Q75, Q76, Q77, Q78, Q79, Q80, Q81, Q82, Q83, Q84, Q85, Q86, Q87, Q88, Q89, Q90, Q91, Q92, Q93, Q94, Q95, Q96, Q97, Q98, Q99, Q100, Q101, Q102, Q103, Q104, List.drop_succ_cons, List.drop_zero, List.take_succ_cons, List.take_zero, Q105, Q106, Q107, Q108, Q109, Q110, Q111, Q112, Q113, Q114, Q115, Q116, Q117, Q118, Q119, Q120, Q121, Q122, Q123, Q124, Q125, Q126, Q127, Q128, Q129, Q130, Q131, Q132, Q133, Q134, Q135, Q136, Q137, Q138, Q139, Q140, Q141, Q142, Q143, Q144, Q145, Q146, Q147, Q148, Q149, Q150, Q151, Q152, Q153, Q154, Q155, Q156, Q157, Q158, Q159, Q160, c_lt, c_le, c_gt, c_ge, Q161, Q162, Q163, Q164, Q165, Q166, Q167, Q168, Q169, Q170, Q171, Q172, Q173, Q174, Q175, Q176, Q177, Q178, Q179, List.all_cons, List.all_nil, Q180, Q181, Q182, Q183, Q184, Q185, Q186, Q187, Q188, at_0, at_1, at_2, at_3, at_4, at_5, at_6, at_7, Q189, Q190, Q191, Q192, Q193, Q194, Q195, Q196, Q197, Q198, Q199, Q200, Q201, Q202, Q203, Q204, Q205, Q206, Q207, Q208, Q209, Q210, Q211, Q212, Q213, Q214, Q215, Q216, Q217, Q218, Q219, Q220, Nat.reduceAdd, Nat.reduceSub, Nat.reduceMul, Nat.reduceEqDiff, Nat.reduceLeDiff, Int.reduceEq, Int.reduceNe, Int.reduceLT, Int.reduceLE, Int.reduceGT, Int.reduceGE, Int.reduceAdd, Int.reduceSub, Int.reduceMul, Int.reduceNeg, Int.reduceToNat, Int.reducePow, Int.reduceAbs, Int.cast_ofNat_Int, List.map_cons, List.map_nil, List.append_nil, List.nil_append, List.cons_append, List.length_cons, List.length_nil, List.length_map, decide_true, decide_false, decide_eq_true_eq, Bool.not_eq_true', decide_eq_false_iff_not, Bool.and_eq_true, Bool.or_eq_true, not_true_eq_false, not_false_eq_true, Bool.not_true, Bool.not_false, Bool.true_and, Bool.and_true, Bool.false_and, Bool.and_false, Bool.or_false, Bool.false_or, Bool.true_or, Bool.or_true, Bool.false_eq_true, if_true, if_false, ite_true, ite_false, reduceIte, ite_self, beq_self_eq_true, Bool.true_eq_false, Q221, Q222, String.reduceEq, Q223, Q224, Q225, Q226, Q227, Q228, Q229, Q230, Q231, Q232, Q233, Q234, Q235, Q236, Q237, Q238, Q239, Q240, Q241, Q242, Q243, Q244, Q245, Q246, Q247, Q248, Q249, Q250, Q251, Q252, Q253, Q254, Q255, Q256, Q257, Q258, Q259, Q260, Q261, Q262, Q263, Q264, Q265, Q266, Q267, Q268, Q269, Q270, Q271, Q272, Q273, Q274, Q275, Q276, dvL, mlL, mlR, pwL, Nat.reduceLT, whole_within_ok, h1, h2, h3, h4, Bool.and_self]
  have c1 : ¬ ((s : Nat) : Int) < 2 := by omega
  have c2 : ¬ (3 : Int) < ((s : Nat) : Int) := by omega
  have is : itD .seq [encB b] = .ok (b.map encP) := rfl
  have ty : tyD .tup (encB b) = true := rfl
  have ni : noIns (encB b) = true := rfl
  unfold b_fine_box at loop ⊢
  simp only [Q0, Q1, Q2, Q3, Q4, Q5, Q6, Q7, Q8, Q9, Q10, Q11, Q12, Q13, Q14, Q15, Q16, Q17, Q18, Q19, Q20, Q21, Q22, Q23, Q24, Q25, Q26, Q27, Q28, Q29, Q30, Q31, Q32, Q33, Q34, Q35, Q36, Q37, Q38, Q39, Q40, Q41, Q42, Q43, Q44, Q45, Q46, Q47, Q48, Q49, Q50, Q51, Q52, Q53, Q54, Q55, Q56, Q57, Q58, Q59, Q60, Q61, Q62, Q63, Q64, Q65, Q66, Q67, Q68, Q69, Q70, Q71, lends, Q72, Q73, Q74, Q75, Q76, Q77, Q78, Q79, Q80, Q81, Q82, Q83, Q84, Q85, Q86, Q87, Q88, Q89, Q90, Q91, Q92, Q93, Q94, Q95, Q96, Q97, Q98, Q99, Q100, Q101, Q102, Q103, Q104, List.drop_succ_cons, List.drop_zero, List.take_succ_cons, List.take_zero, Q105, Q106, Q107, Q108, Q109, Q110, Q111, Q112, Q113, Q114, Q115, Q116, Q117, Q118, Q119, Q120, Q121, Q122, Q123, Q124, Q125, Q126, Q127, Q128, Q129, Q130, Q131, Q132, Q133, Q134, Q135, Q136, Q137, Q138, Q139, Q140, Q141, Q142, Q143, Q144, Q145, Q146, Q147, Q148, Q149, Q150, Q151, Q152, Q153, Q154, Q155, Q156, Q157, Q158, Q159, Q160, c_lt, c_le, c_gt, c_ge, Q161, Q162, Q163, Q164, Q165, Q166, Q167, Q168, Q169, Q170, Q171, Q172, Q173, Q174, Q175, Q176, Q177, Q178, Q179, List.all_cons, List.all_nil, Q180, Q181, Q182, Q183, Q184, Q185, Q186, Q187, Q188, at_0, at_1, at_2, at_3, at_4, at_5, at_6, at_7, Q189, Q190, Q191, Q192, Q193, Q194, Q195, Q196, Q197, Q198, Q199, Q200, Q201, Q202, Q203, Q204, Q205, Q206, Q207, Q208, Q209, Q210, Q211, Q212, Q213, Q214, Q215, Q216, Q217, Q218, Q219, Q220, Nat.reduceAdd, Nat.reduceSub, Nat.reduceMul, Nat.reduceEqDiff, Nat.reduceLeDiff, Int.reduceEq, Int.reduceNe, Int.reduceLT, Int.reduceLE, Int.reduceGT, Int.reduceGE, Int.reduceAdd, Int.reduceSub, Int.reduceMul, Int.reduceNeg, Int.reduceToNat, Int.reducePow, Int.reduceAbs, Int.cast_ofNat_Int, List.map_cons, List.map_nil, List.append_nil, List.nil_append, List.cons_append, List.length_cons, List.length_nil, List.length_map, decide_true, decide_false, decide_eq_true_eq, Bool.not_eq_true', decide_eq_false_iff_not, Bool.and_eq_true, Bool.or_eq_true, not_true_eq_false, not_false_eq_true, Bool.not_true, Bool.not_false, Bool.true_and, Bool.and_true, Bool.false_and, Bool.and_false, Bool.or_false, Bool.false_or, Bool.true_or, Bool.or_true, Bool.false_eq_true, if_true, if_false, ite_true, ite_false, reduceIte, ite_self, beq_self_eq_true, Bool.true_eq_false, Q221, Q222, String.reduceEq, Q223, Q224, Q225, Q226, Q227, Q228, Q229, Q230, Q231, Q232, Q233, Q234, Q235, Q236, Q237, Q238, Q239, Q240, Q241, Q242, Q243, Q244, Q245, Q246, Q247, Q248, Q249, Q250, Q251, Q252, Q253, Q254, Q255, Q256, Q257, Q258, Q259, Q260, Q261, Q262, Q263, Q264, Q265, Q266, Q267, Q268, Q269, Q270, Q271, Q272, Q273, Q274, Q275, Q276, dvL, mlL, mlR, pwL, Nat.reduceLT] at loop
  simp only [Q0, Q1, Q2, Q3, Q4, Q5, Q6, Q7, Q8, Q9, Q10, Q11, Q12, Q13, Q14, Q15, Q16, Q17, Q18, Q19, Q20, Q21, Q22, Q23, Q24, Q25, Q26, Q27, Q28, Q29, Q30, Q31, Q32, Q33, Q34, Q35, Q36, Q37, Q38, Q39, Q40, Q41, Q42, Q43, Q44, Q45, Q46, Q47, Q48, Q49, Q50, Q51, Q52, Q53, Q54, Q55, Q56, Q57, Q58, Q59, Q60, Q61, Q62, Q63, Q64, Q65, Q66, Q67, Q68, Q69, Q70, Q71, lends, Q72, Q73, Q74, Q75, Q76, Q77, Q78, Q79, Q80, Q81, Q82, Q83, Q84, Q85, Q86, Q87, Q88, Q89, Q90, Q91, Q92, Q93, Q94, Q95, Q96, Q97, Q98, Q99, Q100, Q101, Q102, Q103, Q104, List.drop_succ_cons, List.drop_zero, List.take_succ_cons, List.take_zero, Q105, Q106, Q107, Q108, Q109, Q110, Q111, Q112, Q113, Q114, Q115, Q116, Q117, Q118, Q119, Q120, Q121, Q122, Q123, Q124, Q125, Q126, Q127, Q128, Q129, Q130, Q131, Q132, Q133, Q134, Q135, Q136, Q137, Q138, Q139, Q140, Q141, Q142, Q143, Q144, Q145, Q146, Q147, Q148, Q149, Q150, Q151, Q152, Q153, Q154, Q155, Q156, Q157, Q158, Q159, Q160, c_lt, c_le, c_gt, c_ge, Q161, Q162, Q163, Q164, Q165, Q166, Q167, Q168, Q169, Q170, Q171, Q172, Q173, Q174, Q175, Q176, Q177, Q178, Q179, List.all_cons, List.all_nil, Q180, Q181, Q182, Q183, Q184, Q185, Q186, Q187, Q188, at_0, at_1, at_2, at_3, at_4, at_5, at_6, at_7, Q189, Q190, Q191, Q192, Q193, Q194, Q195, Q196, Q197, Q198, Q199, Q200, Q201, Q202, Q203, Q204, Q205, Q206, Q207, Q208, Q209, Q210, Q211, Q212, Q213, Q214, Q215, Q216, Q217, Q218, Q219, Q220, Nat.reduceAdd, Nat.reduceSub, Nat.reduceMul, Nat.reduceEqDiff, Nat.reduceLeDiff, Int.reduceEq, Int.reduceNe, Int.reduceLT, Int.reduceLE, Int.reduceGT, Int.reduceGE, Int.reduceAdd, Int.reduceSub, Int.reduceMul, Int.reduceNeg, Int.reduceToNat, Int.reducePow, Int.reduceAbs, Int.cast_ofNat_Int, List.map_cons, List.map_nil, List.append_nil, List.nil_append, List.cons_append, List.length_cons, List.length_nil, List.length_map, decide_true, decide_false, decide_eq_true_eq, Bool.not_eq_true', decide_eq_false_iff_not, Bool.and_eq_true, Bool.or_eq_true, not_true_eq_false, not_false_eq_true, Bool.not_true, Bool.not_false, Bool.true_and, Bool.and_true, Bool.false_and, Bool.and_false, Bool.or_false, Bool.false_or, Bool.true_or, Bool.or_true, Bool.false_eq_true, if_true, if_false, ite_true, ite_false, reduceIte, ite_self, beq_self_eq_true, Bool.true_eq_false, Q221, Q222, String.reduceEq, Q223, Q224, Q225, Q226, Q227, Q228, Q229, Q230, Q231, Q232, Q233, Q234, Q235, Q236, Q237, Q238, Q239, Q240, Q241, Q242, Q243, Q244, Q245, Q246, Q247, Q248, Q249, Q250, Q251, Q252, Q253, Q254, Q255, Q256, Q257, Q258, Q259, Q260, Q261, Q262, Q263, Q264, Q265, Q266, Q267, Q268, Q269, Q270, Q271, Q272, Q273, Q274, Q275, Q276, dvL, mlL, mlR, pwL, Nat.reduceLT, el, c1, c2, is, loop, ty, ni]
theorem fine_speeds_ok (n : Nat) {s : Nat} {v : List Int} (hv : v.length = s) (gv : ∀ x ∈ v, -1000000000000000 ≤ x ∧ x ≤ 1000000000000000) : callN P (n + 2) n_fine_speeds [.tup (v.map D.int), .int (s : Nat)] = .ok (.bl true) := by
  rw [callN_eq P_fine_speeds _ (by simp)]
  have el : biD .len [D.tup (v.map D.int)] = .ok (.int (s : Nat)) := by rw [Q189, List.length_map, hv]
  have loop : forD (forT (callN P (n + 1)) false [2] (loopB b_fine_speeds 1)) (v.map D.int) [.sh (.tup (v.map D.int)), .no, .no] = .ok (.nx [.sh (.tup (v.map D.int)), .no, .no]) := by
    refine forD_all (enc := D.int) v fun x hx => ?_
    have g := gv x hx
    have h1 := g.1
    have h2 := g.2
    unfold b_fine_speeds
    simp only [Q0, Q1, Q2, Q3, Q4, Q5, Q6, Q7, Q8, Q9, Q10, Q11, Q12, Q13, Q14, Q15, Q16, Q17, Q18, Q19, Q20, Q21, Q22, Q23, Q24, Q25, Q26, Q27, Q28, Q29, Q30, Q31, Q32, Q33, Q34, Q35, Q36, Q37, Q38, Q39, Q40, Q41, Q42, Q43, Q44, Q45, Q46, Q47, Q48, Q49, Q50, Q51, Q52, Q53, Q54, Q55, Q56, Q57, Q58, Q59, Q60, Q61, Q62, Q63, Q64, Q65, Q66, Q67, Q68, Q69, Q70, Q71, lends, Q72, Q73, Q74, Q75, Q76, Q77, Q78, Q79, Q80, Q81, Q82, Q83, Q84, Q85, Q86, Q87, Q88, Q89, Q90, Q91, Q92, Q93, Q94, Q95, Q96, Q97, Q98, Q99, Q100, Q101, Q102, Q103, Q104, List.drop_succ_cons, List.drop_zero, List.take_succ_cons, List.take_zero, Q105, Q106, Q107, Q108, Q109, Q110, Q111, Q112, Q113, Q114, Q115, Q116, Q117, Q118, Q119, Q120, Q121, Q122, Q123, Q124, Q125, Q126, Q127, Q128, Q129, Q130, Q131, Q132, Q133, Q134, Q135, Q136, Q137, Q138, Q139, Q140, Q141, Q142, Q143, Q144, Q145, Q146, Q147, Q148, Q149, Q150, Q151, Q152, Q153, Q154, Q155, Q156, Q157, Q158, Q159, Q160, c_lt, c_le, c_gt, c_ge, Q161, Q162, Q163, Q164, Q165, Q166, Q167, Q168, Q169, Q170, Q171, Q172, Q173, Q174, Q175, Q176, Q177, Q178, Q179, List.all_cons, List.all_nil, Q180, Q181, Q182, Q183, Q184, Q185, Q186, Q187, Q188, at_0, at_1, at_2, at_3, at_4, at_5, at_6, at_7, Q189, Q190, Q191, Q192, Q193, Q194, Q195, Q196, Q197, Q198, Q199, Q200, Q201, Q202, Q203, Q204, Q205, Q206, Q207, Q208, Q209, Q210, Q211, Q212, Q213, Q214, Q215, Q216, Q217, Q218, Q219, Q220, Nat.reduceAdd, Nat.reduceSub, Nat.reduceMul, Nat.reduceEqDiff, Nat.reduceLeDiff, Int.reduceEq, Int.reduceNe, Int.reduceLT, Int.reduceLE, Int.reduceGT, Int.reduceGE, Int.reduceAdd, Int.reduceSub, Int.reduceMul, Int.reduceNeg, Int.reduceToNat, Int.reducePow, Int.reduceAbs, Int.cast_ofNat_Int, List.map_cons, List.map_nil, List.append_nil, List.nil_append, List.cons_append, List.length_cons, List.length_nil, List.length_map, decide_true, decide_false, decide_eq_true_eq, Bool.not_eq_true', decide_eq_false_iff_not, Bool.and_eq_true, Bool.or_eq_true, not_true_eq_false, not_false_eq_true, Bool.not_true, Bool.not_false, Bool.true_and, Bool.and_true, Bool.false_and, Bool.and_false, Bool.or_false, Bool.false_or, Bool.true_or, Bool.or_true, Bool.false_eq_true, if_true, if_false, ite_true, ite_false, reduceIte, ite_self, beq_self_eq_true, Bool.true_eq_false, Q221, Q222, String.reduceEq, Q223, Q224, Q225, Q226, Q227, Q228, Q229, Q230, Q231, Q232, Q233, Q234, Q235, Q236, Q237, Q238, Q239, Q240, Q241, Q242, Q243, Q244, Q245, Q246, Q247, Q248, Q249, Q250, Q251, Q252, Q253, Q254, Q255, Q256, Q257, Q258, Q259, Q260, Q261, Q262, Q263, Q264, Q265, Q266, Q267, Q268, Q269, Q270, Q271, Q272, Q273, Q274, Q275, Q276, dvL, mlL, mlR, pwL, Nat.reduceLT, whole_within_ok, h1, h2, Bool.and_self]
  unfold b_fine_speeds at loop ⊢
  simp only [Q0, Q1, Q2, Q3, Q4, Q5, Q6, Q7, Q8, Q9, Q10, Q11, Q12, Q13, Q14, Q15, Q16, Q17, Q18, Q19, Q20, Q21, Q22, Q23, Q24, Q25, Q26, Q27, Q28, Q29, Q30, Q31, Q32, Q33, Q34, Q35, Q36, Q37, Q38, Q39, Q40, Q41, Q42, Q43, Q44, Q45, Q46, Q47, Q48, Q49, Q50, Q51, Q52, Q53, Q54, Q55, Q56, Q57, Q58, Q59, Q60, Q61, Q62, Q63, Q64, Q65, Q66, Q67, Q68, Q69, Q70, Q71, lends, Q72, Q73, Q74, Q75, Q76, Q77, Q78, Q79, Q80, Q81, Q82, Q83, Q84, Q85, Q86, Q87, Q88, Q89, Q90, Q91, Q92, Q93, Q94, Q95, Q96, Q97, Q98, Q99, Q100, Q101, Q102, Q103, Q104, List.drop_succ_cons, List.drop_zero, List.take_succ_cons, List.take_zero, Q105, Q106, Q107, Q108, Q109, Q110, Q111, Q112, Q113, Q114, Q115, Q116, Q117, Q118, Q119, Q120, Q121, Q122, Q123, Q124, Q125, Q126, Q127, Q128, Q129, Q130, Q131, Q132, Q133, Q134, Q135, Q136, Q137, Q138, Q139, Q140, Q141, Q142, Q143, Q144, Q145, Q146, Q147, Q148, Q149, Q150, Q151, Q152, Q153, Q154, Q155, Q156, Q157, Q158, Q159, Q160, c_lt, c_le, c_gt, c_ge, Q161, Q162, Q163, Q164, Q165, Q166, Q167, Q168, Q169, Q170, Q171, Q172, Q173, Q174, Q175, Q176, Q177, Q178, Q179, List.all_cons, List.all_nil, Q180, Q181, Q182, Q183, Q184, Q185, Q186, Q187, Q188, at_0, at_1, at_2, at_3, at_4, at_5, at_6, at_7, Q189, Q190, Q191, Q192, Q193, Q194, Q195, Q196, Q197, Q198, Q199, Q200, Q201, Q202, Q203, Q204, Q205, Q206, Q207, Q208, Q209, Q210, Q211, Q212, Q213, Q214, Q215, Q216, Q217, Q218, Q219, Q220, Nat.reduceAdd, Nat.reduceSub, Nat.reduceMul, Nat.reduceEqDiff, Nat.reduceLeDiff, Int.reduceEq, Int.reduceNe, Int.reduceLT, Int.reduceLE, Int.reduceGT, Int.reduceGE, Int.reduceAdd, Int.reduceSub, Int.reduceMul, Int.reduceNeg, Int.reduceToNat, Int.reducePow, Int.reduceAbs, Int.cast_ofNat_Int, List.map_cons, List.map_nil, List.append_nil, List.nil_append, List.cons_append, List.length_cons, List.length_nil, List.length_map, decide_true, decide_false, decide_eq_true_eq, Bool.not_eq_true', decide_eq_false_iff_not, Bool.and_eq_true, Bool.or_eq_true, not_true_eq_false, not_false_eq_true, Bool.not_true, Bool.not_false, Bool.true_and, Bool.and_true, Bool.false_and, Bool.and_false, Bool.or_false, Bool.false_or, Bool.true_or, Bool.or_true, Bool.false_eq_true, if_true, if_false, ite_true, ite_false, reduceIte, ite_self, beq_self_eq_true, Bool.true_eq_false, Q221, Q222, String.reduceEq, Q223, Q224, Q225, Q226, Q227, Q228, Q229, Q230, Q231, Q232, Q233, Q234, Q235, Q236, Q237, Q238, Q239, Q240, Q241, Q242, Q243, Q244, Q245, Q246, Q247, Q248, Q249, Q250, Q251, Q252, Q253, Q254, Q255, Q256, Q257, Q258, Q259, Q260, Q261, Q262, Q263, Q264, Q265, Q266, Q267, Q268, Q269, Q270, Q271, Q272, Q273, Q274, Q275, Q276, dvL, mlL, mlR, pwL, Nat.reduceLT] at loop
  simp only [Q0, Q1, Q2, Q3, Q4, Q5, Q6, Q7, Q8, Q9, Q10, Q11, Q12, Q13, Q14, Q15, Q16, Q17, Q18, Q19, Q20, Q21, Q22, Q23, Q24, Q25, Q26, Q27, Q28, Q29, Q30, Q31, Q32, Q33, Q34, Q35, Q36, Q37, Q38, Q39, Q40, Q41, Q42, Q43, Q44, Q45, Q46, Q47, Q48, Q49, Q50, Q51, Q52, Q53, Q54, Q55, Q56, Q57, Q58, Q59, Q60, Q61, Q62, Q63, Q64, Q65, Q66, Q67, Q68, Q69, Q70, Q71, lends, Q72, Q73, Q74, Q75, Q76, Q77, Q78, Q79, Q80, Q81, Q82, Q83, Q84, Q85, Q86, Q87, Q88, Q89, Q90, Q91, Q92, Q93, Q94, Q95, Q96, Q97, Q98, Q99, Q100, Q101, Q102, Q103, Q104, List.drop_succ_cons, List.drop_zero, List.take_succ_cons, List.take_zero, Q105, Q106, Q107, Q108, Q109, Q110, Q111, Q112, Q113, Q114, Q115, Q116, Q117, Q118, Q119, Q120, Q121, Q122, Q123, Q124, Q125, Q126, Q127, Q128, Q129, Q130, Q131, Q132, Q133, Q134, Q135, Q136, Q137, Q138, Q139, Q140, Q141, Q142, Q143, Q144, Q145, Q146, Q147, Q148, Q149, Q150, Q151, Q152, Q153, Q154, Q155, Q156, Q157, Q158, Q159, Q160, c_lt, c_le, c_gt, c_ge, Q161, Q162, Q163, Q164, Q165, Q166, Q167, Q168, Q169, Q170, Q171, Q172, Q173, Q174, Q175, Q176, Q177, Q178, Q179, List.all_cons, List.all_nil, Q180, Q181, Q182, Q183, Q184, Q185, Q186, Q187, Q188, at_0, at_1, at_2, at_3, at_4, at_5, at_6, at_7, Q189, Q190, Q191, Q192, Q193, Q194, Q195, Q196, Q197, Q198, Q199, Q200, Q201, Q202, Q203, Q204, Q205, Q206, Q207, Q208, Q209, Q210, Q211, Q212, Q213, Q214, Q215, Q216, Q217, Q218, Q219, Q220, Nat.reduceAdd, Nat.reduceSub, Nat.reduceMul, Nat.reduceEqDiff, Nat.reduceLeDiff, Int.reduceEq, Int.reduceNe, Int.reduceLT, Int.reduceLE, Int.reduceGT, Int.reduceGE, Int.reduceAdd, Int.reduceSub, Int.reduceMul, Int.reduceNeg, Int.reduceToNat, Int.reducePow, Int.reduceAbs, Int.cast_ofNat_Int, List.map_cons, List.map_nil, List.append_nil, List.nil_append, List.cons_append, List.length_cons, List.length_nil, List.length_map, decide_true, decide_false, decide_eq_true_eq, Bool.not_eq_true', decide_eq_false_iff_not, Bool.and_eq_true, Bool.or_eq_true, not_true_eq_false, not_false_eq_true, Bool.not_true, Bool.not_false, Bool.true_and, Bool.and_true, Bool.false_and, Bool.and_false, Bool.or_false, Bool.false_or, Bool.true_or, Bool.or_true, Bool.false_eq_true, if_true, if_false, ite_true, ite_false, reduceIte, ite_self, beq_self_eq_true, Bool.true_eq_false, Q221, Q222, String.reduceEq, Q223, Q224, Q225, Q226, Q227, Q228, Q229, Q230, Q231, Q232, Q233, Q234, Q235, Q236, Q237, Q238, Q239, Q240, Q241, Q242, Q243, Q244, Q245, Q246, Q247, Q248, Q249, Q250, Q251, Q252, Q253, Q254, Q255, Q256, Q257, Q258, Q259, Q260, Q261, Q262, Q263, Q264, Q265, Q266, Q267, Q268, Q269, Q270, Q271, Q272, Q273, Q274, Q275, Q276, dvL, mlL, mlR, pwL, Nat.reduceLT, el, c_ne, Q219, loop]
def swOf (b : List (Int × Int)) (v : List Int) : List Sd := (b.zip v).map fun p => (p.1.1, p.1.2, p.2, p.2)
theorem make_thing_ok (n : Nat) {s : Nat} (hs : s = 2 ∨ s = 3) {b : List (Int × Int)} (hb : b.length = s) (gb : ∀ p ∈ b, FB p) {v : List Int} (hv : v.length = s) (gv : ∀ x ∈ v, -1000000000000000 ≤ x ∧ x ≤ 1000000000000000)
    {h m w : Int} (gh : 0 ≤ h ∧ h ≤ 1000000000000000000) (gm : 0 ≤ m ∧ m ≤ 65535) (gw : -1000000000000000000000000000000 ≤ w ∧ w ≤ 1000000000000000000000000000000) :
    callN P (n + 3) n_make_thing [.int h, encB b, .tup (v.map D.int), .int m, .int w] = .ok (encT ⟨h, swOf b v, m, w⟩) := by
  rw [callN_eq P_make_thing _ (by simp)]
  have el : biD .len [encB b] = .ok (.int (s : Nat)) := by show M.ok (D.int _) = _; rw [List.length_map, hb]
  have fb := fine_box_ok n hs hb gb
  have fs := fine_speeds_ok n hv gv
  have dr := drifting_ok' (n + 1) b v (by omega)
  have h1 := gh.1
  have h2 := gh.2
  have m1 := gm.1
  have m2 := gm.2
  have w1 := gw.1
  have w2 := gw.2
  have nt : isNon (.tup (v.map D.int)) = false := rfl
  unfold b_make_thing encT swOf
  simp only [Q0, Q1, Q2, Q3, Q4, Q5, Q6, Q7, Q8, Q9, Q10, Q11, Q12, Q13, Q14, Q15, Q16, Q17, Q18, Q19, Q20, Q21, Q22, Q23, Q24, Q25, Q26, Q27, Q28, Q29, Q30, Q31, Q32, Q33, Q34, Q35, Q36, Q37, Q38, Q39, Q40, Q41, Q42, Q43, Q44, Q45, Q46, Q47, Q48, Q49, Q50, Q51, Q52, Q53, Q54, Q55, Q56, Q57, Q58, Q59, Q60, Q61, Q62, Q63, Q64, Q65, Q66, Q67, Q68, Q69, Q70, Q71, lends, Q72, Q73, Q74, Q75, Q76, Q77, Q78, Q79, Q80, Q81, Q82, Q83, Q84, Q85, Q86, Q87, Q88, Q89, Q90, Q91, Q92, Q93, Q94, Q95, Q96, Q97, Q98, Q99, Q100, Q101, Q102, Q103, Q104, List.drop_succ_cons, List.drop_zero, List.take_succ_cons, List.take_zero, Q105, Q106, Q107, Q108, Q109, Q110, Q111, Q112, Q113, Q114, Q115, Q116, Q117, Q118, Q119, Q120, Q121, Q122, Q123, Q124, Q125, Q126, Q127, Q128, Q129, Q130, Q131, Q132, Q133, Q134, Q135, Q136, Q137, Q138, Q139, Q140, Q141, Q142, Q143, Q144, Q145, Q146, Q147, Q148, Q149, Q150, Q151, Q152, Q153, Q154, Q155, Q156, Q157, Q158, Q159, Q160, c_lt, c_le, c_gt, c_ge, Q161, Q162, Q163, Q164, Q165, Q166, Q167, Q168, Q169, Q170, Q171, Q172, Q173, Q174, Q175, Q176, Q177, Q178, Q179, List.all_cons, List.all_nil, Q180, Q181, Q182, Q183, Q184, Q185, Q186, Q187, Q188, at_0, at_1, at_2, at_3, at_4, at_5, at_6, at_7, Q189, Q190, Q191, Q192, Q193, Q194, Q195, Q196, Q197, Q198, Q199, Q200, Q201, Q202, Q203, Q204, Q205, Q206, Q207, Q208, Q209, Q210, Q211, Q212, Q213, Q214, Q215, Q216, Q217, Q218, Q219, Q220, Nat.reduceAdd, Nat.reduceSub, Nat.reduceMul, Nat.reduceEqDiff, Nat.reduceLeDiff, Int.reduceEq, Int.reduceNe, Int.reduceLT, Int.reduceLE, Int.reduceGT, Int.reduceGE, Int.reduceAdd, Int.reduceSub, Int.reduceMul, Int.reduceNeg, Int.reduceToNat, Int.reducePow, Int.reduceAbs, Int.cast_ofNat_Int, List.map_cons, List.map_nil, List.append_nil, List.nil_append, List.cons_append, List.length_cons, List.length_nil, List.length_map, decide_true, decide_false, decide_eq_true_eq, Bool.not_eq_true', decide_eq_false_iff_not, Bool.and_eq_true, Bool.or_eq_true, not_true_eq_false, not_false_eq_true, Bool.not_true, Bool.not_false, Bool.true_and, Bool.and_true, Bool.false_and, Bool.and_false, Bool.or_false, Bool.false_or, Bool.true_or, Bool.or_true, Bool.false_eq_true, if_true, if_false, ite_true, ite_false, reduceIte, ite_self, beq_self_eq_true, Bool.true_eq_false, Q221, Q222, String.reduceEq, Q223, Q224, Q225, Q226, Q227, Q228, Q229, Q230, Q231, Q232, Q233, Q234, Q235, Q236, Q237, Q238, Q239, Q240, Q241, Q242, Q243, Q244, Q245, Q246, Q247, Q248, Q249, Q250, Q251, Q252, Q253, Q254, Q255, Q256, Q257, Q258, Q259, Q260, Q261, Q262, Q263, Q264, Q265, Q266, Q267, Q268, Q269, Q270, Q271, Q272, Q273, Q274, Q275, Q276, dvL, mlL, mlR, pwL, Nat.reduceLT, whole_within_ok, h1, h2, m1, m2, w1, w2, fb, fs, dr, el, nt, Bool.and_self]
theorem make_thing_0 (n : Nat) {s : Nat} (hs : s = 2 ∨ s = 3) {b : List (Int × Int)} (hb : b.length = s) (gb : ∀ p ∈ b, FB p)
    {h m w : Int} (gh : 0 ≤ h ∧ h ≤ 1000000000000000000) (gm : 0 ≤ m ∧ m ≤ 65535) (gw : -1000000000000000000000000000000 ≤ w ∧ w ≤ 1000000000000000000000000000000) :
    callN P (n + 3) n_make_thing [.int h, encB b, .non, .int m, .int w] = .ok (encT ⟨h, swOf b (b.map fun _ => (0 : Int)), m, w⟩) := by
  rw [callN_eq P_make_thing _ (by simp)]
  have el : biD .len [encB b] = .ok (.int (s : Nat)) := by show M.ok (D.int _) = _; rw [List.length_map, hb]
  have fb := fine_box_ok n hs hb gb
  have fs := fine_speeds_ok n (v := b.map fun _ => (0 : Int)) (by rw [List.length_map, hb]) (fun x hx => by obtain ⟨_, _, rfl⟩ := List.mem_map.1 hx; decide)
  have dr := drifting_ok' (n + 1) b (b.map fun _ => (0 : Int)) (by omega)
  have h1 := gh.1
  have h2 := gh.2
  have m1 := gm.1
  have m2 := gm.2
  have w1 := gw.1
  have w2 := gw.2
  have cz : evE (callN P (n + 2)) (.comp (.con (.int 0)) [5] .seq [(.var 1)] none) [.sh (.int h), .sh (encB b), .no, .sh (.int m), .sh (.int w), .no] = .ok (.lst ((b.map fun _ => (0 : Int)).map D.int)) := by
    have := ev_compST (F := callN P (n + 2)) (elt := .con (.int 0)) (v := .var 1) (i := 5) (ρ := [.sh (.int h), .sh (encB b), .no, .sh (.int m), .sh (.int w), .no]) (l := b) (enc := encP) (G := fun _ => .int 0) (by simp only [Q0, Q1, Q2, Q3, Q4, Q5, Q6, Q7, Q8, Q9, Q10, Q11, Q12, Q13, Q14, Q15, Q16, Q17, Q18, Q19, Q20, Q21, Q22, Q23, Q24, Q25, Q26, Q27, Q28, Q29, Q30, Q31, Q32, Q33, Q34, Q35, Q36, Q37, Q38, Q39, Q40, Q41, Q42, Q43, Q44, Q45, Q46, Q47, Q48, Q49, Q50, Q51, Q52, Q53, Q54, Q55, Q56, Q57, Q58, Q59, Q60, Q61, Q62, Q63, Q64, Q65, Q66, Q67, Q68, Q69, Q70, Q71, lends, Q72, Q73, Q74, Q75, Q76, Q77, Q78, Q79, Q80, Q81, Q82, Q83, Q84, Q85, Q86, Q87, Q88, Q89, Q90, Q91, Q92, Q93, Q94, Q95, Q96, Q97, Q98, Q99, Q100, Q101, Q102, Q103, Q104, List.drop_succ_cons, List.drop_zero, List.take_succ_cons, List.take_zero, Q105, Q106, Q107, Q108, Q109, Q110, Q111, Q112, Q113, Q114, Q115, Q116, Q117, Q118, Q119, Q120, Q121, Q122, Q123, Q124, Q125, Q126, Q127, Q128, Q129, Q130, Q131, Q132, Q133, Q134, Q135, Q136, Q137, Q138, Q139, Q140, Q141, Q142, Q143, Q144, Q145, Q146, Q147, Q148, Q149, Q150, Q151, Q152, Q153, Q154, Q155, Q156, Q157, Q158, Q159, Q160, c_lt, c_le, c_gt, c_ge, Q161, Q162, Q163, Q164, Q165, Q166, Q167, Q168, Q169, Q170, Q171, Q172, Q173, Q174, Q175, Q176, Q177, Q178, Q179, List.all_cons, List.all_nil, Q180, Q181, Q182, Q183, Q184, Q185, Q186, Q187, Q188, at_0, at_1, at_2, at_3, at_4, at_5, at_6, at_7, Q189, Q190, Q191, Q192, Q193, Q194, Q195, Q196, Q197, Q198, Q199, Q200, Q201, Q202, Q203, Q204, Q205, Q206, Q207, Q208, Q209, Q210, Q211, Q212, Q213, Q214, Q215, Q216, Q217, Q218, Q219, Q220, Nat.reduceAdd, Nat.reduceSub, Nat.reduceMul, Nat.reduceEqDiff, Nat.reduceLeDiff, Int.reduceEq, Int.reduceNe, Int.reduceLT, Int.reduceLE, Int.reduceGT, Int.reduceGE, Int.reduceAdd, Int.reduceSub, Int.reduceMul, Int.reduceNeg, Int.reduceToNat, Int.reducePow, Int.reduceAbs, Int.cast_ofNat_Int, List.map_cons, List.map_nil, List.append_nil, List.nil_append, List.cons_append, List.length_cons, List.length_nil, List.length_map, decide_true, decide_false, decide_eq_true_eq, Bool.not_eq_true', decide_eq_false_iff_not, Bool.and_eq_true, Bool.or_eq_true, not_true_eq_false, not_false_eq_true, Bool.not_true, Bool.not_false, Bool.true_and, Bool.and_true, Bool.false_and, Bool.and_false, Bool.or_false, Bool.false_or, Bool.true_or, Bool.or_true, Bool.false_eq_true, if_true, if_false, ite_true, ite_false, reduceIte, ite_self, beq_self_eq_true, Bool.true_eq_false, Q221, Q222, String.reduceEq, Q223, Q224, Q225, Q226, Q227, Q228, Q229, Q230, Q231, Q232, Q233, Q234, Q235, Q236, Q237, Q238, Q239, Q240, Q241, Q242, Q243, Q244, Q245, Q246, Q247, Q248, Q249, Q250, Q251, Q252, Q253, Q254, Q255, Q256, Q257, Q258, Q259, Q260, Q261, Q262, Q263, Q264, Q265, Q266, Q267, Q268, Q269, Q270, Q271, Q272, Q273, Q274, Q275, Q276, dvL, mlL, mlR, pwL, Nat.reduceLT]; try rfl) (by omega) (fun x _ => by simp only [Q0, Q1, Q2, Q3, Q4, Q5, Q6, Q7, Q8, Q9, Q10, Q11, Q12, Q13, Q14, Q15, Q16, Q17, Q18, Q19, Q20, Q21, Q22, Q23, Q24, Q25, Q26, Q27, Q28, Q29, Q30, Q31, Q32, Q33, Q34, Q35, Q36, Q37, Q38, Q39, Q40, Q41, Q42, Q43, Q44, Q45, Q46, Q47, Q48, Q49, Q50, Q51, Q52, Q53, Q54, Q55, Q56, Q57, Q58, Q59, Q60, Q61, Q62, Q63, Q64, Q65, Q66, Q67, Q68, Q69, Q70, Q71, lends, Q72, Q73, Q74, Q75, Q76, Q77, Q78, Q79, Q80, Q81, Q82, Q83, Q84, Q85, Q86, Q87, Q88, Q89, Q90, Q91, Q92, Q93, Q94, Q95, Q96, Q97, Q98, Q99, Q100, Q101, Q102, Q103, Q104, List.drop_succ_cons, List.drop_zero, List.take_succ_cons, List.take_zero, Q105, Q106, Q107, Q108, Q109, Q110, Q111, Q112, Q113, Q114, Q115, Q116, Q117, Q118, Q119, Q120, Q121, Q122, Q123, Q124, Q125, Q126, Q127, Q128, Q129, Q130, Q131, Q132, Q133, Q134, Q135, Q136, Q137, Q138, Q139, Q140, Q141, Q142, Q143, Q144, Q145, Q146, Q147, Q148, Q149, Q150, Q151, Q152, Q153, Q154, Q155, Q156, Q157, Q158, Q159, Q160, c_lt, c_le, c_gt, c_ge, Q161, Q162, Q163, Q164, Q165, Q166, Q167, Q168, Q169, Q170, Q171, Q172, Q173, Q174, Q175, Q176, Q177, Q178, Q179, List.all_cons, List.all_nil, Q180, Q181, Q182, Q183, Q184, Q185, Q186, Q187, Q188, at_0, at_1, at_2, at_3, at_4, at_5, at_6, at_7, Q189, Q190, Q191, Q192, Q193, Q194, Q195, Q196, Q197, Q198, Q199, Q200, Q201, Q202, Q203, Q204, Q205, Q206, Q207, Q208, Q209, Q210, Q211, Q212, Q213, Q214, Q215, Q216, Q217, Q218, Q219, Q220, Nat.reduceAdd, Nat.reduceSub, Nat.reduceMul, Nat.reduceEqDiff, Nat.reduceLeDiff, Int.reduceEq, Int.reduceNe, Int.reduceLT, Int.reduceLE, Int.reduceGT, Int.reduceGE, Int.reduceAdd, Int.reduceSub, Int.reduceMul, Int.reduceNeg, Int.reduceToNat, Int.reducePow, Int.reduceAbs, Int.cast_ofNat_Int, List.map_cons, List.map_nil, List.append_nil, List.nil_append, List.cons_append, List.length_cons, List.length_nil, List.length_map, decide_true, decide_false, decide_eq_true_eq, Bool.not_eq_true', decide_eq_false_iff_not, Bool.and_eq_true, Bool.or_eq_true, not_true_eq_false, not_false_eq_true, Bool.not_true, Bool.not_false, Bool.true_and, Bool.and_true, Bool.false_and, Bool.and_false, Bool.or_false, Bool.false_or, Bool.true_or, Bool.or_true, Bool.false_eq_true, if_true, if_false, ite_true, ite_false, reduceIte, ite_self, beq_self_eq_true, Bool.true_eq_false, Q221, Q222, String.reduceEq, Q223, Q224, Q225, Q226, Q227, Q228, Q229, Q230, Q231, Q232, Q233, Q234, Q235, Q236, Q237, Q238, Q239, Q240, Q241, Q242, Q243, Q244, Q245, Q246, Q247, Q248, Q249, Q250, Q251, Q252, Q253, Q254, Q255, Q256, Q257, Q258, Q259, Q260, Q261, Q262, Q263, Q264, Q265, Q266, Q267, Q268, Q269, Q270, Q271, Q272, Q273, Q274, Q275, Q276, dvL, mlL, mlR, pwL, Nat.reduceLT])
    rw [this, List.map_map]; rfl
  generalize (b.map fun _ => (0 : Int)) = v at fs dr cz ⊢
  unfold b_make_thing encT swOf
  simp only [Q0, Q1, Q2, Q3, Q4, Q5, Q6, Q7, Q8, Q9, Q10, Q11, Q12, Q13, Q14, Q15, Q16, Q17, Q18, Q19, Q20, Q21, Q22, Q23, Q24, Q25, Q26, Q27, Q28, Q29, Q30, Q31, Q32, Q33, Q34, Q35, Q36, Q37, Q38, Q39, Q40, Q41, Q42, Q43, Q44, Q45, Q46, Q47, Q48, Q49, Q50, Q51, Q52, Q53, Q54, Q55, Q56, Q57, Q58, Q59, Q60, Q61, Q62, Q63, Q64, Q65, Q66, Q67, Q68, Q69, Q70, Q71, lends, Q72, Q73, Q74, Q75, Q76, Q77, Q78, Q80, Q81, Q82, Q83, Q84, Q85, Q86, Q87, Q88, Q89, Q90, Q91, Q92, Q93, Q94, Q95, Q96, Q97, Q98, Q99, Q100, Q101, Q102, Q103, Q104, List.drop_succ_cons, List.drop_zero, List.take_succ_cons, List.take_zero, Q105, Q106, Q107, Q108, Q109, Q110, Q111, Q112, Q113, Q114, Q115, Q116, Q117, Q118, Q119, Q120, Q121, Q122, Q123, Q124, Q125, Q126, Q127, Q128, Q129, Q130, Q131, Q132, Q133, Q134, Q135, Q136, Q137, Q138, Q139, Q140, Q141, Q142, Q143, Q144, Q145, Q146, Q147, Q148, Q149, Q150, Q151, Q152, Q153, Q154, Q155, Q156, Q157, Q158, Q159, Q160, c_lt, c_le, c_gt, c_ge, Q161, Q162, Q163, Q164, Q165, Q166, Q167, Q168, Q169, Q170, Q171, Q172, Q173, Q174, Q175, Q176, Q177, Q178, Q179, List.all_cons, List.all_nil, Q180, Q181, Q182, Q183, Q184, Q185, Q186, Q187, Q188, at_0, at_1, at_2, at_3, at_4, at_5, at_6, at_7, Q189, Q190, Q191, Q192, Q193, Q194, Q195, Q196, Q197, Q198, Q199, Q200, Q201, Q202, Q203, Q204, Q205, Q206, Q207, Q208, Q209, Q210, Q211, Q212, Q213, Q214, Q215, Q216, Q217, Q218, Q219, Q220, Nat.reduceAdd, Nat.reduceSub, Nat.reduceMul, Nat.reduceEqDiff, Nat.reduceLeDiff, Int.reduceEq, Int.reduceNe, Int.reduceLT, Int.reduceLE, Int.reduceGT, Int.reduceGE, Int.reduceAdd, Int.reduceSub, Int.reduceMul, Int.reduceNeg, Int.reduceToNat, Int.reducePow, Int.reduceAbs, Int.cast_ofNat_Int, List.map_cons, List.map_nil, List.append_nil, List.nil_append, List.cons_append, List.length_cons, List.length_nil, List.length_map, decide_true, decide_false, decide_eq_true_eq, Bool.not_eq_true', decide_eq_false_iff_not, Bool.and_eq_true, Bool.or_eq_true, not_true_eq_false, not_false_eq_true, Bool.not_true, Bool.not_false, Bool.true_and, Bool.and_true, Bool.false_and, Bool.and_false, Bool.or_false, Bool.false_or, Bool.true_or, Bool.or_true, Bool.false_eq_true, if_true, if_false, ite_true, ite_false, reduceIte, ite_self, beq_self_eq_true, Bool.true_eq_false, Q221, Q222, String.reduceEq, Q223, Q224, Q225, Q226, Q227, Q228, Q229, Q230, Q231, Q232, Q233, Q234, Q235, Q236, Q237, Q238, Q239, Q240, Q241, Q242, Q243, Q244, Q245, Q246, Q247, Q248, Q249, Q250, Q251, Q252, Q253, Q254, Q255, Q256, Q257, Q258, Q259, Q260, Q261, Q262, Q263, Q264, Q265, Q266, Q267, Q268, Q269, Q270, Q271, Q272, Q273, Q274, Q275, Q276, dvL, mlL, mlR, pwL, Nat.reduceLT, whole_within_ok, h1, h2, m1, m2, w1, w2, fb, fs, dr, el, cz, isNon, Bool.and_self]
theorem law_number_by_ok (n : Nat) (l c bd : Int) (hb : 8 ≤ bd ∧ bd ≤ 1000000000000000000000000000000) : ∃ v, (-bd ≤ v ∧ v ≤ bd) ∧ callN P (n + 1) n_law_number_by [.int l, .int c, .int bd] = .ok (.int v) := by
  rw [callN_eq P_law_number_by _ (by simp)]
  have m9 := emod_bd (l / 4) 9 (by decide)
  by_cases h1 : l % 4 = 1
  · refine ⟨bd - l / 4 % 9, by omega, ?_⟩
    unfold b_law_number_by
    simp only [Q0, Q1, Q2, Q3, Q4, Q5, Q6, Q7, Q8, Q9, Q10, Q11, Q12, Q13, Q14, Q15, Q16, Q17, Q18, Q19, Q20, Q21, Q22, Q23, Q24, Q25, Q26, Q27, Q28, Q29, Q30, Q31, Q32, Q33, Q34, Q35, Q36, Q37, Q38, Q39, Q40, Q41, Q42, Q43, Q44, Q45, Q46, Q47, Q48, Q49, Q50, Q51, Q52, Q53, Q54, Q55, Q56, Q57, Q58, Q59, Q60, Q61, Q62, Q63, Q64, Q65, Q66, Q67, Q68, Q69, Q70, Q71, lends, Q72, Q73, Q74, Q75, Q76, Q77, Q78, Q79, Q80, Q81, Q82, Q83, Q84, Q85, Q86, Q87, Q88, Q89, Q90, Q91, Q92, Q93, Q94, Q95, Q96, Q97, Q98, Q99, Q100, Q101, Q102, Q103, Q104, List.drop_succ_cons, List.drop_zero, List.take_succ_cons, List.take_zero, Q105, Q106, Q107, Q108, Q109, Q110, Q111, Q112, Q113, Q114, Q115, Q116, Q117, Q118, Q119, Q120, Q121, Q122, Q123, Q124, Q125, Q126, Q127, Q128, Q129, Q130, Q131, Q132, Q133, Q134, Q135, Q136, Q137, Q138, Q139, Q140, Q141, Q142, Q143, Q144, Q145, Q146, Q147, Q148, Q149, Q150, Q151, Q152, Q153, Q154, Q155, Q156, Q157, Q158, Q159, Q160, c_lt, c_le, c_gt, c_ge, Q161, Q162, Q163, Q164, Q165, Q166, Q167, Q168, Q169, Q170, Q171, Q172, Q173, Q174, Q175, Q176, Q177, Q178, Q179, List.all_cons, List.all_nil, Q180, Q181, Q182, Q183, Q184, Q185, Q186, Q187, Q188, at_0, at_1, at_2, at_3, at_4, at_5, at_6, at_7, Q189, Q190, Q191, Q192, Q193, Q194, Q195, Q196, Q197, Q198, Q199, Q200, Q201, Q202, Q203, Q204, Q205, Q206, Q207, Q208, Q209, Q210, Q211, Q212, Q213, Q214, Q215, Q216, Q217, Q218, Q219, Q220, Nat.reduceAdd, Nat.reduceSub, Nat.reduceMul, Nat.reduceEqDiff, Nat.reduceLeDiff, Int.reduceEq, Int.reduceNe, Int.reduceLT, Int.reduceLE, Int.reduceGT, Int.reduceGE, Int.reduceAdd, Int.reduceSub, Int.reduceMul, Int.reduceNeg, Int.reduceToNat, Int.reducePow, Int.reduceAbs, Int.cast_ofNat_Int, List.map_cons, List.map_nil, List.append_nil, List.nil_append, List.cons_append, List.length_cons, List.length_nil, List.length_map, decide_true, decide_false, decide_eq_true_eq, Bool.not_eq_true', decide_eq_false_iff_not, Bool.and_eq_true, Bool.or_eq_true, not_true_eq_false, not_false_eq_true, Bool.not_true, Bool.not_false, Bool.true_and, Bool.and_true, Bool.false_and, Bool.and_false, Bool.or_false, Bool.false_or, Bool.true_or, Bool.or_true, Bool.false_eq_true, if_true, if_false, ite_true, ite_false, reduceIte, ite_self, beq_self_eq_true, Bool.true_eq_false, Q221, Q222, String.reduceEq, Q223, Q224, Q225, Q226, Q227, Q228, Q229, Q230, Q231, Q232, Q233, Q234, Q235, Q236, Q237, Q238, Q239, Q240, Q241, Q242, Q243, Q244, Q245, Q246, Q247, Q248, Q249, Q250, Q251, Q252, Q253, Q254, Q255, Q256, Q257, Q258, Q259, Q260, Q261, Q262, Q263, Q264, Q265, Q266, Q267, Q268, Q269, Q270, Q271, Q272, Q273, Q274, Q275, Q276, dvL, mlL, mlR, pwL, Nat.reduceLT, h1]
  · by_cases h2 : l % 4 = 2
    · refine ⟨l / 4 % 9 - bd, by omega, ?_⟩
      unfold b_law_number_by
      simp only [Q0, Q1, Q2, Q3, Q4, Q5, Q6, Q7, Q8, Q9, Q10, Q11, Q12, Q13, Q14, Q15, Q16, Q17, Q18, Q19, Q20, Q21, Q22, Q23, Q24, Q25, Q26, Q27, Q28, Q29, Q30, Q31, Q32, Q33, Q34, Q35, Q36, Q37, Q38, Q39, Q40, Q41, Q42, Q43, Q44, Q45, Q46, Q47, Q48, Q49, Q50, Q51, Q52, Q53, Q54, Q55, Q56, Q57, Q58, Q59, Q60, Q61, Q62, Q63, Q64, Q65, Q66, Q67, Q68, Q69, Q70, Q71, lends, Q72, Q73, Q74, Q75, Q76, Q77, Q78, Q79, Q80, Q81, Q82, Q83, Q84, Q85, Q86, Q87, Q88, Q89, Q90, Q91, Q92, Q93, Q94, Q95, Q96, Q97, Q98, Q99, Q100, Q101, Q102, Q103, Q104, List.drop_succ_cons, List.drop_zero, List.take_succ_cons, List.take_zero, Q105, Q106, Q107, Q108, Q109, Q110, Q111, Q112, Q113, Q114, Q115, Q116, Q117, Q118, Q119, Q120, Q121, Q122, Q123, Q124, Q125, Q126, Q127, Q128, Q129, Q130, Q131, Q132, Q133, Q134, Q135, Q136, Q137, Q138, Q139, Q140, Q141, Q142, Q143, Q144, Q145, Q146, Q147, Q148, Q149, Q150, Q151, Q152, Q153, Q154, Q155, Q156, Q157, Q158, Q159, Q160, c_lt, c_le, c_gt, c_ge, Q161, Q162, Q163, Q164, Q165, Q166, Q167, Q168, Q169, Q170, Q171, Q172, Q173, Q174, Q175, Q176, Q177, Q178, Q179, List.all_cons, List.all_nil, Q180, Q181, Q182, Q183, Q184, Q185, Q186, Q187, Q188, at_0, at_1, at_2, at_3, at_4, at_5, at_6, at_7, Q189, Q190, Q191, Q192, Q193, Q194, Q195, Q196, Q197, Q198, Q199, Q200, Q201, Q202, Q203, Q204, Q205, Q206, Q207, Q208, Q209, Q210, Q211, Q212, Q213, Q214, Q215, Q216, Q217, Q218, Q219, Q220, Nat.reduceAdd, Nat.reduceSub, Nat.reduceMul, Nat.reduceEqDiff, Nat.reduceLeDiff, Int.reduceEq, Int.reduceNe, Int.reduceLT, Int.reduceLE, Int.reduceGT, Int.reduceGE, Int.reduceAdd, Int.reduceSub, Int.reduceMul, Int.reduceNeg, Int.reduceToNat, Int.reducePow, Int.reduceAbs, Int.cast_ofNat_Int, List.map_cons, List.map_nil, List.append_nil, List.nil_append, List.cons_append, List.length_cons, List.length_nil, List.length_map, decide_true, decide_false, decide_eq_true_eq, Bool.not_eq_true', decide_eq_false_iff_not, Bool.and_eq_true, Bool.or_eq_true, not_true_eq_false, not_false_eq_true, Bool.not_true, Bool.not_false, Bool.true_and, Bool.and_true, Bool.false_and, Bool.and_false, Bool.or_false, Bool.false_or, Bool.true_or, Bool.or_true, Bool.false_eq_true, if_true, if_false, ite_true, ite_false, reduceIte, ite_self, beq_self_eq_true, Bool.true_eq_false, Q221, Q222, String.reduceEq, Q223, Q224, Q225, Q226, Q227, Q228, Q229, Q230, Q231, Q232, Q233, Q234, Q235, Q236, Q237, Q238, Q239, Q240, Q241, Q242, Q243, Q244, Q245, Q246, Q247, Q248, Q249, Q250, Q251, Q252, Q253, Q254, Q255, Q256, Q257, Q258, Q259, Q260, Q261, Q262, Q263, Q264, Q265, Q266, Q267, Q268, Q269, Q270, Q271, Q272, Q273, Q274, Q275, Q276, dvL, mlL, mlR, pwL, Nat.reduceLT, h1, h2]
    · by_cases h3 : l % 4 = 3
      · have nz : ¬ 2 * bd + 1 = 0 := by omega
        have nn : 0 ≤ 2 * bd + 1 := by omega
        have mb := emod_bd c (2 * bd + 1) (by omega)
        have mk : mulOk 2 bd = true := mul_ok1 (by decide)
        refine ⟨c % (2 * bd + 1) - bd, by omega, ?_⟩
        unfold b_law_number_by
        simp only [Q0, Q1, Q2, Q3, Q4, Q5, Q6, Q7, Q8, Q9, Q10, Q11, Q12, Q13, Q14, Q15, Q16, Q17, Q18, Q19, Q20, Q21, Q22, Q23, Q24, Q25, Q26, Q27, Q28, Q29, Q30, Q31, Q32, Q33, Q34, Q35, Q36, Q37, Q38, Q39, Q40, Q41, Q42, Q43, Q44, Q45, Q46, Q47, Q48, Q49, Q50, Q51, Q52, Q53, Q54, Q55, Q56, Q57, Q58, Q59, Q60, Q61, Q62, Q63, Q64, Q65, Q66, Q67, Q68, Q69, Q70, Q71, lends, Q72, Q73, Q74, Q75, Q76, Q77, Q78, Q79, Q80, Q81, Q82, Q83, Q84, Q85, Q86, Q87, Q88, Q89, Q90, Q91, Q92, Q93, Q94, Q95, Q96, Q97, Q98, Q99, Q100, Q101, Q102, Q103, Q104, List.drop_succ_cons, List.drop_zero, List.take_succ_cons, List.take_zero, Q105, Q106, Q107, Q108, Q109, Q110, Q111, Q112, Q113, Q114, Q115, Q116, Q117, Q118, Q119, Q120, Q121, Q122, Q123, Q124, Q125, Q126, Q127, Q128, Q129, Q130, Q131, Q132, Q133, Q134, Q135, Q136, Q137, Q138, Q139, Q140, Q141, Q142, Q143, Q144, Q145, Q146, Q147, Q148, Q149, Q150, Q151, Q152, Q153, Q154, Q155, Q156, Q157, Q158, Q159, Q160, c_lt, c_le, c_gt, c_ge, Q161, Q162, Q163, Q164, Q165, Q166, Q167, Q168, Q169, Q170, Q171, Q172, Q173, Q174, Q175, Q176, Q177, Q178, Q179, List.all_cons, List.all_nil, Q180, Q181, Q182, Q183, Q184, Q185, Q186, Q187, Q188, at_0, at_1, at_2, at_3, at_4, at_5, at_6, at_7, Q189, Q190, Q191, Q192, Q193, Q194, Q195, Q196, Q197, Q198, Q199, Q200, Q201, Q202, Q203, Q204, Q205, Q206, Q207, Q208, Q209, Q210, Q211, Q212, Q213, Q214, Q215, Q216, Q217, Q218, Q219, Q220, Nat.reduceAdd, Nat.reduceSub, Nat.reduceMul, Nat.reduceEqDiff, Nat.reduceLeDiff, Int.reduceEq, Int.reduceNe, Int.reduceLT, Int.reduceLE, Int.reduceGT, Int.reduceGE, Int.reduceAdd, Int.reduceSub, Int.reduceMul, Int.reduceNeg, Int.reduceToNat, Int.reducePow, Int.reduceAbs, Int.cast_ofNat_Int, List.map_cons, List.map_nil, List.append_nil, List.nil_append, List.cons_append, List.length_cons, List.length_nil, List.length_map, decide_true, decide_false, decide_eq_true_eq, Bool.not_eq_true', decide_eq_false_iff_not, Bool.and_eq_true, Bool.or_eq_true, not_true_eq_false, not_false_eq_true, Bool.not_true, Bool.not_false, Bool.true_and, Bool.and_true, Bool.false_and, Bool.and_false, Bool.or_false, Bool.false_or, Bool.true_or, Bool.or_true, Bool.false_eq_true, if_true, if_false, ite_true, ite_false, reduceIte, ite_self, beq_self_eq_true, Bool.true_eq_false, Q221, Q222, String.reduceEq, Q223, Q224, Q225, Q226, Q227, Q228, Q229, Q230, Q231, Q232, Q233, Q234, Q235, Q236, Q237, Q238, Q239, Q240, Q241, Q242, Q243, Q244, Q245, Q246, Q247, Q248, Q249, Q250, Q251, Q252, Q253, Q254, Q255, Q256, Q257, Q258, Q259, Q260, Q261, Q262, Q263, Q264, Q265, Q266, Q267, Q268, Q269, Q270, Q271, Q272, Q273, Q274, Q275, Q276, dvL, mlL, mlR, pwL, Nat.reduceLT, h1, h2, h3, nz, mk]
        try rw [Int.fmod_eq_emod_of_nonneg _ nn]
      · refine ⟨l / 4 % 9 - 4, by omega, ?_⟩
        unfold b_law_number_by
        simp only [Q0, Q1, Q2, Q3, Q4, Q5, Q6, Q7, Q8, Q9, Q10, Q11, Q12, Q13, Q14, Q15, Q16, Q17, Q18, Q19, Q20, Q21, Q22, Q23, Q24, Q25, Q26, Q27, Q28, Q29, Q30, Q31, Q32, Q33, Q34, Q35, Q36, Q37, Q38, Q39, Q40, Q41, Q42, Q43, Q44, Q45, Q46, Q47, Q48, Q49, Q50, Q51, Q52, Q53, Q54, Q55, Q56, Q57, Q58, Q59, Q60, Q61, Q62, Q63, Q64, Q65, Q66, Q67, Q68, Q69, Q70, Q71, lends, Q72, Q73, Q74, Q75, Q76, Q77, Q78, Q79, Q80, Q81, Q82, Q83, Q84, Q85, Q86, Q87, Q88, Q89, Q90, Q91, Q92, Q93, Q94, Q95, Q96, Q97, Q98, Q99, Q100, Q101, Q102, Q103, Q104, List.drop_succ_cons, List.drop_zero, List.take_succ_cons, List.take_zero, Q105, Q106, Q107, Q108, Q109, Q110, Q111, Q112, Q113, Q114, Q115, Q116, Q117, Q118, Q119, Q120, Q121, Q122, Q123, Q124, Q125, Q126, Q127, Q128, Q129, Q130, Q131, Q132, Q133, Q134, Q135, Q136, Q137, Q138, Q139, Q140, Q141, Q142, Q143, Q144, Q145, Q146, Q147, Q148, Q149, Q150, Q151, Q152, Q153, Q154, Q155, Q156, Q157, Q158, Q159, Q160, c_lt, c_le, c_gt, c_ge, Q161, Q162, Q163, Q164, Q165, Q166, Q167, Q168, Q169, Q170, Q171, Q172, Q173, Q174, Q175, Q176, Q177, Q178, Q179, List.all_cons, List.all_nil, Q180, Q181, Q182, Q183, Q184, Q185, Q186, Q187, Q188, at_0, at_1, at_2, at_3, at_4, at_5, at_6, at_7, Q189, Q190, Q191, Q192, Q193, Q194, Q195, Q196, Q197, Q198, Q199, Q200, Q201, Q202, Q203, Q204, Q205, Q206, Q207, Q208, Q209, Q210, Q211, Q212, Q213, Q214, Q215, Q216, Q217, Q218, Q219, Q220, Nat.reduceAdd, Nat.reduceSub, Nat.reduceMul, Nat.reduceEqDiff, Nat.reduceLeDiff, Int.reduceEq, Int.reduceNe, Int.reduceLT, Int.reduceLE, Int.reduceGT, Int.reduceGE, Int.reduceAdd, Int.reduceSub, Int.reduceMul, Int.reduceNeg, Int.reduceToNat, Int.reducePow, Int.reduceAbs, Int.cast_ofNat_Int, List.map_cons, List.map_nil, List.append_nil, List.nil_append, List.cons_append, List.length_cons, List.length_nil, List.length_map, decide_true, decide_false, decide_eq_true_eq, Bool.not_eq_true', decide_eq_false_iff_not, Bool.and_eq_true, Bool.or_eq_true, not_true_eq_false, not_false_eq_true, Bool.not_true, Bool.not_false, Bool.true_and, Bool.and_true, Bool.false_and, Bool.and_false, Bool.or_false, Bool.false_or, Bool.true_or, Bool.or_true, Bool.false_eq_true, if_true, if_false, ite_true, ite_false, reduceIte, ite_self, beq_self_eq_true, Bool.true_eq_false, Q221, Q222, String.reduceEq, Q223, Q224, Q225, Q226, Q227, Q228, Q229, Q230, Q231, Q232, Q233, Q234, Q235, Q236, Q237, Q238, Q239, Q240, Q241, Q242, Q243, Q244, Q245, Q246, Q247, Q248, Q249, Q250, Q251, Q252, Q253, Q254, Q255, Q256, Q257, Q258, Q259, Q260, Q261, Q262, Q263, Q264, Q265, Q266, Q267, Q268, Q269, Q270, Q271, Q272, Q273, Q274, Q275, Q276, dvL, mlL, mlR, pwL, Nat.reduceLT, h1, h2, h3]
def encPa (h : Int) (b : List (Int × Int)) (v : List Int) (m w : Int) : D := .tup [.int h, encB b, .tup (v.map D.int), .int m, .int w]
structure Pa (s : Nat) (h : Int) (b : List (Int × Int)) (v : List Int) (m w : Int) : Prop where
  hs : s = 2 ∨ s = 3
  lb : b.length = s
  gb : ∀ p ∈ b, FB p
  lv : v.length = s
  gv : ∀ x ∈ v, -1000000000000000 ≤ x ∧ x ≤ 1000000000000000
  gh : 0 ≤ h ∧ h ≤ 1000000000000000000
  gm : 0 ≤ m ∧ m ≤ 65535
  gw : -1000000000000000000000000000000 ≤ w ∧ w ≤ 1000000000000000000000000000000
theorem law_parts_by_ok (n : Nat) (c : Int) (hc : c.natAbs < cellB) : ∃ s h b v m w, Pa s h b v m w ∧ callN P (n + 2) n_law_parts_by [.int c] = .ok (encPa h b v m w) := by
  rw [callN_eq P_law_parts_by _ (by simp)]
  obtain ⟨x, hx, ex⟩ := law_stir_ok n c hc
  have p30 : powOk 10 30 = true := by decide
  have p15 : powOk 10 15 = true := by decide
  have p18 : powOk 10 18 = true := by decide
  obtain ⟨s, hs, es⟩ : ∃ s : Nat, (s = 2 ∨ s = 3) ∧ (2 : Int) + x % 2 = (s : Int) := ⟨(2 + x % 2).toNat, by omega, by omega⟩
  obtain ⟨ρ', e, b, v, l, hl, lb, gb, lv, gv, rfl⟩ := for_rng (f := forT (callN P (n + 1)) false [5] (loopB b_law_parts_by 5)) (g := fun k : Nat => D.int (k : Int)) (fun k ρ => ∃ (b : List (Int × Int)) (v : List Int) (l : Int), (0 ≤ l ∧ l < 170141183460469231731687303715884105727) ∧ b.length = k ∧ (∀ p ∈ b, FB p) ∧ v.length = k ∧ (∀ y ∈ v, -1000000000000000 ≤ y ∧ y ≤ 1000000000000000) ∧ ρ = [.sh (.int c), .sh (.int l), .sh (.int (s : Nat)), .ow (b.map encP), .ow (v.map D.int), .no, .no, .no, .no]) s
    (ρ := [.sh (.int c), .sh (.int (x / 2)), .sh (.int (s : Nat)), .ow [], .ow [], .no, .no, .no, .no]) ⟨[], [], x / 2, by omega, rfl, (fun _ z => (List.not_mem_nil z).elim), rfl, (fun _ z => (List.not_mem_nil z).elim), rfl⟩ (by
    rintro k ρ hk ⟨b, v, l, hl, lb, gb, lv, gv, rfl⟩
    obtain ⟨lo, hlo, elo⟩ := law_number_by_ok n l (c / ((k : Int) + 1)) 1000000000000000000000000000000 (by decide)
    obtain ⟨l2, hl2, el2⟩ := law_next_ok n l hl
    obtain ⟨pc, hpc, epc⟩ := law_number_by_ok n l2 (c / ((k : Int) + 2)) 1000000000000000 (by decide)
    obtain ⟨l3, hl3, el3⟩ := law_next_ok n l2 hl2
    have d1 : divOk ((k : Int) + 1) = true := dvL (by omega) (by omega)
    have d2 : divOk ((k : Int) + 2) = true := dvL (by omega) (by omega)
    have n1 : (0 : Int) ≤ (k : Int) + 1 := by omega
    have n2 : (0 : Int) ≤ (k : Int) + 2 := by omega
    have db : decide (b.length < sizeLine) = true := dec_size (by omega)
    have dv : decide (v.length < sizeLine) = true := dec_size (by omega)
    obtain ⟨hi, hhi, A⟩ : ∃ hi : Int, (lo ≤ hi ∧ hi ≤ 1000000000000000000000000000000) ∧ exB (callN P (n + 1)) false (seg (loopB b_law_parts_by 5) 0 3) [.sh (.int c), .sh (.int l), .sh (.int (s : Nat)), .ow (b.map encP), .ow (v.map D.int), .sh (.int (k : Int)), .no, .no, .no] = .ok (.nx [.sh (.int c), .sh (.int l), .sh (.int (s : Nat)), .ow (b.map encP), .ow (v.map D.int), .sh (.int (k : Int)), .no, .sh (.int lo), .sh (.int hi)]) := by
      by_cases h : l / 180 % 4 = 1
      · refine ⟨1000000000000000000000000000000, by omega, ?_⟩
        unfold b_law_parts_by
        simp only [Q0, Q1, Q2, Q3, Q4, Q5, Q6, Q7, Q8, Q9, Q10, Q11, Q12, Q13, Q14, Q15, Q16, Q17, Q18, Q19, Q20, Q21, Q22, Q23, Q24, Q25, Q26, Q27, Q28, Q29, Q30, Q31, Q32, Q33, Q34, Q35, Q36, Q37, Q38, Q39, Q40, Q41, Q42, Q43, Q44, Q45, Q46, Q47, Q48, Q49, Q50, Q51, Q52, Q53, Q54, Q55, Q56, Q57, Q58, Q59, Q60, Q61, Q62, Q63, Q64, Q65, Q66, Q67, Q68, Q69, Q70, Q71, lends, Q72, Q73, Q74, Q75, Q76, Q77, Q78, Q79, Q80, Q81, Q82, Q83, Q84, Q85, Q86, Q87, Q88, Q89, Q90, Q91, Q92, Q93, Q94, Q95, Q96, Q97, Q98, Q99, Q100, Q101, Q102, Q103, Q104, List.drop_succ_cons, List.drop_zero, List.take_succ_cons, List.take_zero, Q105, Q106, Q107, Q108, Q109, Q110, Q111, Q112, Q113, Q114, Q115, Q116, Q117, Q118, Q119, Q120, Q121, Q122, Q123, Q124, Q125, Q126, Q127, Q128, Q129, Q130, Q131, Q132, Q133, Q134, Q135, Q136, Q137, Q138, Q139, Q140, Q141, Q142, Q143, Q144, Q145, Q146, Q147, Q148, Q149, Q150, Q151, Q152, Q153, Q154, Q155, Q156, Q157, Q158, Q159, Q160, c_lt, c_le, c_gt, c_ge, Q161, Q162, Q163, Q164, Q165, Q166, Q167, Q168, Q169, Q170, Q171, Q172, Q173, Q174, Q175, Q176, Q177, Q178, Q179, List.all_cons, List.all_nil, Q180, Q181, Q182, Q183, Q184, Q185, Q186, Q187, Q188, at_0, at_1, at_2, at_3, at_4, at_5, at_6, at_7, Q189, Q190, Q191, Q192, Q193, Q194, Q195, Q196, Q197, Q198, Q199, Q200, Q201, Q202, Q203, Q204, Q205, Q206, Q207, Q208, Q209, Q210, Q211, Q212, Q213, Q214, Q215, Q216, Q217, Q218, Q219, Q220, Nat.reduceAdd, Nat.reduceSub, Nat.reduceMul, Nat.reduceEqDiff, Nat.reduceLeDiff, Int.reduceEq, Int.reduceNe, Int.reduceLT, Int.reduceLE, Int.reduceGT, Int.reduceGE, Int.reduceAdd, Int.reduceSub, Int.reduceMul, Int.reduceNeg, Int.reduceToNat, Int.reducePow, Int.reduceAbs, Int.cast_ofNat_Int, List.map_cons, List.map_nil, List.append_nil, List.nil_append, List.cons_append, List.length_cons, List.length_nil, List.length_map, decide_true, decide_false, decide_eq_true_eq, Bool.not_eq_true', decide_eq_false_iff_not, Bool.and_eq_true, Bool.or_eq_true, not_true_eq_false, not_false_eq_true, Bool.not_true, Bool.not_false, Bool.true_and, Bool.and_true, Bool.false_and, Bool.and_false, Bool.or_false, Bool.false_or, Bool.true_or, Bool.or_true, Bool.false_eq_true, if_true, if_false, ite_true, ite_false, reduceIte, ite_self, beq_self_eq_true, Bool.true_eq_false, Q221, Q222, String.reduceEq, Q223, Q224, Q225, Q226, Q227, Q228, Q229, Q230, Q231, Q232, Q233, Q234, Q235, Q236, Q237, Q238, Q239, Q240, Q241, Q242, Q243, Q244, Q245, Q246, Q247, Q248, Q249, Q250, Q251, Q252, Q253, Q254, Q255, Q256, Q257, Q258, Q259, Q260, Q261, Q262, Q263, Q264, Q265, Q266, Q267, Q268, Q269, Q270, Q271, Q272, Q273, Q274, Q275, Q276, dvL, mlL, mlR, pwL, Nat.reduceLT, d1, Q181 n1, p30, elo, h]
        try rfl
      · refine ⟨min 1000000000000000000000000000000 (lo + l / 36 % 5), by omega, ?_⟩
        unfold b_law_parts_by
        simp only [Q0, Q1, Q2, Q3, Q4, Q5, Q6, Q7, Q8, Q9, Q10, Q11, Q12, Q13, Q14, Q15, Q16, Q17, Q18, Q19, Q20, Q21, Q22, Q23, Q24, Q25, Q26, Q27, Q28, Q29, Q30, Q31, Q32, Q33, Q34, Q35, Q36, Q37, Q38, Q39, Q40, Q41, Q42, Q43, Q44, Q45, Q46, Q47, Q48, Q49, Q50, Q51, Q52, Q53, Q54, Q55, Q56, Q57, Q58, Q59, Q60, Q61, Q62, Q63, Q64, Q65, Q66, Q67, Q68, Q69, Q70, Q71, lends, Q72, Q73, Q74, Q75, Q76, Q77, Q78, Q79, Q80, Q81, Q82, Q83, Q84, Q85, Q86, Q87, Q88, Q89, Q90, Q91, Q92, Q93, Q94, Q95, Q96, Q97, Q98, Q99, Q100, Q101, Q102, Q103, Q104, List.drop_succ_cons, List.drop_zero, List.take_succ_cons, List.take_zero, Q105, Q106, Q107, Q108, Q109, Q110, Q111, Q112, Q113, Q114, Q115, Q116, Q117, Q118, Q119, Q120, Q121, Q122, Q123, Q124, Q125, Q126, Q127, Q128, Q129, Q130, Q131, Q132, Q133, Q134, Q135, Q136, Q137, Q138, Q139, Q140, Q141, Q142, Q143, Q144, Q145, Q146, Q147, Q148, Q149, Q150, Q151, Q152, Q153, Q154, Q155, Q156, Q157, Q158, Q159, Q160, c_lt, c_le, c_gt, c_ge, Q161, Q162, Q163, Q164, Q165, Q166, Q167, Q168, Q169, Q170, Q171, Q172, Q173, Q174, Q175, Q176, Q177, Q178, Q179, List.all_cons, List.all_nil, Q180, Q181, Q182, Q183, Q184, Q185, Q186, Q187, Q188, at_0, at_1, at_2, at_3, at_4, at_5, at_6, at_7, Q189, Q190, Q191, Q192, Q193, Q194, Q195, Q196, Q197, Q198, Q199, Q200, Q201, Q202, Q203, Q204, Q205, Q206, Q207, Q208, Q209, Q210, Q211, Q212, Q213, Q214, Q215, Q216, Q217, Q218, Q219, Q220, Nat.reduceAdd, Nat.reduceSub, Nat.reduceMul, Nat.reduceEqDiff, Nat.reduceLeDiff, Int.reduceEq, Int.reduceNe, Int.reduceLT, Int.reduceLE, Int.reduceGT, Int.reduceGE, Int.reduceAdd, Int.reduceSub, Int.reduceMul, Int.reduceNeg, Int.reduceToNat, Int.reducePow, Int.reduceAbs, Int.cast_ofNat_Int, List.map_cons, List.map_nil, List.append_nil, List.nil_append, List.cons_append, List.length_cons, List.length_nil, List.length_map, decide_true, decide_false, decide_eq_true_eq, Bool.not_eq_true', decide_eq_false_iff_not, Bool.and_eq_true, Bool.or_eq_true, not_true_eq_false, not_false_eq_true, Bool.not_true, Bool.not_false, Bool.true_and, Bool.and_true, Bool.false_and, Bool.and_false, Bool.or_false, Bool.false_or, Bool.true_or, Bool.or_true, Bool.false_eq_true, if_true, if_false, ite_true, ite_false, reduceIte, ite_self, beq_self_eq_true, Bool.true_eq_false, Q221, Q222, String.reduceEq, Q223, Q224, Q225, Q226, Q227, Q228, Q229, Q230, Q231, Q232, Q233, Q234, Q235, Q236, Q237, Q238, Q239, Q240, Q241, Q242, Q243, Q244, Q245, Q246, Q247, Q248, Q249, Q250, Q251, Q252, Q253, Q254, Q255, Q256, Q257, Q258, Q259, Q260, Q261, Q262, Q263, Q264, Q265, Q266, Q267, Q268, Q269, Q270, Q271, Q272, Q273, Q274, Q275, Q276, dvL, mlL, mlR, pwL, Nat.reduceLT, d1, Q181 n1, p30, elo, h]
        try rfl
    refine ⟨[.sh (.int c), .sh (.int l3), .sh (.int (s : Nat)), .ow ((b ++ [(lo, hi)]).map encP), .ow ((v ++ [pc]).map D.int), .no, .no, .no, .no], ?_, b ++ [(lo, hi)], v ++ [pc], l3, hl3, by simp [lb], fun p hp => ?_, by simp [lv], fun y hy => ?_, rfl⟩
    · rw [Q118, Q35, Q0]
      show exB (callN P (n + 1)) false (loopB b_law_parts_by 5) [.sh (.int c), .sh (.int l), .sh (.int (s : Nat)), .ow (b.map encP), .ow (v.map D.int), .sh (.int (k : Int)), .no, .no, .no] = _
      rw [xB_seg0 (loopB b_law_parts_by 5) 3, A, Q88]
      unfold b_law_parts_by
      simp only [Q0, Q1, Q2, Q3, Q4, Q5, Q6, Q7, Q8, Q9, Q10, Q11, Q12, Q13, Q14, Q15, Q16, Q17, Q18, Q19, Q20, Q21, Q22, Q23, Q24, Q25, Q26, Q27, Q28, Q29, Q30, Q31, Q32, Q33, Q34, Q35, Q36, Q37, Q38, Q39, Q40, Q41, Q42, Q43, Q44, Q45, Q46, Q47, Q48, Q49, Q50, Q51, Q52, Q53, Q54, Q55, Q56, Q57, Q58, Q59, Q60, Q61, Q62, Q63, Q64, Q65, Q66, Q67, Q68, Q69, Q70, Q71, lends, Q72, Q73, Q74, Q75, Q76, Q77, Q78, Q79, Q80, Q81, Q82, Q83, Q84, Q85, Q86, Q87, Q88, Q89, Q90, Q91, Q92, Q93, Q94, Q95, Q96, Q97, Q98, Q99, Q100, Q101, Q102, Q103, Q104, List.drop_succ_cons, List.drop_zero, List.take_succ_cons, List.take_zero, Q105, Q106, Q107, Q108, Q109, Q110, Q111, Q112, Q113, Q114, Q115, Q116, Q117, Q118, Q119, Q120, Q121, Q122, Q123, Q124, Q125, Q126, Q127, Q128, Q129, Q130, Q131, Q132, Q133, Q134, Q135, Q136, Q137, Q138, Q139, Q140, Q141, Q142, Q143, Q144, Q145, Q146, Q147, Q148, Q149, Q150, Q151, Q152, Q153, Q154, Q155, Q156, Q157, Q158, Q159, Q160, c_lt, c_le, c_gt, c_ge, Q161, Q162, Q163, Q164, Q165, Q166, Q167, Q168, Q169, Q170, Q171, Q172, Q173, Q174, Q175, Q176, Q177, Q178, Q179, List.all_cons, List.all_nil, Q180, Q181, Q182, Q183, Q184, Q185, Q186, Q187, Q188, at_0, at_1, at_2, at_3, at_4, at_5, at_6, at_7, Q189, Q190, Q191, Q192, Q193, Q194, Q195, Q196, Q197, Q198, Q199, Q200, Q201, Q202, Q203, Q204, Q205, Q206, Q207, Q208, Q209, Q210, Q211, Q212, Q213, Q214, Q215, Q216, Q217, Q218, Q219, Q220, Nat.reduceAdd, Nat.reduceSub, Nat.reduceMul, Nat.reduceEqDiff, Nat.reduceLeDiff, Int.reduceEq, Int.reduceNe, Int.reduceLT, Int.reduceLE, Int.reduceGT, Int.reduceGE, Int.reduceAdd, Int.reduceSub, Int.reduceMul, Int.reduceNeg, Int.reduceToNat, Int.reducePow, Int.reduceAbs, Int.cast_ofNat_Int, List.map_cons, List.map_nil, List.append_nil, List.nil_append, List.cons_append, List.length_cons, List.length_nil, List.length_map, decide_true, decide_false, decide_eq_true_eq, Bool.not_eq_true', decide_eq_false_iff_not, Bool.and_eq_true, Bool.or_eq_true, not_true_eq_false, not_false_eq_true, Bool.not_true, Bool.not_false, Bool.true_and, Bool.and_true, Bool.false_and, Bool.and_false, Bool.or_false, Bool.false_or, Bool.true_or, Bool.or_true, Bool.false_eq_true, if_true, if_false, ite_true, ite_false, reduceIte, ite_self, beq_self_eq_true, Bool.true_eq_false, Q221, Q222, String.reduceEq, Q223, Q224, Q225, Q226, Q227, Q228, Q229, Q230, Q231, Q232, Q233, Q234, Q235, Q236, Q237, Q238, Q239, Q240, Q241, Q242, Q243, Q244, Q245, Q246, Q247, Q248, Q249, Q250, Q251, Q252, Q253, Q254, Q255, Q256, Q257, Q258, Q259, Q260, Q261, Q262, Q263, Q264, Q265, Q266, Q267, Q268, Q269, Q270, Q271, Q272, Q273, Q274, Q275, Q276, dvL, mlL, mlR, pwL, Nat.reduceLT, d2, Q181 n2, p15, epc, el2, el3, db, dv, List.map_append]
      try rfl
    · rcases List.mem_append.1 hp with hp | hp
      · exact gb p hp
      · rw [List.mem_singleton] at hp
        subst hp
        exact ⟨hlo.1, hhi.1, hhi.2⟩
    · rcases List.mem_append.1 hy with hy | hy
      · exact gv y hy
      · rw [List.mem_singleton] at hy
        subst hy
        exact hpc)
  obtain ⟨hd, hhd, ehd⟩ := law_number_by_ok n l (c / 5) 1000000000000000000 (by decide)
  obtain ⟨l2, hl2, el2⟩ := law_next_ok n l hl
  obtain ⟨w, hw, ew⟩ := law_number_by_ok n l2 (c / 7) 1000000000000000000000000000000 (by decide)
  have m6 := emod_bd (l2 / 36) 65536 (by decide)
  have ab : biD .abs [.int hd] = .ok (.int (if hd < 0 then -hd else hd)) := rfl
  refine ⟨s, if hd < 0 then -hd else hd, b, v, l2 / 36 % 65536, w, ⟨hs, lb, gb, lv, gv, by split <;> omega, by omega, hw⟩, ?_⟩
  have l62 : s < 2 ^ 62 := by omega
  have fb : fits b.length = true := fits_of (by omega)
  have fv : fits v.length = true := fits_of (by omega)
  unfold encPa encB
  unfold b_law_parts_by at e ⊢
  simp only [Q0, Q1, Q2, Q3, Q4, Q5, Q6, Q7, Q8, Q9, Q10, Q11, Q12, Q13, Q14, Q15, Q16, Q17, Q18, Q19, Q20, Q21, Q22, Q23, Q24, Q25, Q26, Q27, Q28, Q29, Q30, Q31, Q32, Q33, Q34, Q35, Q36, Q37, Q38, Q39, Q40, Q41, Q42, Q43, Q44, Q45, Q46, Q47, Q48, Q49, Q50, Q51, Q52, Q53, Q54, Q55, Q56, Q57, Q58, Q59, Q60, Q61, Q62, Q63, Q64, Q65, Q66, Q67, Q68, Q69, Q70, Q71, lends, Q72, Q73, Q74, Q75, Q76, Q77, Q78, Q79, Q80, Q81, Q82, Q83, Q84, Q85, Q86, Q87, Q88, Q89, Q90, Q91, Q92, Q93, Q94, Q95, Q96, Q97, Q98, Q99, Q100, Q101, Q102, Q103, Q104, List.drop_succ_cons, List.drop_zero, List.take_succ_cons, List.take_zero, Q105, Q106, Q107, Q108, Q109, Q110, Q111, Q112, Q113, Q114, Q115, Q116, Q117, Q118, Q119, Q120, Q121, Q122, Q123, Q124, Q125, Q126, Q127, Q128, Q129, Q130, Q131, Q132, Q133, Q134, Q135, Q136, Q137, Q138, Q139, Q140, Q141, Q142, Q143, Q144, Q145, Q146, Q147, Q148, Q149, Q150, Q151, Q152, Q153, Q154, Q155, Q156, Q157, Q158, Q159, Q160, c_lt, c_le, c_gt, c_ge, Q161, Q162, Q163, Q164, Q165, Q166, Q167, Q168, Q169, Q170, Q171, Q172, Q173, Q174, Q175, Q176, Q177, Q178, Q179, List.all_cons, List.all_nil, Q180, Q181, Q182, Q183, Q184, Q185, Q186, Q187, Q188, at_0, at_1, at_2, at_3, at_4, at_5, at_6, at_7, Q189, Q190, Q191, Q192, Q193, Q194, Q195, Q196, Q197, Q198, Q199, Q200, Q201, Q202, Q203, Q204, Q205, Q206, Q207, Q208, Q209, Q210, Q211, Q212, Q213, Q214, Q215, Q216, Q217, Q218, Q219, Q220, Nat.reduceAdd, Nat.reduceSub, Nat.reduceMul, Nat.reduceEqDiff, Nat.reduceLeDiff, Int.reduceEq, Int.reduceNe, Int.reduceLT, Int.reduceLE, Int.reduceGT, Int.reduceGE, Int.reduceAdd, Int.reduceSub, Int.reduceMul, Int.reduceNeg, Int.reduceToNat, Int.reducePow, Int.reduceAbs, Int.cast_ofNat_Int, List.map_cons, List.map_nil, List.append_nil, List.nil_append, List.cons_append, List.length_cons, List.length_nil, List.length_map, decide_true, decide_false, decide_eq_true_eq, Bool.not_eq_true', decide_eq_false_iff_not, Bool.and_eq_true, Bool.or_eq_true, not_true_eq_false, not_false_eq_true, Bool.not_true, Bool.not_false, Bool.true_and, Bool.and_true, Bool.false_and, Bool.and_false, Bool.or_false, Bool.false_or, Bool.true_or, Bool.or_true, Bool.false_eq_true, if_true, if_false, ite_true, ite_false, reduceIte, ite_self, beq_self_eq_true, Bool.true_eq_false, Q221, Q222, String.reduceEq, Q223, Q224, Q225, Q226, Q227, Q228, Q229, Q230, Q231, Q232, Q233, Q234, Q235, Q236, Q237, Q238, Q239, Q240, Q241, Q242, Q243, Q244, Q245, Q246, Q247, Q248, Q249, Q250, Q251, Q252, Q253, Q254, Q255, Q256, Q257, Q258, Q259, Q260, Q261, Q262, Q263, Q264, Q265, Q266, Q267, Q268, Q269, Q270, Q271, Q272, Q273, Q274, Q275, Q276, dvL, mlL, mlR, pwL, Nat.reduceLT] at e
  simp only [Q0, Q1, Q2, Q3, Q4, Q5, Q6, Q7, Q8, Q9, Q10, Q11, Q12, Q13, Q14, Q15, Q16, Q17, Q18, Q19, Q20, Q21, Q22, Q23, Q24, Q25, Q26, Q27, Q28, Q29, Q30, Q31, Q32, Q33, Q34, Q35, Q36, Q37, Q38, Q39, Q40, Q41, Q42, Q43, Q44, Q45, Q46, Q47, Q48, Q49, Q50, Q51, Q52, Q53, Q54, Q55, Q56, Q57, Q58, Q59, Q60, Q61, Q62, Q63, Q64, Q65, Q66, Q67, Q68, Q69, Q70, Q71, lends, Q72, Q73, Q74, Q75, Q76, Q77, Q78, Q79, Q80, Q81, Q82, Q83, Q84, Q85, Q86, Q87, Q88, Q89, Q90, Q91, Q92, Q93, Q94, Q95, Q96, Q97, Q98, Q99, Q100, Q101, Q102, Q103, Q104, List.drop_succ_cons, List.drop_zero, List.take_succ_cons, List.take_zero, Q105, Q106, Q107, Q108, Q109, Q110, Q111, Q112, Q113, Q114, Q115, Q116, Q117, Q118, Q119, Q120, Q121, Q122, Q123, Q124, Q125, Q126, Q127, Q128, Q129, Q130, Q131, Q132, Q133, Q134, Q135, Q136, Q137, Q138, Q139, Q140, Q141, Q142, Q143, Q144, Q145, Q146, Q147, Q148, Q149, Q150, Q151, Q152, Q153, Q154, Q155, Q156, Q157, Q158, Q159, Q160, c_lt, c_le, c_gt, c_ge, Q161, Q162, Q163, Q164, Q165, Q166, Q167, Q168, Q169, Q170, Q171, Q172, Q173, Q174, Q175, Q176, Q177, Q178, Q179, List.all_cons, List.all_nil, Q180, Q181, Q182, Q183, Q184, Q185, Q186, Q187, Q188, at_0, at_1, at_2, at_3, at_4, at_5, at_6, at_7, Q189, Q190, Q191, Q192, Q193, Q194, Q195, Q196, Q197, Q198, Q199, Q200, Q201, Q202, Q203, Q204, Q205, Q206, Q207, Q208, Q209, Q210, Q211, Q212, Q213, Q214, Q215, Q216, Q217, Q218, Q219, Q220, Nat.reduceAdd, Nat.reduceSub, Nat.reduceMul, Nat.reduceEqDiff, Nat.reduceLeDiff, Int.reduceEq, Int.reduceNe, Int.reduceLT, Int.reduceLE, Int.reduceGT, Int.reduceGE, Int.reduceAdd, Int.reduceSub, Int.reduceMul, Int.reduceNeg, Int.reduceToNat, Int.reducePow, Int.reduceAbs, Int.cast_ofNat_Int, List.map_cons, List.map_nil, List.append_nil, List.nil_append, List.cons_append, List.length_cons, List.length_nil, List.length_map, decide_true, decide_false, decide_eq_true_eq, Bool.not_eq_true', decide_eq_false_iff_not, Bool.and_eq_true, Bool.or_eq_true, not_true_eq_false, not_false_eq_true, Bool.not_true, Bool.not_false, Bool.true_and, Bool.and_true, Bool.false_and, Bool.and_false, Bool.or_false, Bool.false_or, Bool.true_or, Bool.or_true, Bool.false_eq_true, if_true, if_false, ite_true, ite_false, reduceIte, ite_self, beq_self_eq_true, Bool.true_eq_false, Q221, Q222, String.reduceEq, Q223, Q224, Q225, Q226, Q227, Q228, Q229, Q230, Q231, Q232, Q233, Q234, Q235, Q236, Q237, Q238, Q239, Q240, Q241, Q242, Q243, Q244, Q245, Q246, Q247, Q248, Q249, Q250, Q251, Q252, Q253, Q254, Q255, Q256, Q257, Q258, Q259, Q260, Q261, Q262, Q263, Q264, Q265, Q266, Q267, Q268, Q269, Q270, Q271, Q272, Q273, Q274, Q275, Q276, dvL, mlL, mlR, pwL, Nat.reduceLT, ex, es, it_rng1n l62, e, p18, p30, ehd, ab, el2, ew, fb, fv]
  try rfl
def pzW (way : Int) (b : List (Int × Int)) (v : List Int) : List Int := if way = 0 ∨ way = 2 then b.map fun _ => (0 : Int) else v
def dueT (way h : Int) (b : List (Int × Int)) (v : List Int) (m w : Int) : Th := ⟨h, swOf b (pzW way b v), if way = 0 ∨ way = 1 ∨ way = 3 then 0 else m, if way < 3 ∨ way = 6 then 0 else w⟩
section
variable {s : Nat} {h : Int} {b : List (Int × Int)} {v : List Int} {m w : Int} (pa : Pa s h b v m w)
include pa
theorem law_made_ok (n : Nat) {way : Int} (hw : 0 ≤ way ∧ way < 7) : callN P (n + 4) n_law_made [encPa h b v m w, .int way] = .ok (encT (dueT way h b v m w)) := by
  rw [callN_eq P_law_made _ (by simp)]
  have i0 : idxD (encPa h b v m w) (.int 0) = .ok (.int h) := rfl
  have i1 : idxD (encPa h b v m w) (.int 1) = .ok (encB b) := rfl
  have i2 : idxD (encPa h b v m w) (.int 2) = .ok (.tup (v.map D.int)) := rfl
  have i3 : idxD (encPa h b v m w) (.int 3) = .ok (.int m) := rfl
  have i4 : idxD (encPa h b v m w) (.int 4) = .ok (.int w) := rfl
  have z : (0 : Int) ≤ 0 ∧ (0 : Int) ≤ 65535 := by decide
  have zw : (-1000000000000000000000000000000 : Int) ≤ 0 ∧ (0 : Int) ≤ 1000000000000000000000000000000 := by decide
  have a00 := make_thing_0 n pa.hs pa.lb pa.gb pa.gh z zw
  have am0 := make_thing_0 n pa.hs pa.lb pa.gb pa.gh pa.gm zw
  have v00 := make_thing_ok n pa.hs pa.lb pa.gb pa.lv pa.gv pa.gh z zw
  have v0w := make_thing_ok n pa.hs pa.lb pa.gb pa.lv pa.gv pa.gh z pa.gw
  have vm0 := make_thing_ok n pa.hs pa.lb pa.gb pa.lv pa.gv pa.gh pa.gm zw
  have vmw := make_thing_ok n pa.hs pa.lb pa.gb pa.lv pa.gv pa.gh pa.gm pa.gw
  have hc : way = 0 ∨ way = 1 ∨ way = 2 ∨ way = 3 ∨ way = 4 ∨ way = 5 ∨ way = 6 := by omega
  rcases hc with rfl | rfl | rfl | rfl | rfl | rfl | rfl <;>
    (unfold b_law_made dueT pzW; simp only [Q0, Q1, Q2, Q3, Q4, Q5, Q6, Q7, Q8, Q9, Q10, Q11, Q12, Q13, Q14, Q15, Q16, Q17, Q18, Q19, Q20, Q21, Q22, Q23, Q24, Q25, Q26, Q27, Q28, Q29, Q30, Q31, Q32, Q33, Q34, Q35, Q36, Q37, Q38, Q39, Q40, Q41, Q42, Q43, Q44, Q45, Q46, Q47, Q48, Q49, Q50, Q51, Q52, Q53, Q54, Q55, Q56, Q57, Q58, Q59, Q60, Q61, Q62, Q63, Q64, Q65, Q66, Q67, Q68, Q69, Q70, Q71, lends, Q72, Q73, Q74, Q75, Q76, Q77, Q78, Q79, Q80, Q81, Q82, Q83, Q84, Q85, Q86, Q87, Q88, Q89, Q90, Q91, Q92, Q93, Q94, Q95, Q96, Q97, Q98, Q99, Q100, Q101, Q102, Q103, Q104, List.drop_succ_cons, List.drop_zero, List.take_succ_cons, List.take_zero, Q105, Q106, Q107, Q108, Q109, Q110, Q111, Q112, Q113, Q114, Q115, Q116, Q117, Q118, Q119, Q120, Q121, Q122, Q123, Q124, Q125, Q126, Q127, Q128, Q129, Q130, Q131, Q132, Q133, Q134, Q135, Q136, Q137, Q138, Q139, Q140, Q141, Q142, Q143, Q144, Q145, Q146, Q147, Q148, Q149, Q150, Q151, Q152, Q153, Q154, Q155, Q156, Q157, Q158, Q159, Q160, c_lt, c_le, c_gt, c_ge, Q161, Q162, Q163, Q164, Q165, Q166, Q167, Q168, Q169, Q170, Q171, Q172, Q173, Q174, Q175, Q176, Q177, Q178, Q179, List.all_cons, List.all_nil, Q180, Q181, Q182, Q183, Q184, Q185, Q186, Q187, Q188, at_0, at_1, at_2, at_3, at_4, at_5, at_6, at_7, Q189, Q190, Q191, Q192, Q193, Q194, Q195, Q196, Q197, Q198, Q199, Q200, Q201, Q202, Q203, Q204, Q205, Q206, Q207, Q208, Q209, Q210, Q211, Q212, Q213, Q214, Q215, Q216, Q217, Q218, Q219, Q220, Nat.reduceAdd, Nat.reduceSub, Nat.reduceMul, Nat.reduceEqDiff, Nat.reduceLeDiff, Int.reduceEq, Int.reduceNe, Int.reduceLT, Int.reduceLE, Int.reduceGT, Int.reduceGE, Int.reduceAdd, Int.reduceSub, Int.reduceMul, Int.reduceNeg, Int.reduceToNat, Int.reducePow, Int.reduceAbs, Int.cast_ofNat_Int, List.map_cons, List.map_nil, List.append_nil, List.nil_append, List.cons_append, List.length_cons, List.length_nil, List.length_map, decide_true, decide_false, decide_eq_true_eq, Bool.not_eq_true', decide_eq_false_iff_not, Bool.and_eq_true, Bool.or_eq_true, not_true_eq_false, not_false_eq_true, Bool.not_true, Bool.not_false, Bool.true_and, Bool.and_true, Bool.false_and, Bool.and_false, Bool.or_false, Bool.false_or, Bool.true_or, Bool.or_true, Bool.false_eq_true, if_true, if_false, ite_true, ite_false, reduceIte, ite_self, beq_self_eq_true, Bool.true_eq_false, Q221, Q222, String.reduceEq, Q223, Q224, Q225, Q226, Q227, Q228, Q229, Q230, Q231, Q232, Q233, Q234, Q235, Q236, Q237, Q238, Q239, Q240, Q241, Q242, Q243, Q244, Q245, Q246, Q247, Q248, Q249, Q250, Q251, Q252, Q253, Q254, Q255, Q256, Q257, Q258, Q259, Q260, Q261, Q262, Q263, Q264, Q265, Q266, Q267, Q268, Q269, Q270, Q271, Q272, Q273, Q274, Q275, Q276, dvL, mlL, mlR, pwL, Nat.reduceLT, i0, i1, i2, i3, i4, a00, am0, v00, v0w, vm0, vmw, List.map_cons, List.map_nil, List.append_assoc, List.getD_cons_zero, List.getD_cons_succ]; try rfl)
theorem law_due_ok (n : Nat) {way : Int} (hw : 0 ≤ way ∧ way < 7) : callN P (n + 1) n_law_due [encPa h b v m w, .int way] = .ok (encT (dueT way h b v m w)) := by
  rw [callN_eq P_law_due _ (by simp)]
  have hc : way = 0 ∨ way = 1 ∨ way = 2 ∨ way = 3 ∨ way = 4 ∨ way = 5 ∨ way = 6 := by omega
  rcases pa.hs with rfl | rfl
  · obtain ⟨b1, b2, rfl⟩ := len2 pa.lb
    obtain ⟨v1, v2, rfl⟩ := len2 pa.lv
    have s0 : decide (0 < sizeLine) = true := by decide
    have s1 : decide (1 < sizeLine) = true := by decide
    rcases hc with rfl | rfl | rfl | rfl | rfl | rfl | rfl <;>
      (unfold b_law_due dueT pzW encPa encB encP; simp only [Q0, Q1, Q2, Q3, Q4, Q5, Q6, Q7, Q8, Q9, Q10, Q11, Q12, Q13, Q14, Q15, Q16, Q17, Q18, Q19, Q20, Q21, Q22, Q23, Q24, Q25, Q26, Q27, Q28, Q29, Q30, Q31, Q32, Q33, Q34, Q35, Q36, Q37, Q38, Q39, Q40, Q41, Q42, Q43, Q44, Q45, Q46, Q47, Q48, Q49, Q50, Q51, Q52, Q53, Q54, Q55, Q56, Q57, Q58, Q59, Q60, Q61, Q62, Q63, Q64, Q65, Q66, Q67, Q68, Q69, Q70, Q71, lends, Q72, Q73, Q74, Q75, Q76, Q77, Q78, Q79, Q80, Q81, Q82, Q83, Q84, Q85, Q86, Q87, Q88, Q89, Q90, Q91, Q92, Q93, Q94, Q95, Q96, Q97, Q98, Q99, Q100, Q101, Q102, Q103, Q104, List.drop_succ_cons, List.drop_zero, List.take_succ_cons, List.take_zero, Q105, Q106, Q107, Q108, Q109, Q110, Q111, Q112, Q113, Q114, Q115, Q116, Q117, Q118, Q119, Q120, Q121, Q122, Q123, Q124, Q125, Q126, Q127, Q128, Q129, Q130, Q131, Q132, Q133, Q134, Q135, Q136, Q137, Q138, Q139, Q140, Q141, Q142, Q143, Q144, Q145, Q146, Q147, Q148, Q149, Q150, Q151, Q152, Q153, Q154, Q155, Q156, Q157, Q158, Q159, Q160, c_lt, c_le, c_gt, c_ge, Q161, Q162, Q163, Q164, Q165, Q166, Q167, Q168, Q169, Q170, Q171, Q172, Q173, Q174, Q175, Q176, Q177, Q178, Q179, List.all_cons, List.all_nil, Q180, Q181, Q182, Q183, Q184, Q185, Q186, Q187, Q188, at_0, at_1, at_2, at_3, at_4, at_5, at_6, at_7, Q189, Q190, Q191, Q192, Q193, Q194, Q195, Q196, Q197, Q198, Q199, Q200, Q201, Q202, Q203, Q204, Q205, Q206, Q207, Q208, Q209, Q210, Q211, Q212, Q213, Q214, Q215, Q216, Q217, Q218, Q219, Q220, Nat.reduceAdd, Nat.reduceSub, Nat.reduceMul, Nat.reduceEqDiff, Nat.reduceLeDiff, Int.reduceEq, Int.reduceNe, Int.reduceLT, Int.reduceLE, Int.reduceGT, Int.reduceGE, Int.reduceAdd, Int.reduceSub, Int.reduceMul, Int.reduceNeg, Int.reduceToNat, Int.reducePow, Int.reduceAbs, Int.cast_ofNat_Int, List.map_cons, List.map_nil, List.append_nil, List.nil_append, List.cons_append, List.length_cons, List.length_nil, List.length_map, decide_true, decide_false, decide_eq_true_eq, Bool.not_eq_true', decide_eq_false_iff_not, Bool.and_eq_true, Bool.or_eq_true, not_true_eq_false, not_false_eq_true, Bool.not_true, Bool.not_false, Bool.true_and, Bool.and_true, Bool.false_and, Bool.and_false, Bool.or_false, Bool.false_or, Bool.true_or, Bool.or_true, Bool.false_eq_true, if_true, if_false, ite_true, ite_false, reduceIte, ite_self, beq_self_eq_true, Bool.true_eq_false, Q221, Q222, String.reduceEq, Q223, Q224, Q225, Q226, Q227, Q228, Q229, Q230, Q231, Q232, Q233, Q234, Q235, Q236, Q237, Q238, Q239, Q240, Q241, Q242, Q243, Q244, Q245, Q246, Q247, Q248, Q249, Q250, Q251, Q252, Q253, Q254, Q255, Q256, Q257, Q258, Q259, Q260, Q261, Q262, Q263, Q264, Q265, Q266, Q267, Q268, Q269, Q270, Q271, Q272, Q273, Q274, Q275, Q276, dvL, mlL, mlR, pwL, Nat.reduceLT, itr2, s0, s1, fit2]; try rfl)
  · obtain ⟨b1, b2, b3, rfl⟩ := len3 pa.lb
    obtain ⟨v1, v2, v3, rfl⟩ := len3 pa.lv
    have s0 : decide (0 < sizeLine) = true := by decide
    have s1 : decide (1 < sizeLine) = true := by decide
    have s2 : decide (2 < sizeLine) = true := by decide
    rcases hc with rfl | rfl | rfl | rfl | rfl | rfl | rfl <;>
      (unfold b_law_due dueT pzW encPa encB encP; simp only [Q0, Q1, Q2, Q3, Q4, Q5, Q6, Q7, Q8, Q9, Q10, Q11, Q12, Q13, Q14, Q15, Q16, Q17, Q18, Q19, Q20, Q21, Q22, Q23, Q24, Q25, Q26, Q27, Q28, Q29, Q30, Q31, Q32, Q33, Q34, Q35, Q36, Q37, Q38, Q39, Q40, Q41, Q42, Q43, Q44, Q45, Q46, Q47, Q48, Q49, Q50, Q51, Q52, Q53, Q54, Q55, Q56, Q57, Q58, Q59, Q60, Q61, Q62, Q63, Q64, Q65, Q66, Q67, Q68, Q69, Q70, Q71, lends, Q72, Q73, Q74, Q75, Q76, Q77, Q78, Q79, Q80, Q81, Q82, Q83, Q84, Q85, Q86, Q87, Q88, Q89, Q90, Q91, Q92, Q93, Q94, Q95, Q96, Q97, Q98, Q99, Q100, Q101, Q102, Q103, Q104, List.drop_succ_cons, List.drop_zero, List.take_succ_cons, List.take_zero, Q105, Q106, Q107, Q108, Q109, Q110, Q111, Q112, Q113, Q114, Q115, Q116, Q117, Q118, Q119, Q120, Q121, Q122, Q123, Q124, Q125, Q126, Q127, Q128, Q129, Q130, Q131, Q132, Q133, Q134, Q135, Q136, Q137, Q138, Q139, Q140, Q141, Q142, Q143, Q144, Q145, Q146, Q147, Q148, Q149, Q150, Q151, Q152, Q153, Q154, Q155, Q156, Q157, Q158, Q159, Q160, c_lt, c_le, c_gt, c_ge, Q161, Q162, Q163, Q164, Q165, Q166, Q167, Q168, Q169, Q170, Q171, Q172, Q173, Q174, Q175, Q176, Q177, Q178, Q179, List.all_cons, List.all_nil, Q180, Q181, Q182, Q183, Q184, Q185, Q186, Q187, Q188, at_0, at_1, at_2, at_3, at_4, at_5, at_6, at_7, Q189, Q190, Q191, Q192, Q193, Q194, Q195, Q196, Q197, Q198, Q199, Q200, Q201, Q202, Q203, Q204, Q205, Q206, Q207, Q208, Q209, Q210, Q211, Q212, Q213, Q214, Q215, Q216, Q217, Q218, Q219, Q220, Nat.reduceAdd, Nat.reduceSub, Nat.reduceMul, Nat.reduceEqDiff, Nat.reduceLeDiff, Int.reduceEq, Int.reduceNe, Int.reduceLT, Int.reduceLE, Int.reduceGT, Int.reduceGE, Int.reduceAdd, Int.reduceSub, Int.reduceMul, Int.reduceNeg, Int.reduceToNat, Int.reducePow, Int.reduceAbs, Int.cast_ofNat_Int, List.map_cons, List.map_nil, List.append_nil, List.nil_append, List.cons_append, List.length_cons, List.length_nil, List.length_map, decide_true, decide_false, decide_eq_true_eq, Bool.not_eq_true', decide_eq_false_iff_not, Bool.and_eq_true, Bool.or_eq_true, not_true_eq_false, not_false_eq_true, Bool.not_true, Bool.not_false, Bool.true_and, Bool.and_true, Bool.false_and, Bool.and_false, Bool.or_false, Bool.false_or, Bool.true_or, Bool.or_true, Bool.false_eq_true, if_true, if_false, ite_true, ite_false, reduceIte, ite_self, beq_self_eq_true, Bool.true_eq_false, Q221, Q222, String.reduceEq, Q223, Q224, Q225, Q226, Q227, Q228, Q229, Q230, Q231, Q232, Q233, Q234, Q235, Q236, Q237, Q238, Q239, Q240, Q241, Q242, Q243, Q244, Q245, Q246, Q247, Q248, Q249, Q250, Q251, Q252, Q253, Q254, Q255, Q256, Q257, Q258, Q259, Q260, Q261, Q262, Q263, Q264, Q265, Q266, Q267, Q268, Q269, Q270, Q271, Q272, Q273, Q274, Q275, Q276, dvL, mlL, mlR, pwL, Nat.reduceLT, itr3, s0, s1, s2, fit3]; try rfl)
end
theorem KL_i (n : Nat) (i : Int) : LK n (.int i) := by cases n <;> exact trivial
theorem KL_S (q : Sd) : LK 1 (encS q) := ⟨by simp, fun x hx => by
  simp only [List.mem_cons, List.not_mem_nil, or_false] at hx
  rcases hx with rfl | rfl | rfl | rfl <;> exact KL_i 0 _⟩
theorem KL_F (f : List Sd) (h : f.length ≤ 1000) : LK 2 (encF f) := ⟨by rw [List.length_map]; omega, fun x hx => by
  obtain ⟨q, _, rfl⟩ := List.mem_map.1 hx
  exact KL_S q⟩
theorem KL_P (q : Int × Int) : LK 1 (encP q) := ⟨by simp, fun x hx => by
  simp only [List.mem_cons, List.not_mem_nil, or_false] at hx
  rcases hx with rfl | rfl <;> exact KL_i 0 _⟩
theorem KL_B (b : List (Int × Int)) (h : b.length ≤ 1000) : LK 2 (encB b) := ⟨by rw [List.length_map]; omega, fun x hx => by
  obtain ⟨q, _, rfl⟩ := List.mem_map.1 hx
  exact KL_P q⟩
theorem KL_T (t : Th) (h : t.s.length ≤ 1000) : LK 3 (encT t) := ⟨by simp, fun x hx => by
  simp only [List.mem_cons, List.not_mem_nil, or_false] at hx
  rcases hx with rfl | rfl | rfl | rfl
  · exact KL_i 2 _
  · exact KL_F _ h
  · exact KL_i 2 _
  · exact KL_i 2 _⟩
def tD (t : Th) : D := .tup [encF t.s, encF t.s, .int t.m, .int t.m, .int 1, .int t.w, .int t.w, .int t.w]
theorem KL_D (t : Th) (h : t.s.length ≤ 1000) : LK 3 (tD t) := ⟨by simp, fun x hx => by
  simp only [List.mem_cons, List.not_mem_nil, or_false] at hx
  rcases hx with rfl | rfl | rfl | rfl | rfl | rfl | rfl | rfl <;> first | exact KL_F _ h | exact KL_i 2 _⟩
theorem told_tD (n : Nat) (t : Th) : callN P (n + 1) n_thing_told [encT t] = .ok (tD t) := by
  rw [callN_eq P_thing_told _ (by simp)]
  unfold b_thing_told encT tD
  simp only [Q0, Q1, Q2, Q3, Q4, Q5, Q6, Q7, Q8, Q9, Q10, Q11, Q12, Q13, Q14, Q15, Q16, Q17, Q18, Q19, Q20, Q21, Q22, Q23, Q24, Q25, Q26, Q27, Q28, Q29, Q30, Q31, Q32, Q33, Q34, Q35, Q36, Q37, Q38, Q39, Q40, Q41, Q42, Q43, Q44, Q45, Q46, Q47, Q48, Q49, Q50, Q51, Q52, Q53, Q54, Q55, Q56, Q57, Q58, Q59, Q60, Q61, Q62, Q63, Q64, Q65, Q66, Q67, Q68, Q69, Q70, Q71, lends, Q72, Q73, Q74, Q75, Q76, Q77, Q78, Q79, Q80, Q81, Q82, Q83, Q84, Q85, Q86, Q87, Q88, Q89, Q90, Q91, Q92, Q93, Q94, Q95, Q96, Q97, Q98, Q99, Q100, Q101, Q102, Q103, Q104, List.drop_succ_cons, List.drop_zero, List.take_succ_cons, List.take_zero, Q105, Q106, Q107, Q108, Q109, Q110, Q111, Q112, Q113, Q114, Q115, Q116, Q117, Q118, Q119, Q120, Q121, Q122, Q123, Q124, Q125, Q126, Q127, Q128, Q129, Q130, Q131, Q132, Q133, Q134, Q135, Q136, Q137, Q138, Q139, Q140, Q141, Q142, Q143, Q144, Q145, Q146, Q147, Q148, Q149, Q150, Q151, Q152, Q153, Q154, Q155, Q156, Q157, Q158, Q159, Q160, c_lt, c_le, c_gt, c_ge, Q161, Q162, Q163, Q164, Q165, Q166, Q167, Q168, Q169, Q170, Q171, Q172, Q173, Q174, Q175, Q176, Q177, Q178, Q179, List.all_cons, List.all_nil, Q180, Q181, Q182, Q183, Q184, Q185, Q186, Q187, Q188, at_0, at_1, at_2, at_3, at_4, at_5, at_6, at_7, Q189, Q190, Q191, Q192, Q193, Q194, Q195, Q196, Q197, Q198, Q199, Q200, Q201, Q202, Q203, Q204, Q205, Q206, Q207, Q208, Q209, Q210, Q211, Q212, Q213, Q214, Q215, Q216, Q217, Q218, Q219, Q220, Nat.reduceAdd, Nat.reduceSub, Nat.reduceMul, Nat.reduceEqDiff, Nat.reduceLeDiff, Int.reduceEq, Int.reduceNe, Int.reduceLT, Int.reduceLE, Int.reduceGT, Int.reduceGE, Int.reduceAdd, Int.reduceSub, Int.reduceMul, Int.reduceNeg, Int.reduceToNat, Int.reducePow, Int.reduceAbs, Int.cast_ofNat_Int, List.map_cons, List.map_nil, List.append_nil, List.nil_append, List.cons_append, List.length_cons, List.length_nil, List.length_map, decide_true, decide_false, decide_eq_true_eq, Bool.not_eq_true', decide_eq_false_iff_not, Bool.and_eq_true, Bool.or_eq_true, not_true_eq_false, not_false_eq_true, Bool.not_true, Bool.not_false, Bool.true_and, Bool.and_true, Bool.false_and, Bool.and_false, Bool.or_false, Bool.false_or, Bool.true_or, Bool.or_true, Bool.false_eq_true, if_true, if_false, ite_true, ite_false, reduceIte, ite_self, beq_self_eq_true, Bool.true_eq_false, Q221, Q222, String.reduceEq, Q223, Q224, Q225, Q226, Q227, Q228, Q229, Q230, Q231, Q232, Q233, Q234, Q235, Q236, Q237, Q238, Q239, Q240, Q241, Q242, Q243, Q244, Q245, Q246, Q247, Q248, Q249, Q250, Q251, Q252, Q253, Q254, Q255, Q256, Q257, Q258, Q259, Q260, Q261, Q262, Q263, Q264, Q265, Q266, Q267, Q268, Q269, Q270, Q271, Q272, Q273, Q274, Q275, Q276, dvL, mlL, mlR, pwL, Nat.reduceLT]
theorem law_true (ns : List Int) (hns : ns.length ≤ 63) (hz : ∀ z ∈ ns, z.natAbs < cellS) : callN P 60 n_law_36 [.lst (ns.map D.int)] = .ok (.bl true) := by
  rw [callN_eq P_law_36 _ (by simp)]
  have cz : ∀ z ∈ (0 : Int) :: ns, z.natAbs < cellB := by
    intro z h
    have cS : z.natAbs < cellS := by
      rcases List.mem_cons.1 h with rfl | h
      · exact Nat.pow_pos (by decide)
      · exact hz z h
    exact cellS_B cS (by omega)
  have p15 : powOk 10 15 = true := by decide
  have lx : ((0 : Int) :: ns).length = 1 + ns.length := by rw [List.length_cons]; omega
  have ex0 : (D.int 0 :: ns.map D.int) = ((0 : Int) :: ns).map D.int := rfl
  generalize ((0 : Int) :: ns) = xs at cz lx ex0
  have loop : forD (forT (callN P 59) false [1] (loopB b_law_36 0)) (xs.map D.int) [.sh (.lst (ns.map D.int)), .no, .no, .no, .no, .no, .no, .no, .no, .no, .no] = .ok (.nx [.sh (.lst (ns.map D.int)), .no, .no, .no, .no, .no, .no, .no, .no, .no, .no]) := by
    refine forD_all (enc := D.int) xs fun c hc => ?_
    have hc := cz c hc
    obtain ⟨s, h, b, v, m, w, pa, epa⟩ := law_parts_by_ok 57 c hc
    obtain ⟨l1, hl1, e1⟩ := law_stir_ok 58 c hc
    obtain ⟨l2, hl2, e2⟩ := law_next_ok 58 l1 hl1
    obtain ⟨l3, hl3, e3⟩ := law_next_ok 58 l2 hl2
    obtain ⟨x, hx, ex⟩ := law_number_by_ok 58 (l3 / 7) (c / 11) 1000000000000000 (by decide)
    have ab : biD .abs [.int x] = .ok (.int (if x < 0 then -x else x)) := rfl
    obtain ⟨beat, hbt, ebt⟩ : ∃ beat : Int, (0 ≤ beat ∧ beat ≤ 1000000000000000) ∧ (if x < 0 then -x else x) = beat := ⟨_, by split <;> omega, rfl⟩
    rw [ebt] at ab
    have w7 := emod_bd l3 7 (by decide)
    obtain ⟨way, hway, ew⟩ : ∃ way : Int, (0 ≤ way ∧ way < 7) ∧ l3 % 7 = way := ⟨_, w7, rfl⟩
    have du := law_due_ok pa 58 hway
    have ma := law_made_ok pa 55 hway
    have hsl : (dueT way h b v m w).s.length ≤ 3 := by
      show (swOf b (pzW way b v)).length ≤ 3
      unfold swOf
      rw [List.length_map, List.length_zip]
      have := pa.lb
      have := pa.hs
      omega
    have hsp : ∀ q ∈ (dueT way h b v m w).s, q.2.2.1 = q.2.2.2 := by
      intro q hq
      obtain ⟨p, _, rfl⟩ := List.mem_map.1 (show q ∈ swOf b (pzW way b v) from hq)
      rfl
    generalize dueT way h b v m w = t at du ma hsl hsp
    have s1 := same_ok 55 3 _ (KL_T t (by omega))
    have s2 := same_ok 56 2 _ (KL_B (fat t.s beat) (by unfold fat; rw [List.length_map]; omega))
    have s3 := same_ok 55 3 _ (KL_D t (by omega))
    have tb := thing_box_ok 57 t beat (by omega) (by omega)
    have tt := told_tD 58 t
    have i1 : idxD (encT t) (.int 1) = .ok (encF t.s) := rfl
    have i2 : idxD (encT t) (.int 2) = .ok (.int t.m) := rfl
    have i3 : idxD (encT t) (.int 3) = .ok (.int t.w) := rfl
    have hm : ∀ y : Int, mulOk y beat = true := fun y => mul_ok2 (by omega)
    have t0 : ∀ q : Sd, idxD (encS q) (.int 0) = .ok (.int q.1) := fun _ => rfl
    have t1 : ∀ q : Sd, idxD (encS q) (.int 1) = .ok (.int q.2.1) := fun _ => rfl
    have t2 : ∀ q : Sd, idxD (encS q) (.int 2) = .ok (.int q.2.2.1) := fun _ => rfl
    have cb := ev_compST (F := callN P 59) (elt := (.tup [(.bin .add (.idx (.var 10) (.con (.int 0))) (.bin .mul (.idx (.var 10) (.con (.int 2))) (.var 5))), (.bin .add (.idx (.var 10) (.con (.int 1))) (.bin .mul (.idx (.var 10) (.con (.int 2))) (.var 5)))])) (v := .idx (.var 6) (.con (.int 1))) (i := 10) (ρ := [.sh (.lst (ns.map D.int)), .no, .no, .no, .no, .sh (.int beat), .sh (encT t), .sh (encT t), .no, .no, .no]) (l := t.s) (enc := encS) (G := fun q => .tup [.int (q.1 + q.2.2.1 * beat), .int (q.2.1 + q.2.2.1 * beat)]) (by simp only [Q0, Q1, Q2, Q3, Q4, Q5, Q6, Q7, Q8, Q9, Q10, Q11, Q12, Q13, Q14, Q15, Q16, Q17, Q18, Q19, Q20, Q21, Q22, Q23, Q24, Q25, Q26, Q27, Q28, Q29, Q30, Q31, Q32, Q33, Q34, Q35, Q36, Q37, Q38, Q39, Q40, Q41, Q42, Q43, Q44, Q45, Q46, Q47, Q48, Q49, Q50, Q51, Q52, Q53, Q54, Q55, Q56, Q57, Q58, Q59, Q60, Q61, Q62, Q63, Q64, Q65, Q66, Q67, Q68, Q69, Q70, Q71, lends, Q72, Q73, Q74, Q75, Q76, Q77, Q78, Q79, Q80, Q81, Q82, Q83, Q84, Q85, Q86, Q87, Q88, Q89, Q90, Q91, Q92, Q93, Q94, Q95, Q96, Q97, Q98, Q99, Q100, Q101, Q102, Q103, Q104, List.drop_succ_cons, List.drop_zero, List.take_succ_cons, List.take_zero, Q105, Q106, Q107, Q108, Q109, Q110, Q111, Q112, Q113, Q114, Q115, Q116, Q117, Q118, Q119, Q120, Q121, Q122, Q123, Q124, Q125, Q126, Q127, Q128, Q129, Q130, Q131, Q132, Q133, Q134, Q135, Q136, Q137, Q138, Q139, Q140, Q141, Q142, Q143, Q144, Q145, Q146, Q147, Q148, Q149, Q150, Q151, Q152, Q153, Q154, Q155, Q156, Q157, Q158, Q159, Q160, c_lt, c_le, c_gt, c_ge, Q161, Q162, Q163, Q164, Q165, Q166, Q167, Q168, Q169, Q170, Q171, Q172, Q173, Q174, Q175, Q176, Q177, Q178, Q179, List.all_cons, List.all_nil, Q180, Q181, Q182, Q183, Q184, Q185, Q186, Q187, Q188, at_0, at_1, at_2, at_3, at_4, at_5, at_6, at_7, Q189, Q190, Q191, Q192, Q193, Q194, Q195, Q196, Q197, Q198, Q199, Q200, Q201, Q202, Q203, Q204, Q205, Q206, Q207, Q208, Q209, Q210, Q211, Q212, Q213, Q214, Q215, Q216, Q217, Q218, Q219, Q220, Nat.reduceAdd, Nat.reduceSub, Nat.reduceMul, Nat.reduceEqDiff, Nat.reduceLeDiff, Int.reduceEq, Int.reduceNe, Int.reduceLT, Int.reduceLE, Int.reduceGT, Int.reduceGE, Int.reduceAdd, Int.reduceSub, Int.reduceMul, Int.reduceNeg, Int.reduceToNat, Int.reducePow, Int.reduceAbs, Int.cast_ofNat_Int, List.map_cons, List.map_nil, List.append_nil, List.nil_append, List.cons_append, List.length_cons, List.length_nil, List.length_map, decide_true, decide_false, decide_eq_true_eq, Bool.not_eq_true', decide_eq_false_iff_not, Bool.and_eq_true, Bool.or_eq_true, not_true_eq_false, not_false_eq_true, Bool.not_true, Bool.not_false, Bool.true_and, Bool.and_true, Bool.false_and, Bool.and_false, Bool.or_false, Bool.false_or, Bool.true_or, Bool.or_true, Bool.false_eq_true, if_true, if_false, ite_true, ite_false, reduceIte, ite_self, beq_self_eq_true, Bool.true_eq_false, Q221, Q222, String.reduceEq, Q223, Q224, Q225, Q226, Q227, Q228, Q229, Q230, Q231, Q232, Q233, Q234, Q235, Q236, Q237, Q238, Q239, Q240, Q241, Q242, Q243, Q244, Q245, Q246, Q247, Q248, Q249, Q250, Q251, Q252, Q253, Q254, Q255, Q256, Q257, Q258, Q259, Q260, Q261, Q262, Q263, Q264, Q265, Q266, Q267, Q268, Q269, Q270, Q271, Q272, Q273, Q274, Q275, Q276, dvL, mlL, mlR, pwL, Nat.reduceLT, i1]; try rfl) (by omega) (fun q _ => by simp only [Q0, Q1, Q2, Q3, Q4, Q5, Q6, Q7, Q8, Q9, Q10, Q11, Q12, Q13, Q14, Q15, Q16, Q17, Q18, Q19, Q20, Q21, Q22, Q23, Q24, Q25, Q26, Q27, Q28, Q29, Q30, Q31, Q32, Q33, Q34, Q35, Q36, Q37, Q38, Q39, Q40, Q41, Q42, Q43, Q44, Q45, Q46, Q47, Q48, Q49, Q50, Q51, Q52, Q53, Q54, Q55, Q56, Q57, Q58, Q59, Q60, Q61, Q62, Q63, Q64, Q65, Q66, Q67, Q68, Q69, Q70, Q71, lends, Q72, Q73, Q74, Q75, Q76, Q77, Q78, Q79, Q80, Q81, Q82, Q83, Q84, Q85, Q86, Q87, Q88, Q89, Q90, Q91, Q92, Q93, Q94, Q95, Q96, Q97, Q98, Q99, Q100, Q101, Q102, Q103, Q104, List.drop_succ_cons, List.drop_zero, List.take_succ_cons, List.take_zero, Q105, Q106, Q107, Q108, Q109, Q110, Q111, Q112, Q113, Q114, Q115, Q116, Q117, Q118, Q119, Q120, Q121, Q122, Q123, Q124, Q125, Q126, Q127, Q128, Q129, Q130, Q131, Q132, Q133, Q134, Q135, Q136, Q137, Q138, Q139, Q140, Q141, Q142, Q143, Q144, Q145, Q146, Q147, Q148, Q149, Q150, Q151, Q152, Q153, Q154, Q155, Q156, Q157, Q158, Q159, Q160, c_lt, c_le, c_gt, c_ge, Q161, Q162, Q163, Q164, Q165, Q166, Q167, Q168, Q169, Q170, Q171, Q172, Q173, Q174, Q175, Q176, Q177, Q178, Q179, List.all_cons, List.all_nil, Q180, Q181, Q182, Q183, Q184, Q185, Q186, Q187, Q188, at_0, at_1, at_2, at_3, at_4, at_5, at_6, at_7, Q189, Q190, Q191, Q192, Q193, Q194, Q195, Q196, Q197, Q198, Q199, Q200, Q201, Q202, Q203, Q204, Q205, Q206, Q207, Q208, Q209, Q210, Q211, Q212, Q213, Q214, Q215, Q216, Q217, Q218, Q219, Q220, Nat.reduceAdd, Nat.reduceSub, Nat.reduceMul, Nat.reduceEqDiff, Nat.reduceLeDiff, Int.reduceEq, Int.reduceNe, Int.reduceLT, Int.reduceLE, Int.reduceGT, Int.reduceGE, Int.reduceAdd, Int.reduceSub, Int.reduceMul, Int.reduceNeg, Int.reduceToNat, Int.reducePow, Int.reduceAbs, Int.cast_ofNat_Int, List.map_cons, List.map_nil, List.append_nil, List.nil_append, List.cons_append, List.length_cons, List.length_nil, List.length_map, decide_true, decide_false, decide_eq_true_eq, Bool.not_eq_true', decide_eq_false_iff_not, Bool.and_eq_true, Bool.or_eq_true, not_true_eq_false, not_false_eq_true, Bool.not_true, Bool.not_false, Bool.true_and, Bool.and_true, Bool.false_and, Bool.and_false, Bool.or_false, Bool.false_or, Bool.true_or, Bool.or_true, Bool.false_eq_true, if_true, if_false, ite_true, ite_false, reduceIte, ite_self, beq_self_eq_true, Bool.true_eq_false, Q221, Q222, String.reduceEq, Q223, Q224, Q225, Q226, Q227, Q228, Q229, Q230, Q231, Q232, Q233, Q234, Q235, Q236, Q237, Q238, Q239, Q240, Q241, Q242, Q243, Q244, Q245, Q246, Q247, Q248, Q249, Q250, Q251, Q252, Q253, Q254, Q255, Q256, Q257, Q258, Q259, Q260, Q261, Q262, Q263, Q264, Q265, Q266, Q267, Q268, Q269, Q270, Q271, Q272, Q273, Q274, Q275, Q276, dvL, mlL, mlR, pwL, Nat.reduceLT, t0, t1, t2, hm])
    have fb : D.tup (t.s.map fun q => D.tup [.int (q.1 + q.2.2.1 * beat), .int (q.2.1 + q.2.2.1 * beat)]) = encB (fat t.s beat) := by
      unfold encB fat
      rw [List.map_map]
      refine congrArg D.tup (List.map_congr_left fun q hq => ?_)
      show _ = encP (q.1 + q.2.2.1 * beat, q.2.1 + q.2.2.2 * beat)
      rw [← hsp q hq]; rfl
    have ft : fits t.s.length = true := fits_of (by omega)
    have etD : D.tup [encF t.s, encF t.s, .int t.m, .int t.m, .int 1, .int t.w, .int t.w, .int t.w] = tD t := rfl
    unfold b_law_36
    simp only [Q0, Q1, Q2, Q3, Q4, Q5, Q6, Q7, Q8, Q9, Q10, Q11, Q12, Q13, Q14, Q15, Q16, Q17, Q18, Q19, Q20, Q21, Q22, Q23, Q24, Q25, Q26, Q27, Q28, Q29, Q30, Q31, Q32, Q33, Q34, Q35, Q36, Q37, Q38, Q39, Q40, Q41, Q42, Q43, Q44, Q45, Q46, Q47, Q48, Q49, Q50, Q51, Q52, Q53, Q54, Q55, Q56, Q57, Q58, Q59, Q60, Q61, Q62, Q63, Q64, Q65, Q66, Q67, Q68, Q69, Q70, Q71, lends, Q72, Q73, Q74, Q75, Q76, Q77, Q78, Q80, Q81, Q82, Q83, Q84, Q85, Q86, Q87, Q88, Q89, Q90, Q91, Q92, Q93, Q94, Q95, Q96, Q97, Q98, Q99, Q100, Q101, Q102, Q103, Q104, List.drop_succ_cons, List.drop_zero, List.take_succ_cons, List.take_zero, Q105, Q106, Q107, Q108, Q109, Q110, Q111, Q112, Q113, Q114, Q115, Q116, Q117, Q118, Q119, Q120, Q121, Q122, Q123, Q124, Q125, Q126, Q127, Q128, Q129, Q130, Q131, Q132, Q133, Q134, Q135, Q136, Q137, Q138, Q139, Q140, Q141, Q142, Q143, Q144, Q145, Q146, Q147, Q148, Q149, Q150, Q151, Q152, Q153, Q154, Q155, Q156, Q157, Q158, Q159, Q160, c_lt, c_le, c_gt, c_ge, Q161, Q162, Q163, Q164, Q165, Q166, Q167, Q168, Q169, Q170, Q171, Q172, Q173, Q174, Q175, Q176, Q177, Q178, Q179, List.all_cons, List.all_nil, Q180, Q181, Q182, Q183, Q184, Q185, Q186, Q187, Q188, at_0, at_1, at_2, at_3, at_4, at_5, at_6, at_7, Q189, Q190, Q191, Q192, Q193, Q194, Q195, Q196, Q197, Q198, Q199, Q200, Q201, Q202, Q203, Q204, Q205, Q206, Q207, Q208, Q209, Q210, Q211, Q212, Q213, Q214, Q215, Q216, Q217, Q218, Q219, Q220, Nat.reduceAdd, Nat.reduceSub, Nat.reduceMul, Nat.reduceEqDiff, Nat.reduceLeDiff, Int.reduceEq, Int.reduceNe, Int.reduceLT, Int.reduceLE, Int.reduceGT, Int.reduceGE, Int.reduceAdd, Int.reduceSub, Int.reduceMul, Int.reduceNeg, Int.reduceToNat, Int.reducePow, Int.reduceAbs, Int.cast_ofNat_Int, List.map_cons, List.map_nil, List.append_nil, List.nil_append, List.cons_append, List.length_cons, List.length_nil, List.length_map, decide_true, decide_false, decide_eq_true_eq, Bool.not_eq_true', decide_eq_false_iff_not, Bool.and_eq_true, Bool.or_eq_true, not_true_eq_false, not_false_eq_true, Bool.not_true, Bool.not_false, Bool.true_and, Bool.and_true, Bool.false_and, Bool.and_false, Bool.or_false, Bool.false_or, Bool.true_or, Bool.or_true, Bool.false_eq_true, if_true, if_false, ite_true, ite_false, reduceIte, ite_self, beq_self_eq_true, Bool.true_eq_false, Q221, Q222, String.reduceEq, Q223, Q224, Q225, Q226, Q227, Q228, Q229, Q230, Q231, Q232, Q233, Q234, Q235, Q236, Q237, Q238, Q239, Q240, Q241, Q242, Q243, Q244, Q245, Q246, Q247, Q248, Q249, Q250, Q251, Q252, Q253, Q254, Q255, Q256, Q257, Q258, Q259, Q260, Q261, Q262, Q263, Q264, Q265, Q266, Q267, Q268, Q269, Q270, Q271, Q272, Q273, Q274, Q275, Q276, dvL, mlL, mlR, pwL, Nat.reduceLT, epa, e1, e2, e3, p15, ex, ab, ew, du, ma, s1, cb, List.length_map, ft, fb, tb, s2, i1, i2, i3, etD, tt, s3]
  have fx : fits (1 + ns.length) = true := fits_of (by omega)
  unfold b_law_36 at loop ⊢
  simp only [Q0, Q1, Q2, Q3, Q4, Q5, Q6, Q7, Q8, Q9, Q10, Q11, Q12, Q13, Q14, Q15, Q16, Q17, Q18, Q19, Q20, Q21, Q22, Q23, Q24, Q25, Q26, Q27, Q28, Q29, Q30, Q31, Q32, Q33, Q34, Q35, Q36, Q37, Q38, Q39, Q40, Q41, Q42, Q43, Q44, Q45, Q46, Q47, Q48, Q49, Q50, Q51, Q52, Q53, Q54, Q55, Q56, Q57, Q58, Q59, Q60, Q61, Q62, Q63, Q64, Q65, Q66, Q67, Q68, Q69, Q70, Q71, lends, Q72, Q73, Q74, Q75, Q76, Q77, Q78, Q80, Q81, Q82, Q83, Q84, Q85, Q86, Q87, Q88, Q89, Q90, Q91, Q92, Q93, Q94, Q95, Q96, Q97, Q98, Q99, Q100, Q101, Q102, Q103, Q104, List.drop_succ_cons, List.drop_zero, List.take_succ_cons, List.take_zero, Q105, Q106, Q107, Q108, Q109, Q110, Q111, Q112, Q113, Q114, Q115, Q116, Q117, Q118, Q119, Q120, Q121, Q122, Q123, Q124, Q125, Q126, Q127, Q128, Q129, Q130, Q131, Q132, Q133, Q134, Q135, Q136, Q137, Q138, Q139, Q140, Q141, Q142, Q143, Q144, Q145, Q146, Q147, Q148, Q149, Q150, Q151, Q152, Q153, Q154, Q155, Q156, Q157, Q158, Q159, Q160, c_lt, c_le, c_gt, c_ge, Q161, Q162, Q163, Q164, Q165, Q166, Q167, Q168, Q169, Q170, Q171, Q172, Q173, Q174, Q175, Q176, Q177, Q178, Q179, List.all_cons, List.all_nil, Q180, Q181, Q182, Q183, Q184, Q185, Q186, Q187, Q188, at_0, at_1, at_2, at_3, at_4, at_5, at_6, at_7, Q189, Q190, Q191, Q192, Q193, Q194, Q195, Q196, Q197, Q198, Q199, Q200, Q201, Q202, Q203, Q204, Q205, Q206, Q207, Q208, Q209, Q210, Q211, Q212, Q213, Q214, Q215, Q216, Q217, Q218, Q219, Q220, Nat.reduceAdd, Nat.reduceSub, Nat.reduceMul, Nat.reduceEqDiff, Nat.reduceLeDiff, Int.reduceEq, Int.reduceNe, Int.reduceLT, Int.reduceLE, Int.reduceGT, Int.reduceGE, Int.reduceAdd, Int.reduceSub, Int.reduceMul, Int.reduceNeg, Int.reduceToNat, Int.reducePow, Int.reduceAbs, Int.cast_ofNat_Int, List.map_cons, List.map_nil, List.append_nil, List.nil_append, List.cons_append, List.length_cons, List.length_nil, List.length_map, decide_true, decide_false, decide_eq_true_eq, Bool.not_eq_true', decide_eq_false_iff_not, Bool.and_eq_true, Bool.or_eq_true, not_true_eq_false, not_false_eq_true, Bool.not_true, Bool.not_false, Bool.true_and, Bool.and_true, Bool.false_and, Bool.and_false, Bool.or_false, Bool.false_or, Bool.true_or, Bool.or_true, Bool.false_eq_true, if_true, if_false, ite_true, ite_false, reduceIte, ite_self, beq_self_eq_true, Bool.true_eq_false, Q221, Q222, String.reduceEq, Q223, Q224, Q225, Q226, Q227, Q228, Q229, Q230, Q231, Q232, Q233, Q234, Q235, Q236, Q237, Q238, Q239, Q240, Q241, Q242, Q243, Q244, Q245, Q246, Q247, Q248, Q249, Q250, Q251, Q252, Q253, Q254, Q255, Q256, Q257, Q258, Q259, Q260, Q261, Q262, Q263, Q264, Q265, Q266, Q267, Q268, Q269, Q270, Q271, Q272, Q273, Q274, Q275, Q276, dvL, mlL, mlR, pwL, Nat.reduceLT] at loop
  simp only [Q0, Q1, Q2, Q3, Q4, Q5, Q6, Q7, Q8, Q9, Q10, Q11, Q12, Q13, Q14, Q15, Q16, Q17, Q18, Q19, Q20, Q21, Q22, Q23, Q24, Q25, Q26, Q27, Q28, Q29, Q30, Q31, Q32, Q33, Q34, Q35, Q36, Q37, Q38, Q39, Q40, Q41, Q42, Q43, Q44, Q45, Q46, Q47, Q48, Q49, Q50, Q51, Q52, Q53, Q54, Q55, Q56, Q57, Q58, Q59, Q60, Q61, Q62, Q63, Q64, Q65, Q66, Q67, Q68, Q69, Q70, Q71, lends, Q72, Q73, Q74, Q75, Q76, Q77, Q78, Q80, Q81, Q82, Q83, Q84, Q85, Q86, Q87, Q88, Q89, Q90, Q91, Q92, Q93, Q94, Q95, Q96, Q97, Q98, Q99, Q100, Q101, Q102, Q103, Q104, List.drop_succ_cons, List.drop_zero, List.take_succ_cons, List.take_zero, Q105, Q106, Q107, Q108, Q109, Q110, Q111, Q112, Q113, Q114, Q115, Q116, Q117, Q118, Q119, Q120, Q121, Q122, Q123, Q124, Q125, Q126, Q127, Q128, Q129, Q130, Q131, Q132, Q133, Q134, Q135, Q136, Q137, Q138, Q139, Q140, Q141, Q142, Q143, Q144, Q145, Q146, Q147, Q148, Q149, Q150, Q151, Q152, Q153, Q154, Q155, Q156, Q157, Q158, Q159, Q160, c_lt, c_le, c_gt, c_ge, Q161, Q162, Q163, Q164, Q165, Q166, Q167, Q168, Q169, Q170, Q171, Q172, Q173, Q174, Q175, Q176, Q177, Q178, Q179, List.all_cons, List.all_nil, Q180, Q181, Q182, Q183, Q184, Q185, Q186, Q187, Q188, at_0, at_1, at_2, at_3, at_4, at_5, at_6, at_7, Q189, Q190, Q191, Q192, Q193, Q194, Q195, Q196, Q197, Q198, Q199, Q200, Q201, Q202, Q203, Q204, Q205, Q206, Q207, Q208, Q209, Q210, Q211, Q212, Q213, Q214, Q215, Q216, Q217, Q218, Q219, Q220, Nat.reduceAdd, Nat.reduceSub, Nat.reduceMul, Nat.reduceEqDiff, Nat.reduceLeDiff, Int.reduceEq, Int.reduceNe, Int.reduceLT, Int.reduceLE, Int.reduceGT, Int.reduceGE, Int.reduceAdd, Int.reduceSub, Int.reduceMul, Int.reduceNeg, Int.reduceToNat, Int.reducePow, Int.reduceAbs, Int.cast_ofNat_Int, List.map_cons, List.map_nil, List.append_nil, List.nil_append, List.cons_append, List.length_cons, List.length_nil, List.length_map, decide_true, decide_false, decide_eq_true_eq, Bool.not_eq_true', decide_eq_false_iff_not, Bool.and_eq_true, Bool.or_eq_true, not_true_eq_false, not_false_eq_true, Bool.not_true, Bool.not_false, Bool.true_and, Bool.and_true, Bool.false_and, Bool.and_false, Bool.or_false, Bool.false_or, Bool.true_or, Bool.or_true, Bool.false_eq_true, if_true, if_false, ite_true, ite_false, reduceIte, ite_self, beq_self_eq_true, Bool.true_eq_false, Q221, Q222, String.reduceEq, Q223, Q224, Q225, Q226, Q227, Q228, Q229, Q230, Q231, Q232, Q233, Q234, Q235, Q236, Q237, Q238, Q239, Q240, Q241, Q242, Q243, Q244, Q245, Q246, Q247, Q248, Q249, Q250, Q251, Q252, Q253, Q254, Q255, Q256, Q257, Q258, Q259, Q260, Q261, Q262, Q263, Q264, Q265, Q266, Q267, Q268, Q269, Q270, Q271, Q272, Q273, Q274, Q275, Q276, dvL, mlL, mlR, pwL, Nat.reduceLT, fx, ex0, List.length_map, loop]
end Dw

/-! ### the text is what is run -/
namespace Dw
open PySem PySem.Spec PyProof.Rows L2
def topS (i : Nat) : Stmt := PySem.Challenge.pw_driftwood_k18_a_thing_made.main.body.getD i (.Pass ⟨0, 0, 0, 0⟩)
abbrev s_drifting : Stmt := topS 4
abbrev s_frame_at : Stmt := topS 5
abbrev s_whole_within : Stmt := topS 11
abbrev s_fine_box : Stmt := topS 12
abbrev s_fine_speeds : Stmt := topS 13
abbrev s_make_thing : Stmt := topS 14
abbrev s_thing_box : Stmt := topS 15
abbrev s_thing_told : Stmt := topS 16
abbrev s__law_stir : Stmt := topS 18
abbrev s__law_next : Stmt := topS 19
abbrev s__law_same : Stmt := topS 20
abbrev s__law_number_by : Stmt := topS 21
abbrev s__law_parts_by : Stmt := topS 22
abbrev s__law_made : Stmt := topS 23
abbrev s__law_due : Stmt := topS 24
abbrev s_law : Stmt := topS 25
def T : Tab := ⟨[(n_drifting, ⟨"drifting", 2, [], false, []⟩), (n_frame_at, ⟨"frame_at", 2, [], false, []⟩), (n_whole_within, ⟨"whole_within", 3, [], false, []⟩), (n_fine_box, ⟨"fine_box", 1, [], false, []⟩), (n_fine_speeds, ⟨"fine_speeds", 2, [], false, []⟩), (n_make_thing, ⟨"make_thing", 5, [.non, (.int 0), (.int 0)], false, [(3, ["worth"], [0, 1, 2, 5, 3]), (2, ["marks", "speeds"], [0, 1, 3, 2, 6])]⟩), (n_thing_box, ⟨"thing_box", 2, [], false, []⟩), (n_thing_told, ⟨"thing_told", 1, [], false, []⟩), (n_law_stir, ⟨"_law_stir", 1, [], true, []⟩), (n_law_next, ⟨"_law_next", 1, [], true, []⟩), (n_law_same, ⟨"_law_same", 2, [], false, []⟩), (n_law_number_by, ⟨"_law_number_by", 3, [], true, []⟩), (n_law_parts_by, ⟨"_law_parts_by", 1, [], false, []⟩), (n_law_made, ⟨"_law_made", 2, [], false, []⟩), (n_law_due, ⟨"_law_due", 2, [], false, []⟩), (n_law_36, ⟨"law", 1, [], false, []⟩)], [("FAR", (.int 1000000000000000000000000000000)), ("FAST", (.int 1000000000000000)), ("LAST_HANDLE", (.int 1000000000000000000)), ("ALL_MARKS", (.int 65535))], [(0, "DriftError"), (1, "NoThing")], [], []⟩
theorem sc_drifting : FnScope ["box", "speeds", "side", "speed"] ["box", "speeds"] (defScope s_drifting) := ⟨rfl, rfl, rfl, by decide +kernel, rfl, by decide +kernel, by decide +kernel⟩
theorem ck_drifting : chkB T ["box", "speeds", "side", "speed"] false (defScope s_drifting) b_drifting (defBody s_drifting) = true := by decide +kernel
theorem sc_frame_at : FnScope ["frame", "beat", "side"] ["frame", "beat"] (defScope s_frame_at) := ⟨rfl, rfl, rfl, by decide +kernel, rfl, by decide +kernel, by decide +kernel⟩
theorem ck_frame_at : chkB T ["frame", "beat", "side"] false (defScope s_frame_at) b_frame_at (defBody s_frame_at) = true := by decide +kernel
theorem sc_whole_within : FnScope ["value", "low", "high"] ["value", "low", "high"] (defScope s_whole_within) := ⟨rfl, rfl, rfl, by decide +kernel, rfl, by decide +kernel, by decide +kernel⟩
theorem ck_whole_within : chkB T ["value", "low", "high"] false (defScope s_whole_within) b_whole_within (defBody s_whole_within) = true := by decide +kernel
theorem sc_fine_box : FnScope ["box", "side"] ["box"] (defScope s_fine_box) := ⟨rfl, rfl, rfl, by decide +kernel, rfl, by decide +kernel, by decide +kernel⟩
theorem ck_fine_box : chkB T ["box", "side"] false (defScope s_fine_box) b_fine_box (defBody s_fine_box) = true := by decide +kernel
theorem sc_fine_speeds : FnScope ["speeds", "sides", "speed"] ["speeds", "sides"] (defScope s_fine_speeds) := ⟨rfl, rfl, rfl, by decide +kernel, rfl, by decide +kernel, by decide +kernel⟩
theorem ck_fine_speeds : chkB T ["speeds", "sides", "speed"] false (defScope s_fine_speeds) b_fine_speeds (defBody s_fine_speeds) = true := by decide +kernel
theorem sc_make_thing : FnScope ["handle", "box", "speeds", "marks", "worth", "side"] ["handle", "box", "speeds", "marks", "worth"] (defScope s_make_thing) := ⟨rfl, rfl, rfl, by decide +kernel, rfl, by decide +kernel, by decide +kernel⟩
theorem ck_make_thing : chkB T ["handle", "box", "speeds", "marks", "worth", "side"] false (defScope s_make_thing) b_make_thing (defBody s_make_thing) = true := by decide +kernel
theorem sc_thing_box : FnScope ["thing", "beat"] ["thing", "beat"] (defScope s_thing_box) := ⟨rfl, rfl, rfl, by decide +kernel, rfl, by decide +kernel, by decide +kernel⟩
theorem ck_thing_box : chkB T ["thing", "beat"] false (defScope s_thing_box) b_thing_box (defBody s_thing_box) = true := by decide +kernel
theorem sc_thing_told : FnScope ["thing", "swath", "marks", "worth"] ["thing"] (defScope s_thing_told) := ⟨rfl, rfl, rfl, by decide +kernel, rfl, by decide +kernel, by decide +kernel⟩
theorem ck_thing_told : chkB T ["thing", "swath", "marks", "worth"] false (defScope s_thing_told) b_thing_told (defBody s_thing_told) = true := by decide +kernel
theorem sc__law_stir : FnScope ["cell"] ["cell"] (defScope s__law_stir) := ⟨rfl, rfl, rfl, by decide +kernel, rfl, by decide +kernel, by decide +kernel⟩
theorem ck__law_stir : chkB T ["cell"] true (defScope s__law_stir) b_law_stir (defBody s__law_stir) = true := by decide +kernel
theorem sc__law_next : FnScope ["left"] ["left"] (defScope s__law_next) := ⟨rfl, rfl, rfl, by decide +kernel, rfl, by decide +kernel, by decide +kernel⟩
theorem ck__law_next : chkB T ["left"] true (defScope s__law_next) b_law_next (defBody s__law_next) = true := by decide +kernel
theorem sc__law_same : FnScope ["found", "due", "k"] ["found", "due"] (defScope s__law_same) := ⟨rfl, rfl, rfl, by decide +kernel, rfl, by decide +kernel, by decide +kernel⟩
theorem ck__law_same : chkB T ["found", "due", "k"] false (defScope s__law_same) b_law_same (defBody s__law_same) = true := by decide +kernel
theorem sc__law_number_by : FnScope ["left", "cell", "bound"] ["left", "cell", "bound"] (defScope s__law_number_by) := ⟨rfl, rfl, rfl, by decide +kernel, rfl, by decide +kernel, by decide +kernel⟩
theorem ck__law_number_by : chkB T ["left", "cell", "bound"] true (defScope s__law_number_by) b_law_number_by (defBody s__law_number_by) = true := by decide +kernel
theorem sc__law_parts_by : FnScope ["cell", "left", "sides", "box", "paces", "k", "handle", "low", "high"] ["cell"] (defScope s__law_parts_by) := ⟨rfl, rfl, rfl, by decide +kernel, rfl, by decide +kernel, by decide +kernel⟩
theorem ck__law_parts_by : chkB T ["cell", "left", "sides", "box", "paces", "k", "handle", "low", "high"] false (defScope s__law_parts_by) b_law_parts_by (defBody s__law_parts_by) = true := by decide +kernel
theorem sc__law_made : FnScope ["parts", "way"] ["parts", "way"] (defScope s__law_made) := ⟨rfl, rfl, rfl, by decide +kernel, rfl, by decide +kernel, by decide +kernel⟩
theorem ck__law_made : chkB T ["parts", "way"] false (defScope s__law_made) b_law_made (defBody s__law_made) = true := by decide +kernel
theorem sc__law_due : FnScope ["parts", "way", "swath", "k", "some", "value", "pace"] ["parts", "way"] (defScope s__law_due) := ⟨rfl, rfl, rfl, by decide +kernel, rfl, by decide +kernel, by decide +kernel⟩
theorem ck__law_due : chkB T ["parts", "way", "swath", "k", "some", "value", "pace"] false (defScope s__law_due) b_law_due (defBody s__law_due) = true := by decide +kernel
theorem sc_law : FnScope ["script", "cell", "parts", "left", "way", "beat", "due", "found", "box", "told", "side"] ["script"] (defScope s_law) := ⟨rfl, rfl, rfl, by decide +kernel, rfl, by decide +kernel, by decide +kernel⟩
theorem ck_law : chkB T ["script", "cell", "parts", "left", "way", "beat", "due", "found", "box", "told", "side"] false (defScope s_law) b_law_36 (defBody s_law) = true := by decide +kernel
set_option maxHeartbeats 0 in
theorem all_mk {w : World} {K : PySem.W.Frag} {h : Heap} {mg : Str → Option Value} {fa : Addr} {f1 f2 f3 f4 f5 f6 f7 f8 f9 f10 f11 f12 f13 f14 f15 f16 : Addr} (law : ∀ ns : List Int, ns.length ≤ 63 → (∀ z ∈ ns, z.natAbs < cellS) → callN P 60 n_law_36 [.lst (ns.map D.int)] = .ok (.bl true)) (X : K.In h) (G : h.Ns mainGlobals mg) (hfa : mg "law" = some (.ref fa))
    {od1 an1 od2 an2 od3 an3 od4 an4 od5 an5 od6 an6 od7 an7 od8 an8 od9 an9 od10 an10 od11 an11 od12 an12 od13 an13 od14 an14 od15 an15 od16 an16 : Option Addr} {sl1 sl2 sl3 sl4 sl5 sl6 sl7 sl8 sl9 sl10 sl11 sl12 sl13 sl14 sl15 sl16 : Array (Option Value)} {oc1 kV1 dc1 pm1 cd1 ct1 oc2 kV2 dc2 pm2 cd2 ct2 oc3 kV3 dc3 pm3 cd3 ct3 oc4 kV4 dc4 pm4 cd4 ct4 oc5 kV5 dc5 pm5 cd5 ct5 oc6 kV6 dc6 pm6 cd6 ct6 oc7 kV7 dc7 pm7 cd7 ct7 oc8 kV8 dc8 pm8 cd8 ct8 oc9 kV9 dc9 pm9 cd9 ct9 oc10 kV10 dc10 pm10 cd10 ct10 oc11 kV11 dc11 pm11 cd11 ct11 oc12 kV12 dc12 pm12 cd12 ct12 oc13 kV13 dc13 pm13 cd13 ct13 oc14 kV14 dc14 pm14 cd14 ct14 oc15 kV15 dc15 pm15 cd15 ct15 oc16 kV16 dc16 pm16 cd16 ct16 : Value}
    (a1 : PySem.W.nsIn K mainGlobals "drifting" = some (some (.ref f1))) (l1 : K.lookup f1 = some ⟨oc1, od1, .func (PySem.W.fnOf "drifting" "drifting" (defArgs s_drifting) (defBody s_drifting) (defScope s_drifting) .none kV1 dc1 pm1 an1 cd1 ct1), sl1⟩) (c1 : PySem.W.codeIn K cd1 "drifting" = true) (k1 : PySem.W.keepIn K (.ref f1) = true)
    (a2 : PySem.W.nsIn K mainGlobals "frame_at" = some (some (.ref f2))) (l2 : K.lookup f2 = some ⟨oc2, od2, .func (PySem.W.fnOf "frame_at" "frame_at" (defArgs s_frame_at) (defBody s_frame_at) (defScope s_frame_at) .none kV2 dc2 pm2 an2 cd2 ct2), sl2⟩) (c2 : PySem.W.codeIn K cd2 "frame_at" = true) (k2 : PySem.W.keepIn K (.ref f2) = true)
    (a3 : PySem.W.nsIn K mainGlobals "whole_within" = some (some (.ref f3))) (l3 : K.lookup f3 = some ⟨oc3, od3, .func (PySem.W.fnOf "whole_within" "whole_within" (defArgs s_whole_within) (defBody s_whole_within) (defScope s_whole_within) .none kV3 dc3 pm3 an3 cd3 ct3), sl3⟩) (c3 : PySem.W.codeIn K cd3 "whole_within" = true) (k3 : PySem.W.keepIn K (.ref f3) = true)
    (a4 : PySem.W.nsIn K mainGlobals "fine_box" = some (some (.ref f4))) (l4 : K.lookup f4 = some ⟨oc4, od4, .func (PySem.W.fnOf "fine_box" "fine_box" (defArgs s_fine_box) (defBody s_fine_box) (defScope s_fine_box) .none kV4 dc4 pm4 an4 cd4 ct4), sl4⟩) (c4 : PySem.W.codeIn K cd4 "fine_box" = true) (k4 : PySem.W.keepIn K (.ref f4) = true)
    (a5 : PySem.W.nsIn K mainGlobals "fine_speeds" = some (some (.ref f5))) (l5 : K.lookup f5 = some ⟨oc5, od5, .func (PySem.W.fnOf "fine_speeds" "fine_speeds" (defArgs s_fine_speeds) (defBody s_fine_speeds) (defScope s_fine_speeds) .none kV5 dc5 pm5 an5 cd5 ct5), sl5⟩) (c5 : PySem.W.codeIn K cd5 "fine_speeds" = true) (k5 : PySem.W.keepIn K (.ref f5) = true)
    {T6 : Addr} {tc6 : Value} {td6 : Option Addr} {tn6 : Nat} {tsl6 : Array (Option Value)} {u6_1 : Tok} {u6_2 : Tok} (e6 : K.lookup T6 = some ⟨tc6, td6, .seq #[.none, .int 0 u6_1, .int 0 u6_2] tn6, tsl6⟩)
    (a6 : PySem.W.nsIn K mainGlobals "make_thing" = some (some (.ref f6))) (l6 : K.lookup f6 = some ⟨oc6, od6, .func (PySem.W.fnOf "make_thing" "make_thing" (defArgs s_make_thing) (defBody s_make_thing) (defScope s_make_thing) (.ref T6) kV6 dc6 pm6 an6 cd6 ct6), sl6⟩) (c6 : PySem.W.codeIn K cd6 "make_thing" = true) (k6 : PySem.W.keepIn K (.ref f6) = true)
    (a7 : PySem.W.nsIn K mainGlobals "thing_box" = some (some (.ref f7))) (l7 : K.lookup f7 = some ⟨oc7, od7, .func (PySem.W.fnOf "thing_box" "thing_box" (defArgs s_thing_box) (defBody s_thing_box) (defScope s_thing_box) .none kV7 dc7 pm7 an7 cd7 ct7), sl7⟩) (c7 : PySem.W.codeIn K cd7 "thing_box" = true) (k7 : PySem.W.keepIn K (.ref f7) = true)
    (a8 : PySem.W.nsIn K mainGlobals "thing_told" = some (some (.ref f8))) (l8 : K.lookup f8 = some ⟨oc8, od8, .func (PySem.W.fnOf "thing_told" "thing_told" (defArgs s_thing_told) (defBody s_thing_told) (defScope s_thing_told) .none kV8 dc8 pm8 an8 cd8 ct8), sl8⟩) (c8 : PySem.W.codeIn K cd8 "thing_told" = true) (k8 : PySem.W.keepIn K (.ref f8) = true)
    (a9 : PySem.W.nsIn K mainGlobals "_law_stir" = some (some (.ref f9))) (l9 : K.lookup f9 = some ⟨oc9, od9, .func (PySem.W.fnOf "_law_stir" "_law_stir" (defArgs s__law_stir) (defBody s__law_stir) (defScope s__law_stir) .none kV9 dc9 pm9 an9 cd9 ct9), sl9⟩) (c9 : PySem.W.codeIn K cd9 "_law_stir" = true) (k9 : PySem.W.keepIn K (.ref f9) = true)
    (a10 : PySem.W.nsIn K mainGlobals "_law_next" = some (some (.ref f10))) (l10 : K.lookup f10 = some ⟨oc10, od10, .func (PySem.W.fnOf "_law_next" "_law_next" (defArgs s__law_next) (defBody s__law_next) (defScope s__law_next) .none kV10 dc10 pm10 an10 cd10 ct10), sl10⟩) (c10 : PySem.W.codeIn K cd10 "_law_next" = true) (k10 : PySem.W.keepIn K (.ref f10) = true)
    (a11 : PySem.W.nsIn K mainGlobals "_law_same" = some (some (.ref f11))) (l11 : K.lookup f11 = some ⟨oc11, od11, .func (PySem.W.fnOf "_law_same" "_law_same" (defArgs s__law_same) (defBody s__law_same) (defScope s__law_same) .none kV11 dc11 pm11 an11 cd11 ct11), sl11⟩) (c11 : PySem.W.codeIn K cd11 "_law_same" = true) (k11 : PySem.W.keepIn K (.ref f11) = true)
    (a12 : PySem.W.nsIn K mainGlobals "_law_number_by" = some (some (.ref f12))) (l12 : K.lookup f12 = some ⟨oc12, od12, .func (PySem.W.fnOf "_law_number_by" "_law_number_by" (defArgs s__law_number_by) (defBody s__law_number_by) (defScope s__law_number_by) .none kV12 dc12 pm12 an12 cd12 ct12), sl12⟩) (c12 : PySem.W.codeIn K cd12 "_law_number_by" = true) (k12 : PySem.W.keepIn K (.ref f12) = true)
    (a13 : PySem.W.nsIn K mainGlobals "_law_parts_by" = some (some (.ref f13))) (l13 : K.lookup f13 = some ⟨oc13, od13, .func (PySem.W.fnOf "_law_parts_by" "_law_parts_by" (defArgs s__law_parts_by) (defBody s__law_parts_by) (defScope s__law_parts_by) .none kV13 dc13 pm13 an13 cd13 ct13), sl13⟩) (c13 : PySem.W.codeIn K cd13 "_law_parts_by" = true) (k13 : PySem.W.keepIn K (.ref f13) = true)
    (a14 : PySem.W.nsIn K mainGlobals "_law_made" = some (some (.ref f14))) (l14 : K.lookup f14 = some ⟨oc14, od14, .func (PySem.W.fnOf "_law_made" "_law_made" (defArgs s__law_made) (defBody s__law_made) (defScope s__law_made) .none kV14 dc14 pm14 an14 cd14 ct14), sl14⟩) (c14 : PySem.W.codeIn K cd14 "_law_made" = true) (k14 : PySem.W.keepIn K (.ref f14) = true)
    (a15 : PySem.W.nsIn K mainGlobals "_law_due" = some (some (.ref f15))) (l15 : K.lookup f15 = some ⟨oc15, od15, .func (PySem.W.fnOf "_law_due" "_law_due" (defArgs s__law_due) (defBody s__law_due) (defScope s__law_due) .none kV15 dc15 pm15 an15 cd15 ct15), sl15⟩) (c15 : PySem.W.codeIn K cd15 "_law_due" = true) (k15 : PySem.W.keepIn K (.ref f15) = true)
    (a16 : PySem.W.nsIn K mainGlobals "law" = some (some (.ref f16))) (l16 : K.lookup f16 = some ⟨oc16, od16, .func (PySem.W.fnOf "law" "law" (defArgs s_law) (defBody s_law) (defScope s_law) .none kV16 dc16 pm16 an16 cd16 ct16), sl16⟩) (c16 : PySem.W.codeIn K cd16 "law" = true) (k16 : PySem.W.keepIn K (.ref f16) = true)
    {xc0 xc1 : Addr}
    (xm0 : PySem.W.nsIn K mainGlobals "DriftError" = some (some (.ref xc0))) (xe0 : PySem.W.excIn K xc0 [.type "ValueError", .type "Exception", .type "BaseException", .type "object"] "ValueError.__new__" = true) (xk0 : PySem.W.keepIn K (.ref xc0) = true) (xb0 : PySem.W.subIn K (.ref xc0) (.type "BaseException") = some true) (xt0 : PySem.W.typeIn K (.ref xc0) = some (.type "type"))
    (xm1 : PySem.W.nsIn K mainGlobals "NoThing" = some (some (.ref xc1))) (xe1 : PySem.W.excIn K xc1 [.type "ValueError", .type "Exception", .type "BaseException", .type "object"] "ValueError.__new__" = true) (xk1 : PySem.W.keepIn K (.ref xc1) = true) (xb1 : PySem.W.subIn K (.ref xc1) (.type "BaseException") = some true) (xt1 : PySem.W.typeIn K (.ref xc1) = some (.type "type"))
    {t0 t1 t2 t3 : Tok}
    (g0 : PySem.W.nsIn K mainGlobals "FAR" = some (some (.int 1000000000000000000000000000000 t0)))
    (g1 : PySem.W.nsIn K mainGlobals "FAST" = some (some (.int 1000000000000000 t1)))
    (g2 : PySem.W.nsIn K mainGlobals "LAST_HANDLE" = some (some (.int 1000000000000000000 t2)))
    (g3 : PySem.W.nsIn K mainGlobals "ALL_MARKS" = some (some (.int 65535 t3)))
    (z0 : PySem.W.nsIn K mainGlobals "len" = some none) (z1 : PySem.W.nsIn K mainGlobals "min" = some none) (z2 : PySem.W.nsIn K mainGlobals "max" = some none) (z3 : PySem.W.nsIn K mainGlobals "sum" = some none) (z4 : PySem.W.nsIn K mainGlobals "abs" = some none) (z5 : PySem.W.nsIn K mainGlobals "tuple" = some none) (z6 : PySem.W.nsIn K mainGlobals "list" = some none) (z7 : PySem.W.nsIn K mainGlobals "int" = some none) (z8 : PySem.W.nsIn K mainGlobals "any" = some none) (z9 : PySem.W.nsIn K mainGlobals "all" = some none) (z10 : PySem.W.nsIn K mainGlobals "sorted" = some none) (z11 : PySem.W.nsIn K mainGlobals "range" = some none) (z12 : PySem.W.nsIn K mainGlobals "enumerate" = some none) (z13 : PySem.W.nsIn K mainGlobals "zip" = some none) (z14 : PySem.W.nsIn K mainGlobals "reversed" = some none) (z15 : PySem.W.nsIn K mainGlobals "isinstance" = some none) (z16 : PySem.W.nsIn K mainGlobals "bool" = some none) (z17 : PySem.W.nsIn K mainGlobals "str" = some none) :
    ∃ fd : FuncData, (∀ (s : Shared) (v : Value), BindsTo s fd ⟨[v], []⟩ [("script", v)]) ∧ ∀ base : Heap, K.In base → base.Ns mainGlobals mg → FnOk PySem.Challenge.rw_driftwood_k18_a_thing_made.prog w K mg base (L2.CX PySem.Challenge.rw_driftwood_k18_a_thing_made.prog w) 62 fa fd ["script"] (spLaw K 63) := by
  have e := hfa.symm.trans (PySem.W.mg_of X G a16)
  cases e
  have F1 := fun_mk (st := s_drifting) l1 c1 k1
  have b1 := F1.binds (ps := ["box", "speeds"]) fun _ _ _ _ _ _ us hl => match us, hl with | [_, _], _ => rfl
  have D1 : DOk K mg T P n_drifting ⟨"drifting", 2, [], false, []⟩ := ⟨⟨_, _, _, _, _, _, _, P_drifting, fund_of F1, PySem.W.mg_of X G a1, sc_drifting, rfl, rfl, rfl, ck_drifting, fun j _ => ⟨[], [], b1, .nil, fun g H => by rw [List.drop_nil]; exact .nil⟩, fun q hq => (List.not_mem_nil hq).elim⟩⟩
  have F2 := fun_mk (st := s_frame_at) l2 c2 k2
  have b2 := F2.binds (ps := ["frame", "beat"]) fun _ _ _ _ _ _ us hl => match us, hl with | [_, _], _ => rfl
  have D2 : DOk K mg T P n_frame_at ⟨"frame_at", 2, [], false, []⟩ := ⟨⟨_, _, _, _, _, _, _, P_frame_at, fund_of F2, PySem.W.mg_of X G a2, sc_frame_at, rfl, rfl, rfl, ck_frame_at, fun j _ => ⟨[], [], b2, .nil, fun g H => by rw [List.drop_nil]; exact .nil⟩, fun q hq => (List.not_mem_nil hq).elim⟩⟩
  have F3 := fun_mk (st := s_whole_within) l3 c3 k3
  have b3 := F3.binds (ps := ["value", "low", "high"]) fun _ _ _ _ _ _ us hl => match us, hl with | [_, _, _], _ => rfl
  have D3 : DOk K mg T P n_whole_within ⟨"whole_within", 3, [], false, []⟩ := ⟨⟨_, _, _, _, _, _, _, P_whole_within, fund_of F3, PySem.W.mg_of X G a3, sc_whole_within, rfl, rfl, rfl, ck_whole_within, fun j _ => ⟨[], [], b3, .nil, fun g H => by rw [List.drop_nil]; exact .nil⟩, fun q hq => (List.not_mem_nil hq).elim⟩⟩
  have F4 := fun_mk (st := s_fine_box) l4 c4 k4
  have b4 := F4.binds (ps := ["box"]) fun _ _ _ _ _ _ us hl => match us, hl with | [_], _ => rfl
  have D4 : DOk K mg T P n_fine_box ⟨"fine_box", 1, [], false, []⟩ := ⟨⟨_, _, _, _, _, _, _, P_fine_box, fund_of F4, PySem.W.mg_of X G a4, sc_fine_box, rfl, rfl, rfl, ck_fine_box, fun j _ => ⟨[], [], b4, .nil, fun g H => by rw [List.drop_nil]; exact .nil⟩, fun q hq => (List.not_mem_nil hq).elim⟩⟩
  have F5 := fun_mk (st := s_fine_speeds) l5 c5 k5
  have b5 := F5.binds (ps := ["speeds", "sides"]) fun _ _ _ _ _ _ us hl => match us, hl with | [_, _], _ => rfl
  have D5 : DOk K mg T P n_fine_speeds ⟨"fine_speeds", 2, [], false, []⟩ := ⟨⟨_, _, _, _, _, _, _, P_fine_speeds, fund_of F5, PySem.W.mg_of X G a5, sc_fine_speeds, rfl, rfl, rfl, ck_fine_speeds, fun j _ => ⟨[], [], b5, .nil, fun g H => by rw [List.drop_nil]; exact .nil⟩, fun q hq => (List.not_mem_nil hq).elim⟩⟩
  have F6 := fund_mk (st := s_make_thing) (dvs := [.non, .int 0, .int 0]) (its := [.none, .int 0 u6_1, .int 0 u6_2]) l6 c6 k6 e6 (List.cons_ne_nil _ _) (.cons rfl (.cons ⟨_, rfl⟩ (.cons ⟨_, rfl⟩ .nil)))
  obtain ⟨ds6_0, v6_0, b6_0⟩ := F6.binds1 (ps := ["handle", "box", "speeds", "marks", "worth"]) 2 0 (List.cons_ne_nil _ _) rfl fun _ _ _ _ _ _ _ us its hl hi => match us, hl, its, hi with | [_, _], _, [_, _, _], _ => ⟨_, rfl, rfl⟩
  have B6_0 : ∃ dvs dus, Binds K _ ["handle", "box", "speeds", "marks", "worth"] dus ∧ Vals dvs dus ∧ ∀ (g : Dw.G) H, Reps g H dvs (List.drop 0 [.non, (.int 0), (.int 0)]) := ⟨_, _, b6_0, v6_0, fun g H => (.cons (.non) (.cons (.int _) (.cons (.int _) .nil)))⟩
  obtain ⟨ds6_1, v6_1, b6_1⟩ := F6.binds1 (ps := ["handle", "box", "speeds", "marks", "worth"]) 3 1 (List.cons_ne_nil _ _) rfl fun _ _ _ _ _ _ _ us its hl hi => match us, hl, its, hi with | [_, _, _], _, [_, _, _], _ => ⟨_, rfl, rfl⟩
  have B6_1 : ∃ dvs dus, Binds K _ ["handle", "box", "speeds", "marks", "worth"] dus ∧ Vals dvs dus ∧ ∀ (g : Dw.G) H, Reps g H dvs (List.drop 1 [.non, (.int 0), (.int 0)]) := ⟨_, _, b6_1, v6_1, fun g H => (.cons (.int _) (.cons (.int _) .nil))⟩
  obtain ⟨ds6_2, v6_2, b6_2⟩ := F6.binds1 (ps := ["handle", "box", "speeds", "marks", "worth"]) 4 2 (List.cons_ne_nil _ _) rfl fun _ _ _ _ _ _ _ us its hl hi => match us, hl, its, hi with | [_, _, _, _], _, [_, _, _], _ => ⟨_, rfl, rfl⟩
  have B6_2 : ∃ dvs dus, Binds K _ ["handle", "box", "speeds", "marks", "worth"] dus ∧ Vals dvs dus ∧ ∀ (g : Dw.G) H, Reps g H dvs (List.drop 2 [.non, (.int 0), (.int 0)]) := ⟨_, _, b6_2, v6_2, fun g H => (.cons (.int _) .nil)⟩
  obtain ⟨ds6_3, v6_3, b6_3⟩ := F6.binds1 (ps := ["handle", "box", "speeds", "marks", "worth"]) 5 3 (List.cons_ne_nil _ _) rfl fun _ _ _ _ _ _ _ us its hl hi => match us, hl, its, hi with | [_, _, _, _, _], _, [_, _, _], _ => ⟨_, rfl, rfl⟩
  have B6_3 : ∃ dvs dus, Binds K _ ["handle", "box", "speeds", "marks", "worth"] dus ∧ Vals dvs dus ∧ ∀ (g : Dw.G) H, Reps g H dvs (List.drop 3 [.non, (.int 0), (.int 0)]) := ⟨_, _, b6_3, v6_3, fun g H => .nil⟩
  obtain ⟨gf6_0, kb6_0⟩ := kbinds2 (ps := ["handle", "box", "speeds", "marks", "worth"]) F6 3 ["worth"] [0, 1, 2, 5, 3] (List.cons_ne_nil _ _) fun _ _ _ _ _ _ _ us its ws hl hi hw => match us, hl, its, hi, ws, hw with | [_, _, _], _, [_, _, _], _, [_], _ => ⟨_, rfl, rfl⟩
  have W6_0 : KwOk K _ ["handle", "box", "speeds", "marks", "worth"] 5 [.non, (.int 0), (.int 0)] (3, ["worth"], [0, 1, 2, 5, 3]) := ⟨gf6_0, _, kb6_0, fun g H => (.cons (.non) (.cons (.int _) (.cons (.int _) .nil))), rfl⟩
  obtain ⟨gf6_1, kb6_1⟩ := kbinds2 (ps := ["handle", "box", "speeds", "marks", "worth"]) F6 2 ["marks", "speeds"] [0, 1, 3, 2, 6] (List.cons_ne_nil _ _) fun _ _ _ _ _ _ _ us its ws hl hi hw => match us, hl, its, hi, ws, hw with | [_, _], _, [_, _, _], _, [_, _], _ => ⟨_, rfl, rfl⟩
  have W6_1 : KwOk K _ ["handle", "box", "speeds", "marks", "worth"] 5 [.non, (.int 0), (.int 0)] (2, ["marks", "speeds"], [0, 1, 3, 2, 6]) := ⟨gf6_1, _, kb6_1, fun g H => (.cons (.non) (.cons (.int _) (.cons (.int _) .nil))), rfl⟩
  have D6 : DOk K mg T P n_make_thing ⟨"make_thing", 5, [.non, (.int 0), (.int 0)], false, [(3, ["worth"], [0, 1, 2, 5, 3]), (2, ["marks", "speeds"], [0, 1, 3, 2, 6])]⟩ := ⟨⟨_, _, _, _, _, _, _, P_make_thing, ⟨_, F6⟩, PySem.W.mg_of X G a6, sc_make_thing, rfl, rfl, rfl, ck_make_thing, (fun j hj => match j, hj with | 0, _ => B6_0 | 1, _ => B6_1 | 2, _ => B6_2 | 3, _ => B6_3 | (n + 4), h => absurd h (by simp only [List.length_cons, List.length_nil]; omega)), fun q hq => by
      simp only [List.mem_cons, List.not_mem_nil, or_false] at hq
      rcases hq with rfl | rfl
      · exact W6_0
      · exact W6_1⟩⟩
  have F7 := fun_mk (st := s_thing_box) l7 c7 k7
  have b7 := F7.binds (ps := ["thing", "beat"]) fun _ _ _ _ _ _ us hl => match us, hl with | [_, _], _ => rfl
  have D7 : DOk K mg T P n_thing_box ⟨"thing_box", 2, [], false, []⟩ := ⟨⟨_, _, _, _, _, _, _, P_thing_box, fund_of F7, PySem.W.mg_of X G a7, sc_thing_box, rfl, rfl, rfl, ck_thing_box, fun j _ => ⟨[], [], b7, .nil, fun g H => by rw [List.drop_nil]; exact .nil⟩, fun q hq => (List.not_mem_nil hq).elim⟩⟩
  have F8 := fun_mk (st := s_thing_told) l8 c8 k8
  have b8 := F8.binds (ps := ["thing"]) fun _ _ _ _ _ _ us hl => match us, hl with | [_], _ => rfl
  have D8 : DOk K mg T P n_thing_told ⟨"thing_told", 1, [], false, []⟩ := ⟨⟨_, _, _, _, _, _, _, P_thing_told, fund_of F8, PySem.W.mg_of X G a8, sc_thing_told, rfl, rfl, rfl, ck_thing_told, fun j _ => ⟨[], [], b8, .nil, fun g H => by rw [List.drop_nil]; exact .nil⟩, fun q hq => (List.not_mem_nil hq).elim⟩⟩
  have F9 := fun_mk (st := s__law_stir) l9 c9 k9
  have b9 := F9.binds (ps := ["cell"]) fun _ _ _ _ _ _ us hl => match us, hl with | [_], _ => rfl
  have D9 : DOk K mg T P n_law_stir ⟨"_law_stir", 1, [], true, []⟩ := ⟨⟨_, _, _, _, _, _, _, P_law_stir, fund_of F9, PySem.W.mg_of X G a9, sc__law_stir, rfl, rfl, rfl, ck__law_stir, fun j _ => ⟨[], [], b9, .nil, fun g H => by rw [List.drop_nil]; exact .nil⟩, fun q hq => (List.not_mem_nil hq).elim⟩⟩
  have F10 := fun_mk (st := s__law_next) l10 c10 k10
  have b10 := F10.binds (ps := ["left"]) fun _ _ _ _ _ _ us hl => match us, hl with | [_], _ => rfl
  have D10 : DOk K mg T P n_law_next ⟨"_law_next", 1, [], true, []⟩ := ⟨⟨_, _, _, _, _, _, _, P_law_next, fund_of F10, PySem.W.mg_of X G a10, sc__law_next, rfl, rfl, rfl, ck__law_next, fun j _ => ⟨[], [], b10, .nil, fun g H => by rw [List.drop_nil]; exact .nil⟩, fun q hq => (List.not_mem_nil hq).elim⟩⟩
  have F11 := fun_mk (st := s__law_same) l11 c11 k11
  have b11 := F11.binds (ps := ["found", "due"]) fun _ _ _ _ _ _ us hl => match us, hl with | [_, _], _ => rfl
  have D11 : DOk K mg T P n_law_same ⟨"_law_same", 2, [], false, []⟩ := ⟨⟨_, _, _, _, _, _, _, P_law_same, fund_of F11, PySem.W.mg_of X G a11, sc__law_same, rfl, rfl, rfl, ck__law_same, fun j _ => ⟨[], [], b11, .nil, fun g H => by rw [List.drop_nil]; exact .nil⟩, fun q hq => (List.not_mem_nil hq).elim⟩⟩
  have F12 := fun_mk (st := s__law_number_by) l12 c12 k12
  have b12 := F12.binds (ps := ["left", "cell", "bound"]) fun _ _ _ _ _ _ us hl => match us, hl with | [_, _, _], _ => rfl
  have D12 : DOk K mg T P n_law_number_by ⟨"_law_number_by", 3, [], true, []⟩ := ⟨⟨_, _, _, _, _, _, _, P_law_number_by, fund_of F12, PySem.W.mg_of X G a12, sc__law_number_by, rfl, rfl, rfl, ck__law_number_by, fun j _ => ⟨[], [], b12, .nil, fun g H => by rw [List.drop_nil]; exact .nil⟩, fun q hq => (List.not_mem_nil hq).elim⟩⟩
  have F13 := fun_mk (st := s__law_parts_by) l13 c13 k13
  have b13 := F13.binds (ps := ["cell"]) fun _ _ _ _ _ _ us hl => match us, hl with | [_], _ => rfl
  have D13 : DOk K mg T P n_law_parts_by ⟨"_law_parts_by", 1, [], false, []⟩ := ⟨⟨_, _, _, _, _, _, _, P_law_parts_by, fund_of F13, PySem.W.mg_of X G a13, sc__law_parts_by, rfl, rfl, rfl, ck__law_parts_by, fun j _ => ⟨[], [], b13, .nil, fun g H => by rw [List.drop_nil]; exact .nil⟩, fun q hq => (List.not_mem_nil hq).elim⟩⟩
  have F14 := fun_mk (st := s__law_made) l14 c14 k14
  have b14 := F14.binds (ps := ["parts", "way"]) fun _ _ _ _ _ _ us hl => match us, hl with | [_, _], _ => rfl
  have D14 : DOk K mg T P n_law_made ⟨"_law_made", 2, [], false, []⟩ := ⟨⟨_, _, _, _, _, _, _, P_law_made, fund_of F14, PySem.W.mg_of X G a14, sc__law_made, rfl, rfl, rfl, ck__law_made, fun j _ => ⟨[], [], b14, .nil, fun g H => by rw [List.drop_nil]; exact .nil⟩, fun q hq => (List.not_mem_nil hq).elim⟩⟩
  have F15 := fun_mk (st := s__law_due) l15 c15 k15
  have b15 := F15.binds (ps := ["parts", "way"]) fun _ _ _ _ _ _ us hl => match us, hl with | [_, _], _ => rfl
  have D15 : DOk K mg T P n_law_due ⟨"_law_due", 2, [], false, []⟩ := ⟨⟨_, _, _, _, _, _, _, P_law_due, fund_of F15, PySem.W.mg_of X G a15, sc__law_due, rfl, rfl, rfl, ck__law_due, fun j _ => ⟨[], [], b15, .nil, fun g H => by rw [List.drop_nil]; exact .nil⟩, fun q hq => (List.not_mem_nil hq).elim⟩⟩
  have F16 := fun_mk (st := s_law) l16 c16 k16
  have b16 := F16.binds (ps := ["script"]) fun _ _ _ _ _ _ us hl => match us, hl with | [_], _ => rfl
  have D16 : DOk K mg T P n_law_36 ⟨"law", 1, [], false, []⟩ := ⟨⟨_, _, _, _, _, _, _, P_law_36, fund_of F16, PySem.W.mg_of X G a16, sc_law, rfl, rfl, rfl, ck_law, fun j _ => ⟨[], [], b16, .nil, fun g H => by rw [List.drop_nil]; exact .nil⟩, fun q hq => (List.not_mem_nil hq).elim⟩⟩
  have hb : ∀ n ∈ biNames, mg n = none := by
    intro n hn
    simp only [biNames, List.mem_cons, List.not_mem_nil, or_false] at hn
    rcases hn with rfl | rfl | rfl | rfl | rfl | rfl | rfl | rfl | rfl | rfl | rfl | rfl | rfl | rfl | rfl | rfl | rfl | rfl
    · exact PySem.W.mg_none_of X G z0
    · exact PySem.W.mg_none_of X G z1
    · exact PySem.W.mg_none_of X G z2
    · exact PySem.W.mg_none_of X G z3
    · exact PySem.W.mg_none_of X G z4
    · exact PySem.W.mg_none_of X G z5
    · exact PySem.W.mg_none_of X G z6
    · exact PySem.W.mg_none_of X G z7
    · exact PySem.W.mg_none_of X G z8
    · exact PySem.W.mg_none_of X G z9
    · exact PySem.W.mg_none_of X G z10
    · exact PySem.W.mg_none_of X G z11
    · exact PySem.W.mg_none_of X G z12
    · exact PySem.W.mg_none_of X G z13
    · exact PySem.W.mg_none_of X G z14
    · exact PySem.W.mg_none_of X G z15
    · exact PySem.W.mg_none_of X G z16
    · exact PySem.W.mg_none_of X G z17
  have hc : ∀ p ∈ T.cons, ∃ u v, mg p.1 = some u ∧ RelV v u ∧ ∀ H, Rep (⟨K, fun _ => 0, fun _ => [], fun c => (([(0, xc0), (1, xc1)] : List (Nat × Addr)).lookup c).getD 0⟩ : Dw.G) H v p.2 := by
    intro p hp
    simp only [T, List.mem_cons, List.not_mem_nil, or_false] at hp
    rcases hp with rfl | rfl | rfl | rfl
    · exact ⟨_, .int 1000000000000000000000000000000, PySem.W.mg_of X G g0, ⟨_, rfl⟩, fun _ => .int _⟩
    · exact ⟨_, .int 1000000000000000, PySem.W.mg_of X G g1, ⟨_, rfl⟩, fun _ => .int _⟩
    · exact ⟨_, .int 1000000000000000000, PySem.W.mg_of X G g2, ⟨_, rfl⟩, fun _ => .int _⟩
    · exact ⟨_, .int 65535, PySem.W.mg_of X G g3, ⟨_, rfl⟩, fun _ => .int _⟩
  have hd : ∀ i fi, T.fn i = some fi → DOk K mg T P i fi := by
    intro i fi hi
    have hm := lookup_mem hi
    simp only [T, List.mem_cons, List.not_mem_nil, or_false, Prod.mk.injEq] at hm
    rcases hm with ⟨rfl, rfl⟩ | ⟨rfl, rfl⟩ | ⟨rfl, rfl⟩ | ⟨rfl, rfl⟩ | ⟨rfl, rfl⟩ | ⟨rfl, rfl⟩ | ⟨rfl, rfl⟩ | ⟨rfl, rfl⟩ | ⟨rfl, rfl⟩ | ⟨rfl, rfl⟩ | ⟨rfl, rfl⟩ | ⟨rfl, rfl⟩ | ⟨rfl, rfl⟩ | ⟨rfl, rfl⟩ | ⟨rfl, rfl⟩ | ⟨rfl, rfl⟩
    · exact D1
    · exact D2
    · exact D3
    · exact D4
    · exact D5
    · exact D6
    · exact D7
    · exact D8
    · exact D9
    · exact D10
    · exact D11
    · exact D12
    · exact D13
    · exact D14
    · exact D15
    · exact D16
  have he : ∀ c x, (c, x) ∈ T.exs → ExM K mg ((fun c => (([(0, xc0), (1, xc1)] : List (Nat × Addr)).lookup c).getD 0 : Nat → Addr) c) x := by
    intro c x hx
    simp only [T, List.mem_cons, List.not_mem_nil, or_false, Prod.mk.injEq] at hx
    rcases hx with ⟨rfl, rfl⟩ | ⟨rfl, rfl⟩
    · exact ⟨PySem.W.mg_of X G xm0, xe0, xk0, xb0, xt0⟩
    · exact ⟨PySem.W.mg_of X G xm1, xe1, xk1, xb1, xt1⟩
  have hcl : ∀ c nm fl, (c, nm, fl) ∈ T.cls → CM (⟨K, fun _ => 0, fun _ => [], fun c => (([(0, xc0), (1, xc1)] : List (Nat × Addr)).lookup c).getD 0⟩ : Dw.G) K mg c nm fl := by
    intro c nm fl hx
    exact absurd hx (List.not_mem_nil)
  have hmt : ∀ m c i np, (m, c, i, np) ∈ T.mts → MOk (⟨K, fun _ => 0, fun _ => [], fun c => (([(0, xc0), (1, xc1)] : List (Nat × Addr)).lookup c).getD 0⟩ : Dw.G) K mg T P m c i np := by
    intro m c i np hx
    exact absurd hx (List.not_mem_nil)
  exact ⟨_, fun s v => .of_eq rfl, fun base _ _ => law_ok (g := (⟨K, fun _ => 0, fun _ => [], fun c => (([(0, xc0), (1, xc1)] : List (Nat × Addr)).lookup c).getD 0⟩ : Dw.G)) hcl hmt he (fi := ⟨"law", 1, [], false, []⟩) rfl hb hc hd P_law_36 F16 sc_law rfl rfl rfl ck_law rfl rfl law⟩
end Dw
open PySem PySem.W PyProof.Rows
set_option maxHeartbeats 0 in
theorem PySem.Challenge.cw_driftwood_k18_a_thing_made_holds : PySem.Challenge.rw_driftwood_k18_a_thing_made.Holds := by
  w_on; o_law; k_head; (case hw => w_witness2)
  k_fill
  refine L2.walk_ofB (l := PySem.Challenge.rw_driftwood_k18_a_thing_made) (n := 63) (k := 62) (x := "script") (CX := fun w => L2.CX PySem.Challenge.rw_driftwood_k18_a_thing_made.prog w) (sp := fun w => Dw.spLaw _ 63) rfl (by decide) rfl ⟨rfl, by decide, by decide⟩ (fun w h Y => PySem.W.kIn_of Y) ?F (fun _ _ a ns hl hz _ hS => ⟨a, ns, rfl, hS, hl, (fun z hm => Dw.cell_bits (hz z hm)), fun _ => rfl⟩) (fun _ _ _ _ _ h => Dw.law_cx h)
  case F =>
    intro w mg fa h KX G hmg
    refine' Dw.all_mk (fun ns h hz => by first | exact Dw.law_true ns h | exact Dw.law_true ns h hz) KX G hmg ?a1 ?l1 ?c1 ?k1 ?a2 ?l2 ?c2 ?k2 ?a3 ?l3 ?c3 ?k3 ?a4 ?l4 ?c4 ?k4 ?a5 ?l5 ?c5 ?k5 ?e6 ?a6 ?l6 ?c6 ?k6 ?a7 ?l7 ?c7 ?k7 ?a8 ?l8 ?c8 ?k8 ?a9 ?l9 ?c9 ?k9 ?a10 ?l10 ?c10 ?k10 ?a11 ?l11 ?c11 ?k11 ?a12 ?l12 ?c12 ?k12 ?a13 ?l13 ?c13 ?k13 ?a14 ?l14 ?c14 ?k14 ?a15 ?l15 ?c15 ?k15 ?a16 ?l16 ?c16 ?k16 ?xm0 ?xe0 ?xk0 ?xb0 ?xt0 ?xm1 ?xe1 ?xk1 ?xb1 ?xt1 ?gk0 ?gk1 ?gk2 ?gk3 ?z0 ?z1 ?z2 ?z3 ?z4 ?z5 ?z6 ?z7 ?z8 ?z9 ?z10 ?z11 ?z12 ?z13 ?z14 ?z15 ?z16 ?z17
    (case a1 => k_is); (case l1 => k_is); (case c1 => k_is); (case k1 => k_is); (case a2 => k_is); (case l2 => k_is); (case c2 => k_is); (case k2 => k_is); (case a3 => k_is); (case l3 => k_is); (case c3 => k_is); (case k3 => k_is); (case a4 => k_is); (case l4 => k_is); (case c4 => k_is); (case k4 => k_is); (case a5 => k_is); (case l5 => k_is); (case c5 => k_is); (case k5 => k_is); (case a6 => k_is); (case l6 => k_is); (case c6 => k_is); (case k6 => k_is); (case a7 => k_is); (case l7 => k_is); (case c7 => k_is); (case k7 => k_is); (case a8 => k_is); (case l8 => k_is); (case c8 => k_is); (case k8 => k_is); (case a9 => k_is); (case l9 => k_is); (case c9 => k_is); (case k9 => k_is); (case a10 => k_is); (case l10 => k_is); (case c10 => k_is); (case k10 => k_is); (case a11 => k_is); (case l11 => k_is); (case c11 => k_is); (case k11 => k_is); (case a12 => k_is); (case l12 => k_is); (case c12 => k_is); (case k12 => k_is); (case a13 => k_is); (case l13 => k_is); (case c13 => k_is); (case k13 => k_is); (case a14 => k_is); (case l14 => k_is); (case c14 => k_is); (case k14 => k_is); (case a15 => k_is); (case l15 => k_is); (case c15 => k_is); (case k15 => k_is); (case a16 => k_is); (case l16 => k_is); (case c16 => k_is); (case k16 => k_is); (case xm0 => k_is); (case xe0 => k_exc); (case xk0 => k_is); (case xb0 => k_is); (case xt0 => k_is); (case xm1 => k_is); (case xe1 => k_exc); (case xk1 => k_is); (case xb1 => k_is); (case xt1 => k_is); (case gk0 => k_is); (case gk1 => k_is); (case gk2 => k_is); (case gk3 => k_is); (case z0 => k_is); (case z1 => k_is); (case z2 => k_is); (case z3 => k_is); (case z4 => k_is); (case z5 => k_is); (case z6 => k_is); (case z7 => k_is); (case z8 => k_is); (case z9 => k_is); (case z10 => k_is); (case z11 => k_is); (case z12 => k_is); (case z13 => k_is); (case z14 => k_is); (case z15 => k_is); (case z16 => k_is); (case z17 => k_is); (case e6 => k_is)
