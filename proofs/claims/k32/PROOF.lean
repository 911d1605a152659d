import PyProof.Rows.All
import Wide.All
import OpenK.AllK
import Wide.FinOn
import HandS.ForMost
import HandS.Walk
import HandS.Zip
import HandS.WideBits
import HandS.Wide
import HandS.TupAny
import HandS.Rev
import HandS.RevRange
import HandS.Style
import HandS.SortInts
import HandS.IsInst
import HandS.Exc
import HandS.WordsExc
import PyProof.LongRange
import HandS.SortOrd
import HandS.SortRule
import PyProof.MaxThree
import PySem.Challenge.RW_driftwood_k32_a_row_parted
set_option Elab.async false
set_option linter.all false
set_option maxRecDepth 100000
/-! An interpreter of the Python subset over plain data. -/
namespace Dw
open PySem

inductive D where
  | non
  | bl (b : Bool)
  | int (i : Int)
  | str (s : Str)
  | tup (xs : List D)
  | lst (xs : List D)
  | ins (c : Nat) (fs : List D)

/-- what an evaluation ends in: no word, a value, an exception of a class -/
inductive M (α : Type) where
  | no
  | ok (a : α)
  | ex (c : Nat)
def M.bind {α β : Type} : M α → (α → M β) → M β
  | .no, _ => .no
  | .ok a, f => f a
  | .ex c, _ => .ex c

/-- a slot: without a value, a value that may be shared, a list of one's own -/
inductive Sl where
  | no
  | sh (d : D)
  | ow (ds : List D)

inductive Bop where
  | add | sub | mul | rep | div | mod | pow | shl | shr | band | bor | bxor
inductive Cop where
  | eq | ne | lt | le | gt | ge | isn | nisn | isb | nisb | inn | nin
/-- what is walked -/
inductive Ik where
  | seq | rng1 | rng2 | rng3 | enm | zip | rev | rvr1 | rvr2
/-- built-ins by name -/
inductive Bi where
  | len | min2 | max2 | min3 | max3 | min1 | max1 | sum | abs | tup | lst | int | any | all | sor
inductive Ty where
  | int | bl | str | tup

inductive Ex where
  | var (i : Nat)
  | bor (i : Nat)
  | con (d : D)
  | glb (d : D)
  | bin (op : Bop) (a b : Ex)
  | neg (a : Ex)
  | nt (a : Ex)
  | cmp (op : Cop) (a b : Ex)
  | chain (o p : Cop) (a b c : Ex)
  | and (a b : Ex)
  | or (a b : Ex)
  | ite (c a b : Ex)
  | tup (es : List Ex)
  | lst (es : List Ex)
  | idx (a b : Ex)
  | slc (a : Ex) (lo hi : Option Ex)
  | call (f : Nat) (es : List Ex) (dfl : List D)
  | bi (b : Bi) (es : List Ex)
  | isi (a : Ex) (t : Ty)
  | comp (elt : Ex) (tg : List Nat) (k : Ik) (es : List Ex) (cond : Option Ex)
  | rvs (l : Bool) (a : Ex)

def bopOk : Bop → Operator → Bool
  | .add, .Add => true | .sub, .Sub => true | .mul, .Mult => true | .div, .FloorDiv => true | .mod, .Mod => true | .pow, .Pow => true | .shl, .LShift => true | .shr, .RShift => true
  | .band, .BitAnd => true | .bor, .BitOr => true | .bxor, .BitXor => true | _, _ => false
def copOk : Cop → CmpOp → Bool
  | .eq, .Eq => true | .ne, .NotEq => true | .lt, .Lt => true | .le, .LtE => true | .gt, .Gt => true | .ge, .GtE => true | .isn, .Is => true | .nisn, .IsNot => true
  | .isb, .Is => true | .nisb, .IsNot => true | .inn, .In => true | .nin, .NotIn => true | _, _ => false
/-! ### operations -/
def mulB : Nat := 2 ^ 2000
def mulOk (i j : Int) : Bool := (decide (i.natAbs < mulB) && decide (j.natAbs < mulB)) || decide (i.natAbs < 2 ^ 64) || decide (j.natAbs < 2 ^ 64)
def divOk (j : Int) : Bool := !decide (j = 0) && decide (j.natAbs < mulB)
def powOk (i j : Int) : Bool := decide (0 ≤ j) && ((decide (j ≤ 1000000) && decide (i.natAbs < 2 ^ 64)) || (decide (j ≤ 60000) && decide (i.natAbs < mulB)))
def shlOk (i j : Int) : Bool := decide (0 ≤ j) && decide (j ≤ 1000000) && decide (i.natAbs < mulB)
def fits (n : Nat) : Bool := decide (n ≤ sizeLine)
def gd {α : Type} (b : Bool) (a : α) : M α := match b with
  | true => .ok a
  | false => .no

def binD : Bop → D → D → M D
  | .add, .int i, .int j => .ok (.int (i + j))
  | .add, .tup xs, .tup ys => gd (fits (xs.length + ys.length)) (.tup (xs ++ ys))
  | .add, .lst xs, .lst ys => gd (fits (xs.length + ys.length)) (.lst (xs ++ ys))
  | .add, .str x, .str y => gd (fits (x.length + y.length)) (.str (x ++ y))
  | .sub, .int i, .int j => .ok (.int (i - j))
  | .mul, .int i, .int j => gd (mulOk i j) (.int (i * j))
  | .rep, .lst xs, .int j => gd (decide (j < 2 ^ 40) && decide (-(2 ^ 40) < j) && fits (xs.length * j.toNat)) (.lst (List.replicate j.toNat xs).flatten)
  | .div, .int i, .int j => gd (divOk j) (.int (i.fdiv j))
  | .mod, .int i, .int j => gd (!decide (j = 0)) (.int (i.fmod j))
  | .pow, .int i, .int j => gd (powOk i j) (.int (i ^ j.toNat))
  | .shl, .int i, .int j => gd (shlOk i j) (.int (i * 2 ^ j.toNat))
  | .shr, .int i, .int j => gd (decide (0 ≤ j)) (.int (i / 2 ^ j.toNat))
  | .band, .int i, .int j => .ok (.int (Builtin.bitAnd i j))
  | .bor, .int i, .int j => .ok (.int (Builtin.bitOr i j))
  | .bxor, .int i, .int j => .ok (.int (Builtin.bitXor i j))
  | _, _, _ => .no

mutual
def eqD : D → D → Bool
  | .non, .non => true
  | .bl a, .bl b => a == b
  | .bl a, .int j => (if a then 1 else 0) == j
  | .int i, .bl b => i == (if b then 1 else 0)
  | .int i, .int j => i == j
  | .str x, .str y => x == y
  | .lst xs, .lst ys => eqDs xs ys
  | .tup xs, .tup ys => eqDs xs ys
  | _, _ => false
def eqDs : List D → List D → Bool
  | [], [] => true
  | x :: xs, y :: ys => eqD x y && eqDs xs ys
  | _, _ => false
end
mutual
def toPy : D → PyData
  | .non => .none
  | .bl b => .bool b
  | .int i => .int i
  | .str x => .str x
  | .tup xs => .tuple (toPys xs)
  | .lst xs => .list (toPys xs)
  | .ins _ _ => .none
def toPys : List D → List PyData
  | [] => []
  | x :: xs => toPy x :: toPys xs
end
/-- data that may be compared by ==, to a depth -/
def plainD : Nat → D → Bool
  | _, .non => true
  | _, .bl _ => true
  | _, .int _ => true
  | _, .str x => PyData.strOk x
  | 0, _ => false
  | n + 1, .tup xs => xs.all (plainD n)
  | n + 1, .lst xs => xs.all (plainD n)
  | _, .ins _ _ => false
def flatD : D → Bool
  | .non => true
  | .bl _ => true
  | .int _ => true
  | .str _ => true
  | _ => false
def intsOf : List D → Option (List Int)
  | [] => some []
  | .int i :: r => match intsOf r with
    | some l => some (i :: l)
    | none => none
  | _ :: _ => none
def blsOf : List D → Option (List Bool)
  | [] => some []
  | .bl i :: r => match blsOf r with
    | some l => some (i :: l)
    | none => none
  | _ :: _ => none
def seqOf : D → Option (List D)
  | .tup xs => some xs
  | .lst xs => some xs
  | _ => none
def inD (x : D) (xs : List D) : Bool := xs.any fun y => eqD y x
def isNon : D → Bool
  | .non => true
  | _ => false
def cmpD : Cop → D → D → M D
  | .eq, a, b => gd (plainD 60 a && plainD 60 b) (.bl (eqD a b))
  | .ne, a, b => gd (plainD 60 a && plainD 60 b) (.bl (!eqD a b))
  | .lt, .int i, .int j => .ok (.bl (decide (i < j)))
  | .lt, .tup xs, .tup ys => match intsOf xs, intsOf ys with
    | some ns, some ms => .ok (.bl (HT.lexLt ns ms))
    | _, _ => .no
  | .le, .int i, .int j => .ok (.bl (decide (i ≤ j)))
  | .gt, .int i, .int j => .ok (.bl (decide (j < i)))
  | .ge, .int i, .int j => .ok (.bl (decide (j ≤ i)))
  | .isn, a, .non => .ok (.bl (isNon a))
  | .nisn, a, .non => .ok (.bl (!isNon a))
  | .isb, .bl a, .bl b => .ok (.bl (decide (a = b)))
  | .nisb, .bl a, .bl b => .ok (.bl (!decide (a = b)))
  | .inn, x, y => match seqOf y with
    | some ys => gd (flatD x && ys.all flatD) (.bl (inD x ys))
    | none => .no
  | .nin, x, y => match seqOf y with
    | some ys => gd (flatD x && ys.all flatD) (.bl (!inD x ys))
    | none => .no
  | _, _, _ => .no
def idxD : D → D → M D
  | .tup xs, .int i => match L2.atI xs i with
    | some d => .ok d
    | none => .no
  | .lst xs, .int i => match L2.atI xs i with
    | some d => .ok d
    | none => .no
  | _, _ => .no
def cutD (xs : List D) (lo hi : Option Int) : List D := (xs.drop (HT.sIx xs.length 0 lo)).take (HT.sIx xs.length xs.length hi - HT.sIx xs.length 0 lo)
def slcD : D → Option Int → Option Int → M D
  | .tup xs, lo, hi => .ok (.tup (cutD xs lo hi))
  | .lst xs, lo, hi => .ok (.lst (cutD xs lo hi))
  | _, _, _ => .no
def maxOf : List Int → Option Int
  | [] => none
  | i :: r => match maxOf r with
    | some m => some (if i < m then m else i)
    | none => some i
def minOf : List Int → Option Int
  | [] => none
  | i :: r => match minOf r with
    | some m => some (if m < i then m else i)
    | none => some i
def insI (x : Int) : List Int → List Int
  | [] => [x]
  | y :: r => if x ≤ y then x :: y :: r else y :: insI x r
def sortI : List Int → List Int
  | [] => []
  | x :: r => insI x (sortI r)
def insT (x : List Int) : List (List Int) → List (List Int)
  | [] => [x]
  | y :: r => if HT.lexLt y x = true then y :: insT x r else x :: y :: r
def sortT : List (List Int) → List (List Int)
  | [] => []
  | x :: r => insT x (sortT r)
/-- rows of whole numbers, none of them empty -/
def rowsOf : List D → Option (List (List Int))
  | [] => some []
  | .tup (x :: xs) :: r => match intsOf (x :: xs), rowsOf r with
    | some ns, some l => some (ns :: l)
    | _, _ => none
  | _ :: _ => none
def rowD (ns : List Int) : D := .tup (ns.map D.int)
/-- xs[::-1], list(reversed(xs)) -/
def rvsD (l : Bool) : D → M D
  | .lst xs => .ok (.lst xs.reverse)
  | .tup xs => match l with
    | true => .no
    | false => .ok (.tup xs.reverse)
  | _ => .no
def tyD : Ty → D → Bool
  | .int, .int _ => true
  | .int, .bl _ => true
  | .bl, .bl _ => true
  | .str, .str _ => true
  | .tup, .tup _ => true
  | _, _ => false
def noIns : D → Bool
  | .ins _ _ => false
  | _ => true
def biD : Bi → List D → M D
  | .len, [.tup xs] => .ok (.int (xs.length : Nat))
  | .len, [.lst xs] => .ok (.int (xs.length : Nat))
  | .min2, [.int i, .int j] => .ok (.int (if j < i then j else i))
  | .max2, [.int i, .int j] => .ok (.int (if j > i then j else i))
  | .min3, [.int a, .int b, .int c] => .ok (.int (if b < a then (if c < b then c else b) else (if c < a then c else a)))
  | .max3, [.int a, .int b, .int c] => .ok (.int (if b > a then (if c > b then c else b) else (if c > a then c else a)))
  | .sum, [.lst xs] => match intsOf xs with
    | some ns => .ok (.int ns.sum)
    | none => .no
  | .min1, [.lst xs] => match intsOf xs with
    | some ns => match minOf ns with
      | some m => .ok (.int m)
      | none => .no
    | none => .no
  | .max1, [.lst xs] => match intsOf xs with
    | some ns => match maxOf ns with
      | some m => .ok (.int m)
      | none => .no
    | none => .no
  | .abs, [.int i] => .ok (.int (if i < 0 then -i else i))
  | .tup, [.tup xs] => .ok (.tup xs)
  | .tup, [.lst xs] => .ok (.tup xs)
  | .lst, [.tup xs] => .ok (.lst xs)
  | .lst, [.lst xs] => .ok (.lst xs)
  | .int, [.int i] => .ok (.int i)
  | .int, [.bl b] => .ok (.int (if b then 1 else 0))
  | .any, [.lst xs] => match blsOf xs with
    | some bs => .ok (.bl (bs.any id))
    | none => .no
  | .all, [.lst xs] => match blsOf xs with
    | some bs => .ok (.bl (bs.all id))
    | none => .no
  | .sor, [.lst xs] => match intsOf xs with
    | some ns => .ok (.lst ((sortI ns).map D.int))
    | none => match rowsOf xs with
      | some nss => .ok (.lst ((sortT nss).map rowD))
      | none => .no
  | .sor, [.tup xs] => match intsOf xs with
    | some ns => .ok (.lst ((sortI ns).map D.int))
    | none => .no
  | _, _ => .no
def rgOk (a b : Int) : Bool := decide (-(2 ^ 62) ≤ a) && decide (a < 2 ^ 62) && decide (-(2 ^ 62) ≤ b) && decide (b < 2 ^ 62)
def rgD (a : Int) : Nat → List D
  | 0 => []
  | n + 1 => .int a :: rgD (a + 1) n
/-- i, i + c, .. (n of them) -/
def rgS (i c : Int) : Nat → List D
  | 0 => []
  | n + 1 => .int i :: rgS (i + c) c n
def rgN (i j c : Int) : Nat := if i < j then ((j - i - 1) / c).toNat + 1 else 0
/-- the items that are walked -/
def itD : Ik → List D → M (List D)
  | .seq, [.tup xs] => .ok xs
  | .seq, [.lst xs] => .ok xs
  | .rng1, [.int j] => gd (rgOk 0 j) (rgD 0 j.toNat)
  | .rng2, [.int i, .int j] => .ok (rgD i (j - i).toNat)
  | .rng3, [.int i, .int j, .int c] => gd (rgOk i j && decide (0 < c) && decide (c < 1073741824)) (rgS i c (rgN i j c))
  | .zip, [.tup xs, .tup ys] => .ok ((xs.zip ys).map fun p => .tup [p.1, p.2])
  | .zip, [.lst xs, .lst ys] => .ok ((xs.zip ys).map fun p => .tup [p.1, p.2])
  | .enm, [.lst xs] => .ok ((xs.zip (rgD 0 xs.length)).map fun p => .tup [p.2, p.1])
  | .rev, [.lst xs] => .ok xs.reverse
  | .rev, [.tup xs] => .ok xs.reverse
  | .rvr1, [.int j] => gd (rgOk 0 j) (rgD 0 j.toNat).reverse
  | .rvr2, [.int i, .int j] => gd (rgOk i j) (rgD i (j - i).toNat).reverse
  | _, _ => .no

/-! ### expressions -/
def getV (ρ : List Sl) (i : Nat) : M D := match ρ[i]? with
  | some (.sh d) => .ok d
  | _ => .no
def getB (ρ : List Sl) (i : Nat) : M D := match ρ[i]? with
  | some (.ow ds) => .ok (.lst ds)
  | _ => .no
def setV (ρ : List Sl) (i : Nat) (d : D) : List Sl := ρ.set i (.sh d)
/-- a target: one name, or names for the items of a tuple -/
def setVs : List Sl → List Nat → List D → M (List Sl)
  | ρ, [], [] => .ok ρ
  | ρ, i :: is, d :: ds => setVs (setV ρ i d) is ds
  | _, _, _ => .no
def tgD (ρ : List Sl) : List Nat → D → M (List Sl)
  | [i], d => .ok (setV ρ i d)
  | i :: j :: is, .tup ds => setVs ρ (i :: j :: is) ds
  | _, _ => .no
/-- a block's own names forgotten -/
def wipeD : List Sl → List Nat → List Sl
  | ρ, [] => ρ
  | ρ, v :: vs => (wipeD ρ vs).set v .no
def compD (f : D → M (Option D)) : List D → M (List D)
  | [] => .ok []
  | x :: xs => match f x with
    | .ok (some y) => (compD f xs).bind fun ys => .ok (y :: ys)
    | .ok none => compD f xs
    | _ => .no
def oInt : Option D → M (Option Int)
  | none => .ok none
  | some (.int i) => .ok (some i)
  | _ => .no
mutual
def noLst : D → Bool
  | .tup xs => noLsts xs
  | .lst _ => false
  | .ins _ _ => false
  | _ => true
def noLsts : List D → Bool
  | [] => true
  | x :: xs => noLst x && noLsts xs
end
abbrev Fs := Nat → List D → M D
/-- does an argument list lend a list of one's own? -/
def lends : List Ex → Bool
  | [] => false
  | .bor _ :: _ => true
  | _ :: r => lends r
def lent (b : Bool) : M D → M D
  | .ok d => gd (!b || noLst d) d
  | r => r
mutual
def evE (F : Fs) : Ex → List Sl → M D
  | .var i, ρ => getV ρ i
  | .bor i, ρ => getB ρ i
  | .con d, _ => .ok d
  | .glb d, _ => .ok d
  | .bin op a b, ρ => (evE F a ρ).bind fun x => (evE F b ρ).bind fun y => binD op x y
  | .neg a, ρ => (evE F a ρ).bind fun x => match x with
    | .int i => .ok (.int (-i))
    | _ => .no
  | .nt a, ρ => (evE F a ρ).bind fun x => match x with
    | .bl b => .ok (.bl (!b))
    | _ => .no
  | .cmp op a b, ρ => (evE F a ρ).bind fun x => (evE F b ρ).bind fun y => cmpD op x y
  | .chain o p a b c, ρ => (evE F a ρ).bind fun x => (evE F b ρ).bind fun y => (cmpD o x y).bind fun r => match r with
    | .bl true => (evE F c ρ).bind fun z => cmpD p y z
    | .bl false => .ok (.bl false)
    | _ => .no
  | .and a b, ρ => (evE F a ρ).bind fun x => match x with
    | .bl true => evE F b ρ
    | .bl false => .ok (.bl false)
    | _ => .no
  | .or a b, ρ => (evE F a ρ).bind fun x => match x with
    | .bl false => evE F b ρ
    | .bl true => .ok (.bl true)
    | _ => .no
  | .ite c a b, ρ => (evE F c ρ).bind fun x => match x with
    | .bl true => evE F a ρ
    | .bl false => evE F b ρ
    | _ => .no
  | .tup es, ρ => (evL F es ρ).bind fun ds => .ok (.tup ds)
  | .lst es, ρ => (evL F es ρ).bind fun ds => .ok (.lst ds)
  | .idx a b, ρ => (evE F a ρ).bind fun x => (evE F b ρ).bind fun y => idxD x y
  | .slc a lo hi, ρ => (evE F a ρ).bind fun x => (evO F lo ρ).bind fun l => (evO F hi ρ).bind fun h => slcD x l h
  | .rvs l a, ρ => (evE F a ρ).bind fun x => rvsD l x
  | .call f es dfl, ρ => (evL F es ρ).bind fun ds => lent (lends es) (F f (ds ++ dfl))
  | .bi b es, ρ => (evL F es ρ).bind fun ds => biD b ds
  | .isi a t, ρ => (evE F a ρ).bind fun x => gd (noIns x) (.bl (tyD t x))
  | .comp elt tg k es cond, ρ => ((evL F es ρ).bind fun ds => itD k ds).bind fun its => (gd (fits its.length) its).bind fun its =>
      (compD (fun d => (tgD (wipeD ρ tg) tg d).bind fun ρ' => match cond with
        | none => (evE F elt ρ').bind fun y => .ok (some y)
        | some c => (evE F c ρ').bind fun b => match b with
          | .bl true => (evE F elt ρ').bind fun y => .ok (some y)
          | .bl false => .ok none
          | _ => .no) its).bind fun r => .ok (.lst r)
def evL (F : Fs) : List Ex → List Sl → M (List D)
  | [], _ => .ok []
  | e :: es, ρ => (evE F e ρ).bind fun d => (evL F es ρ).bind fun ds => .ok (d :: ds)
def evO (F : Fs) : Option Ex → List Sl → M (Option Int)
  | none, _ => .ok none
  | some e, ρ => (evE F e ρ).bind fun d => match d with
    | .int i => .ok (some i)
    | _ => .no
end
end Dw

/-! Data in the abstract heap: views, what represents what. -/
namespace Dw
open PySem PySem.Spec PyProof.Rows L2

/-- what the text has written, by numbers: a class's address and its attributes, an exception's class -/
structure G where
  K : PySem.W.Frag
  ca : Nat → Addr
  fn : Nat → List Str
  xa : Nat → Addr

mutual
inductive Rep (g : G) (H : Hp) : V → D → Prop
  | non : Rep g H .non .non
  | bl (b : Bool) : Rep g H (.bl b) (.bl b)
  | int (i : Int) : Rep g H (.int i) (.int i)
  | str (x : Str) : Rep g H (.str x) (.str x)
  | tup {a : Addr} {vs : List V} {ds : List D} : SqT g.K H a vs → Reps g H vs ds → Rep g H (.ref a) (.tup ds)
  | lst {a : Addr} {vs : List V} {ds : List D} : SqL g.K H a vs → Reps g H vs ds → Rep g H (.ref a) (.lst ds)
  | ins {a dx : Addr} {c : Nat} {vs : List V} {ds : List D} : H a = some (.ins (g.ca c) dx ((g.fn c).zip vs)) → vs.length = (g.fn c).length → Reps g H vs ds → Rep g H (.ref a) (.ins c ds)
inductive Reps (g : G) (H : Hp) : List V → List D → Prop
  | nil : Reps g H [] []
  | cons {v : V} {vs : List V} {d : D} {ds : List D} : Rep g H v d → Reps g H vs ds → Reps g H (v :: vs) (d :: ds)
end

theorem Same.sqT {K : PySem.W.Frag} {H H' : Hp} {a : Addr} {xs : List V} (e : Same H H') (h : SqT K H a xs) : SqT K H' a xs := by
  rcases h with (h | ⟨o, h⟩) | h
  · exact .inl (.inl (e _ _ h))
  · exact .inl (.inr ⟨o, e _ _ h⟩)
  · exact .inr h

section
variable {g : G} {H H' Hs Hs' : Hp}
mutual
theorem Rep.mono (e : Same H H') : ∀ {v : V} {d : D}, Rep g H v d → Rep g H' v d
  | _, _, .non => .non
  | _, _, .bl b => .bl b
  | _, _, .int i => .int i
  | _, _, .str x => .str x
  | _, _, .tup s r => .tup (Same.sqT e s) (Reps.mono e r)
  | _, _, .lst s r => .lst (Same.seq e s) (Reps.mono e r)
  | _, _, .ins s l r => .ins (e _ _ s) l (Reps.mono e r)
theorem Reps.mono (e : Same H H') : ∀ {vs : List V} {ds : List D}, Reps g H vs ds → Reps g H' vs ds
  | _, _, .nil => .nil
  | _, _, .cons r t => .cons (Rep.mono e r) (Reps.mono e t)
end
theorem Reps.length : ∀ {vs : List V} {ds : List D}, Reps g H vs ds → vs.length = ds.length
  | _, _, .nil => rfl
  | _, _, .cons _ t => by rw [List.length_cons, List.length_cons, Reps.length t]
theorem Reps.append : ∀ {vs ws : List V} {ds es : List D}, Reps g H vs ds → Reps g H ws es → Reps g H (vs ++ ws) (ds ++ es)
  | _, _, _, _, .nil, s => s
  | _, _, _, _, .cons r t, s => .cons r (Reps.append t s)
theorem Reps.get : ∀ {vs : List V} {ds : List D} {i : Nat} {d : D}, Reps g H vs ds → ds[i]? = some d → ∃ v, vs[i]? = some v ∧ Rep g H v d
  | _, _, _, _, .nil, h => by simp at h
  | _, _, 0, _, .cons r _, h => by simp at h; subst h; exact ⟨_, by simp, r⟩
  | _, _, i + 1, _, .cons _ t, h => by
    obtain ⟨v, h1, h2⟩ := Reps.get (i := i) t (by simpa using h)
    exact ⟨v, by simpa using h1, h2⟩
theorem Reps.drop : ∀ {vs : List V} {ds : List D} (n : Nat), Reps g H vs ds → Reps g H (vs.drop n) (ds.drop n)
  | _, _, 0, r => r
  | _, _, _ + 1, .nil => .nil
  | _, _, n + 1, .cons _ t => Reps.drop n t
theorem Reps.take : ∀ {vs : List V} {ds : List D} (n : Nat), Reps g H vs ds → Reps g H (vs.take n) (ds.take n)
  | _, _, 0, _ => .nil
  | _, _, _ + 1, .nil => .nil
  | _, _, n + 1, .cons r t => .cons r (Reps.take n t)
theorem Reps.set : ∀ {vs : List V} {ds : List D} (i : Nat) {v : V} {d : D}, Reps g H vs ds → Rep g H v d → Reps g H (vs.set i v) (ds.set i d)
  | _, _, _, _, _, .nil, _ => .nil
  | _, _, 0, _, _, .cons _ t, q => .cons q t
  | _, _, i + 1, _, _, .cons r t, q => .cons r (Reps.set i t q)
theorem Reps.dropLast : ∀ {vs : List V} {ds : List D}, Reps g H vs ds → Reps g H vs.dropLast ds.dropLast
  | _, _, .nil => .nil
  | _, _, .cons _ .nil => .nil
  | _, _, .cons r (.cons q t) => .cons r (Reps.dropLast (.cons q t))
theorem Reps.eraseIdx : ∀ {vs : List V} {ds : List D} (i : Nat), Reps g H vs ds → Reps g H (vs.eraseIdx i) (ds.eraseIdx i)
  | _, _, _, .nil => .nil
  | _, _, 0, .cons _ t => t
  | _, _, i + 1, .cons r t => .cons r (Reps.eraseIdx i t)
theorem Reps.reverse {vs : List V} {ds : List D} (r : Reps g H vs ds) : Reps g H vs.reverse ds.reverse := by
  induction vs generalizing ds with
  | nil => cases r; exact .nil
  | cons v vs ih =>
    cases r with
    | cons q t => rw [List.reverse_cons, List.reverse_cons]; exact (ih t).append (.cons q .nil)
theorem Reps.rep {vs : List V} {ds : List D} (r : Reps g H vs ds) : ∀ n : Nat, Reps g H (List.replicate n vs).flatten (List.replicate n ds).flatten
  | 0 => .nil
  | n + 1 => by
    rw [List.replicate_succ, List.replicate_succ, List.flatten_cons, List.flatten_cons]
    exact r.append (Reps.rep r n)

/-- the view Hs of H grows with H; what was in H and not in view stays out of it -/
structure Ext (Hs H Hs' H' : Hp) : Prop where
  all : Same H H'
  view : Same Hs Hs'
  sub : Same Hs' H'
  out : ∀ a o, H a = some o → Hs a = none → Hs' a = none
theorem Ext.refl (e : Same Hs H) : Ext Hs H Hs H := ⟨Same.refl _, Same.refl _, e, fun _ _ _ n => n⟩
theorem Ext.trans {H1 H2 Hs1 Hs2 : Hp} (a : Ext Hs H Hs1 H1) (b : Ext Hs1 H1 Hs2 H2) : Ext Hs H Hs2 H2 :=
  ⟨a.all.trans b.all, a.view.trans b.view, b.sub, fun c o h n => b.out c o (a.all c o h) (a.out c o h n)⟩
theorem same_upd {p : Addr} {o : HO} (n : H p = none) : Same H (upd H p o) := fun b x e => by
  rw [upd_ne (ne_of_none e n)]
  exact e
/-- a new object, in view -/
theorem Ext.new (e : Same Hs H) {p : Addr} {o : HO} (n : H p = none) : Ext Hs H (upd Hs p o) (upd H p o) := by
  have ns : Hs p = none := e.free n
  refine ⟨same_upd n, same_upd ns, fun a x h => ?_, fun a x h hn => ?_⟩
  · by_cases ha : a = p
    · subst ha; rw [upd_same] at h ⊢; exact h
    · rw [upd_ne ha] at h ⊢; exact e a x h
  · rw [upd_ne (ne_of_none h n)]; exact hn
/-- a new object, not in view -/
theorem Ext.newOut (e : Same Hs H) {p : Addr} {o : HO} (n : H p = none) : Ext Hs H Hs (upd H p o) :=
  ⟨same_upd n, Same.refl _, e.trans (same_upd n), fun _ _ _ hn => hn⟩
/-- an object that is not in view comes in view -/
theorem Ext.show_ (e : Ext Hs H Hs' H') {p : Addr} {o : HO} (h : H' p = some o) (n : H p = none) (ns : Hs' p = none) : Ext Hs H (upd Hs' p o) H' := by
  refine ⟨e.all, fun a x q => ?_, fun a x q => ?_, fun a x q hn => ?_⟩
  · have := e.view a x q
    rw [upd_ne (ne_of_none this ns)]; exact this
  · by_cases ha : a = p
    · subst ha; rw [upd_same] at q; cases q; exact h
    · rw [upd_ne ha] at q; exact e.sub a x q
  · rw [upd_ne (ne_of_none q n)]; exact e.out a x q hn

/-! ### the slots -/
structure RE (g : G) (H0 Hs H : Hp) (ρ : List Sl) (σ : L2.St) : Prop where
  sub : Same Hs H
  len : ρ.length = σ.length
  sh : ∀ (i : Nat) (d : D), ρ[i]? = some (.sh d) → ∃ v, σ[i]? = some (some v) ∧ Rep g Hs v d
  ow : ∀ (i : Nat) (ds : List D), ρ[i]? = some (.ow ds) → ∃ p vs, σ[i]? = some (some (.ref p)) ∧ H p = some (.lst vs) ∧ Hs p = none ∧ H0 p = none ∧ Reps g Hs vs ds
  ap : ∀ (i j : Nat) (ds es : List D) (p : Addr), i ≠ j → ρ[i]? = some (.ow ds) → ρ[j]? = some (.ow es) → σ[i]? = some (some (.ref p)) → σ[j]? = some (some (.ref p)) → False
theorem RE.ext {H0 : Hp} {ρ : List Sl} {σ : L2.St} (r : RE g H0 Hs H ρ σ) (e : Ext Hs H Hs' H') : RE g H0 Hs' H' ρ σ where
  sub := e.sub
  len := r.len
  sh := fun i d h => let ⟨v, h1, h2⟩ := r.sh i d h; ⟨v, h1, h2.mono e.view⟩
  ow := fun i ds h => let ⟨p, vs, h1, h2, h3, h4, h5⟩ := r.ow i ds h; ⟨p, vs, h1, e.all _ _ h2, e.out _ _ h2 h3, h4, h5.mono e.view⟩
  ap := r.ap
/-- a value that may be a lent list: the list itself stands in H, its items in view -/
def BRep (g : G) (Hs H : Hp) (v : V) (d : D) : Prop := Rep g Hs v d ∨ ∃ p vs ds, v = .ref p ∧ d = .lst ds ∧ H p = some (.lst vs) ∧ Reps g Hs vs ds
inductive BReps (g : G) (Hs H : Hp) : List V → List D → Prop
  | nil : BReps g Hs H [] []
  | cons {v : V} {vs : List V} {d : D} {ds : List D} : BRep g Hs H v d → BReps g Hs H vs ds → BReps g Hs H (v :: vs) (d :: ds)
theorem BRep.ext {v : V} {d : D} (b : BRep g Hs H v d) (e : Ext Hs H Hs' H') : BRep g Hs' H' v d := by
  rcases b with b | ⟨p, vs, ds, h1, h2, h3, h4⟩
  · exact .inl (b.mono e.view)
  · exact .inr ⟨p, vs, ds, h1, h2, e.all _ _ h3, h4.mono e.view⟩
theorem BReps.ext : ∀ {vs : List V} {ds : List D}, BReps g Hs H vs ds → Ext Hs H Hs' H' → BReps g Hs' H' vs ds
  | _, _, .nil, _ => .nil
  | _, _, .cons b t, e => .cons (b.ext e) (BReps.ext t e)
theorem BRep.rep {v : V} {d : D} (b : BRep g Hs H v d) (e : Same Hs H) : Rep g H v d := by
  rcases b with b | ⟨p, vs, ds, rfl, rfl, h3, h4⟩
  · exact b.mono e
  · exact .lst (.inl (.inl h3)) (h4.mono e)
theorem BReps.reps : ∀ {vs : List V} {ds : List D}, BReps g Hs H vs ds → Same Hs H → Reps g H vs ds
  | _, _, .nil, _ => .nil
  | _, _, .cons b t, e => .cons (b.rep e) (BReps.reps t e)
theorem BReps.of : ∀ {vs : List V} {ds : List D}, Reps g Hs vs ds → BReps g Hs H vs ds
  | _, _, .nil => .nil
  | _, _, .cons b t => .cons (.inl b) (BReps.of t)
/-- a list operand: where it stands, its items -/
theorem BRep.list {v : V} {ds : List D} (b : BRep g Hs H v (.lst ds)) (e : Same Hs H) : ∃ p vs, v = .ref p ∧ SqL g.K H p vs ∧ Reps g Hs vs ds := by
  rcases b with b | ⟨p, vs, ds', h1, h2, h3, h4⟩
  · cases b with
    | lst s r => exact ⟨_, _, rfl, Same.seq e s, r⟩
  · cases h2
    exact ⟨p, vs, h1, .inl (.inl h3), h4⟩
theorem BRep.tuple {v : V} {ds : List D} (b : BRep g Hs H v (.tup ds)) (e : Same Hs H) : ∃ p vs, v = .ref p ∧ SqT g.K H p vs ∧ Reps g Hs vs ds := by
  rcases b with b | ⟨p, vs, ds', h1, h2, h3, h4⟩
  · cases b with
    | tup s r => exact ⟨_, _, rfl, Same.sqT e s, r⟩
  · cases h2
theorem BRep.rint {v : V} {i : Int} (b : BRep g Hs H v (.int i)) : v = .int i := by
  rcases b with b | ⟨p, vs, ds', h1, h2, h3, h4⟩
  · cases b; rfl
  · cases h2
theorem BRep.rbl {v : V} {i : Bool} (b : BRep g Hs H v (.bl i)) : v = .bl i := by
  rcases b with b | ⟨p, vs, ds', h1, h2, h3, h4⟩
  · cases b; rfl
  · cases h2
theorem BRep.rstr {v : V} {i : Str} (b : BRep g Hs H v (.str i)) : v = .str i := by
  rcases b with b | ⟨p, vs, ds', h1, h2, h3, h4⟩
  · cases b; rfl
  · cases h2
theorem BRep.rnon {v : V} (b : BRep g Hs H v .non) : v = .non := by
  rcases b with b | ⟨p, vs, ds', h1, h2, h3, h4⟩
  · cases b; rfl
  · cases h2

/-! ### the end of an evaluation -/
def holds {α : Type} (r : M α) (ok : α → Prop) (ex : Nat → Prop) : Prop := match r with
  | .no => False
  | .ok a => ok a
  | .ex c => ex c
theorem holds_bind {α β : Type} {m : M α} {f : α → M β} {ok : β → Prop} {ex : Nat → Prop} (h : holds (m.bind f) ok ex) : holds m (fun a => holds (f a) ok ex) ex := by
  cases m with
  | no => exact h
  | ok a => exact h
  | ex c => exact h
theorem holds_mono {α : Type} {m : M α} {ok ok' : α → Prop} {ex ex' : Nat → Prop} (h : holds m ok ex) (h1 : ∀ a, m = .ok a → ok a → ok' a) (h2 : ∀ c, ex c → ex' c) : holds m ok' ex' := by
  cases m with
  | no => exact h
  | ok a => exact h1 a rfl h
  | ex c => exact h2 c h
theorem holds_gd {α : Type} {b : Bool} {a : α} {ok : α → Prop} {ex : Nat → Prop} (h : holds (gd b a) ok ex) : b = true ∧ ok a := by
  cases b with
  | true => exact ⟨rfl, h⟩
  | false => exact h.elim
end
end Dw

/-! Rules of the model that the library lacks. -/
namespace Dw
open PySem PySem.Spec PyProof.Rows L2
section
variable {prog : Program} {w : World} {A : Around} {E : Value → Shared → Prop} {s : Shared}
theorem adjust_rev (n : Nat) : Builtin.Slice.sliceAdjust none none (-1) (n : Int) = ((n : Int) - 1, -1) := by
  unfold Builtin.Slice.sliceAdjust
  simp
theorem places_rev (n : Nat) : Builtin.Slice.slicePlaces ((n : Int) - 1) (-1) (-1) = n := by
  unfold Builtin.Slice.slicePlaces
  have h1 : ¬ ((-1 : Int) > 0) := by omega
  simp only [h1, if_false]
  split
  · rw [show (- -1 : Int) = 1 by decide, Int.ediv_one]; omega
  · omega
theorem fm_congr {α β : Type} {f g : α → Option β} : ∀ {l : List α}, (∀ x ∈ l, f x = g x) → l.filterMap f = l.filterMap g
  | [], _ => rfl
  | x :: l, h => by
    rw [List.filterMap_cons, List.filterMap_cons, h x List.mem_cons_self, fm_congr fun y hy => h y (List.mem_cons_of_mem _ hy)]
theorem pick_rev (xs : Array Value) : ((List.range xs.size).filterMap fun (m : Nat) => xs[(((xs.size : Int) - 1) + (m : Int) * (-1)).toNat]?).toArray = xs.toList.reverse.toArray := by
  have e : (List.range xs.size).filterMap (fun (m : Nat) => xs[(((xs.size : Int) - 1) + (m : Int) * (-1)).toNat]?) = ((List.range xs.size).map fun k => xs.size - 1 - k).filterMap (xs[·]?) := by
    rw [List.filterMap_map]
    refine fm_congr fun m hm => ?_
    have hm := List.mem_range.1 hm
    have : (((xs.size : Int) - 1) + (m : Int) * (-1)).toNat = xs.size - 1 - m := by omega
    rw [this]; rfl
  rw [e, PySem.W.krv_range, List.filterMap_reverse, PySem.W.krv_all]
theorem slicePart_some {v : Value} {i : Int} {Q : Option Int → Shared → Prop} (p : IsPart v (some i)) (h : Q (some i) s) : wpAny (model prog w) A (Builtin.Slice.slicePartIndex v) Q E s := HT.slicePart_ p h
theorem sliceApplied_rev {sl : Addr} {vs : Value} {n : Nat} {Q : Int × Int × Nat → Shared → Prop} (hs : s.heap.IsSliceOf sl .none .none vs) (ps : IsPart vs (some (-1)))
    (h : Q ((n : Int) - 1, -1, n) s) : wpAny (model prog w) A (Builtin.Slice.sliceApplied (.ref sl) (pure (n : Int))) Q E s := by
  obtain ⟨os, hos, hcs, hds⟩ := id hs
  unfold Builtin.Slice.sliceApplied Builtin.Slice.sliceFields
  refine wpAny_bind (wpAny_bind (wpAny_field hos hds (x := .none) rfl (wpAny_bind (wpAny_field hos hds (x := .none) rfl (wpAny_bind (wpAny_field hos hds (x := vs) rfl (wpAny_pure ?_)))))))
  refine wpAny_bind (HT.slicePart_ ps ?_)
  show wpAny _ _ (if ((-1 : Int) == 0) = true then _ else _) _ _ s
  rw [if_neg (by decide)]
  refine wpAny_bind (slicePart_none (wpAny_bind (slicePart_none (wpAny_bind (wpAny_pure ?_)))))
  show wpAny _ _ (match Builtin.Slice.sliceAdjust none none (-1) (n : Int) with | (lo, hi) => pure (lo, (-1 : Int), Builtin.Slice.slicePlaces lo hi (-1))) _ _ s
  rw [adjust_rev n]
  show wpAny _ _ (pure ((n : Int) - 1, (-1 : Int), Builtin.Slice.slicePlaces ((n : Int) - 1) (-1) (-1))) _ _ s
  rw [places_rev]
  exact wpAny_pure h
theorem getItem_tuple_rev {t sl : Addr} {items : Array Value} {vs : Value} {Q : Value → Shared → Prop} (ht : IsTup s.heap t items) (hs : s.heap.IsSliceOf sl .none .none vs) (ps : IsPart vs (some (-1)))
    (h : Q (.ref s.heap.objs.size) { s with heap := s.heap.push { cls := .type "tuple", data := .seq items.toList.reverse.toArray } })
    (hsz : items.size ≤ sizeLine) : wpAny (model prog w) A (getItem (.ref t) (.ref sl)) Q E s := by
  have htake : sizeOk (.seq items.toList.reverse.toArray) := by
    show items.toList.reverse.toArray.size ≤ sizeLine
    rw [List.size_toArray, List.length_reverse, Array.length_toList]
    exact hsz
  obtain ⟨os, hos, hcs, hds⟩ := id hs
  have hTs : s.TypeIs (.ref sl) "slice" := ⟨os, hos, hcs⟩
  unfold getItem
  try with_reducible refine wpAny_holding ?_
  first | refine wpAny_bind (wpAny_pure ?_) | skip
  refine wpAny_bind (wpAny_sequenceKey ht.typeIs (by decide) ?_)
  refine wpAny_bind (wpAny_callSpecial?_slot (name := Str.ofString "__getitem__") ht.typeIs PyProof.Rows.slot_tuple_getitem
    (wpAny_call_entry PyProof.Rows.slot_tuple_getitem ht.typeIs entry_tuple_getitem ?_ (args_tuple_getitem _ _)))
  show wpAny _ _ (Builtin.Tuple.tupleItemsOf (.ref t) >>= _) _ _ s
  refine wpAny_bind (tupleItemsOf_ ht ?_)
  refine wpAny_bind (wpAny_typeOf hTs ?_)
  rw [if_pos (by decide)]
  refine wpAny_bind (sliceApplied_rev hs ps ?_)
  have hno : ¬ ((((items.size : Int) - 1) == 0 && (-1 : Int) == 1 && items.size == items.size) = true) := by
    rw [show ((-1 : Int) == 1) = false from rfl, Bool.and_false, Bool.false_and]
    exact Bool.false_ne_true
  show wpAny _ _ (if (((items.size : Int) - 1) == 0 && (-1 : Int) == 1 && items.size == items.size) = true then _ else _) _ _ s
  rw [if_neg hno, pick_rev]
  first
    | exact wpAny_bind (m := Builtin.Tuple.tupleExact _) (wpAny_newObj_type (wpAny_pure ⟨_, rfl, wpAny_pure h⟩) htake)
    | exact wpAny_bind (m := Builtin.Tuple.tupleExact _) (wpAny_newObj_type (wpAny_bind (wpAny_pure (wpAny_pure ⟨_, rfl, wpAny_pure h⟩))) htake)
    | exact wpAny_bind (wpAny_bind (m := Builtin.Tuple.tupleExact _) (wpAny_newObj_type (wpAny_pure (wpAny_pure ⟨_, rfl, wpAny_pure h⟩)) htake))
    | exact wpAny_bind (wpAny_bind (m := Builtin.Tuple.tupleExact _) (wpAny_newObj_type (wpAny_pure ⟨_, rfl, wpAny_pure h⟩) htake))
end
section
variable {X : Cx}
/-- xs[::-1], a list or a tuple -/
def tRevA (K : PySem.W.Frag) (te : TE) : TE := fun σ H Q => te σ H fun x H1 => ∃ a xs, x = .ref a ∧ ((SqL K H1 a xs ∧ ∀ p, H1 p = none → Q (.ref p) (upd H1 p (.lst xs.reverse))) ∨ (SqT K H1 a xs ∧ ∀ p, H1 p = none → Q (.ref p) (upd H1 p (.tup xs.reverse))))
theorem pe_revA {e : Expr} {te : TE} {k : Nat} {p1 p2 p3 pos : Pos} (he : PE X e te) : PE X (.Subscript e (.Slice none none (some (.UnaryOp .USub (.Constant (.int 1) k p1) p2)) p3) pos) (tRevA X.K te) := by
  refine ⟨fun pins s σ H Q I h => ?_⟩
  refine Subscript_ (thn (he.run pins s σ H _ I h) fun v s1 ⟨x, H1, I1, r1, q1⟩ => ?_)
  obtain ⟨a, xs, ex, hx⟩ := q1
  subst ex
  cases r1
  have hst : PO X (some (.UnaryOp .USub (.Constant (.int 1) k p1) p2)) (tPart (tUn (rU fun i => .int (-i)) (tC (.int 1)))) := po_some (pe_un un_neg pe_int)
  refine wpAny_Slice (thn (po_none.run pins s1 σ H1 (fun o H2 => o = none ∧ H2 = H1) I1 ⟨rfl, rfl⟩) fun vl s2 ⟨l, H2, I2, pl, el, e2⟩ => ?_)
  subst el e2
  refine thn (po_none.run pins s2 σ H2 (fun o H3 => o = none ∧ H3 = H2) I2 ⟨rfl, rfl⟩) fun vu s3 ⟨u, H3, I3, pu, eu, e3⟩ => ?_
  subst eu e3
  refine thn (hst.run pins s3 σ H3 (fun o H4 => o = some (-1) ∧ H4 = H3) I3 ⟨1, rfl, -1, rfl, rfl, rfl⟩) fun vs s4 ⟨o, H4, I4, ps, eo, e4⟩ => ?_
  subst eo e4
  have I5 : Inv X pins σ H4 { s4 with heap := s4.heap.push { cls := .type "slice", data := .fields #[vl, vu, vs] } } := I4.kept (t' := s4.toks) fun b ob q => Heap.get?_push_of_some _ q
  show wpAny (model X.prog X.w) X.A (subscriptTail e (.Slice none none (some (.UnaryOp .USub (.Constant (.int 1) k p1) p2)) p3) (.ref a) (.ref s4.heap.objs.size)) (EP X pins σ Q) X.xe { s4 with heap := s4.heap.push { cls := .type "slice", data := .fields #[vl, vu, vs] } }
  cases pl
  cases pu
  rcases hx with ⟨hx, q⟩ | ⟨hx, q⟩
  · obtain ⟨its, r, ht, hz⟩ := I5.list hx
    have hlen := r.length
    refine tail_any (ops := [.ref a, .ref s4.heap.objs.size]) ht.isList.typeIs (PySem.slot_list_getitem.lookup) ?_ (by with_unfolding_all rfl)
    refine wpAny_getItem_list_slice ht.isList (Heap.IsSliceOf.new _ .none .none vs) .none .none ps (by decide) ?_ (by rw [List.size_toArray]; omega)
    rw [PySem.W.krv_pick]
    refine ⟨.ref _, _, I5.laid (t' := s4.toks) (o := .lst xs.reverse) (fun b ob q => Heap.get?_push_of_some _ q) (Nat.le_refl _) ?_, rfl, q _ (I5.hok.fresh (Nat.le_refl _))⟩
    exact ⟨by rw [List.length_reverse]; exact hz, _, 0, r.reverse, Heap.get?_push_size _ rfl⟩
  · obtain ⟨its, r, ht, hz⟩ := I5.tuple hx
    have hlen := r.length
    refine tail_any (ops := [.ref a, .ref s4.heap.objs.size]) ht.typeIs (PyProof.Rows.slot_tuple_getitem.lookup) ?_ (by with_unfolding_all rfl)
    refine getItem_tuple_rev ht (Heap.IsSliceOf.new _ .none .none vs) ps ?_ (by rw [List.size_toArray]; omega)
    refine ⟨.ref _, _, I5.laid (t' := s4.toks) (o := .tup xs.reverse) (fun b ob q => Heap.get?_push_of_some _ q) (Nat.le_refl _) ?_, rfl, q _ (I5.hok.fresh (Nat.le_refl _))⟩
    exact ⟨by rw [List.length_reverse]; exact hz, _, r.reverse, IsTup.new _ _⟩
end
section
variable {prog : Program} {w : World} {A : Around} {E : Value → Shared → Prop} {s : Shared}
theorem extend_rev {R : Result → Shared → Prop} {it l : Addr} {items : Array Value} (hh : A.handled = none) (hit : s.heap.IsRevIter it l ((items.size : Int) - 1)) (hl : s.heap.IsList l items) (hne : l ≠ it) (hn : items.size ≤ sizeLine)
    (S : Addr) (res : Value) (c₀ : Nat) (hS : s.heap.get? S = some { cls := .type "list", data := .seq #[] c₀ }) (hSi : S ≠ it) (hSl : S ≠ l)
    (hR : ∀ h' tk acc' c', (∀ b o, b ≠ S → b ≠ it → s.heap.get? b = some o → h'.get? b = some o) → h'.get? S = some { cls := .type "list", dict := none, data := .seq acc' c', slots := #[] } →
      ItemsOf (fun i v => items[items.size - 1 - i]? = some v) acc' items.size → R (.ok (.ret res)) { s with heap := h', toks := tk }) :
    wpAny (model prog w) A.in1 (Builtin.List.listExtendWith (.ref S) (.ref it) res)
      (fun fin s' => match fin with | .done f => R (.ok f) s' | .again c' => c'.quiet = true ∧ codeAny (model prog w) A c' R s') (fun e s' => R (.error e) s') s := by
  have W := (Walks.listRev (prog := prog) (w := w) (A := A.in1) hh it l hne items).toS
  have hSf : S ∉ [it, l] := by simp only [List.mem_cons, List.not_mem_nil, or_false, not_or]; exact ⟨hSi, hSl⟩
  have hT : s.TypeIs (.ref it) "list_reverseiterator" := hit.typeIs
  have h1 : Builtin.List.listSameRef (.ref S) (.ref it) = false := by simp [Builtin.List.listSameRef, hSi]
  unfold Builtin.List.listExtendWith
  refine wpAny_bind (wpAny_typeOf hT ?_)
  rw [if_neg (by rw [h1]; decide)]
  refine wpAny_bind (wpAny_pyIter_revIter hit ?_)
  refine wpAny_bind (wpAny_holding ?_)
  unfold Builtin.List.listLengthHint
  refine wpAny_bind (wpAny_specialOf hT RT.nolen_lri ?_)
  show wpAny _ A.in1 (specialOf (Value.ref it) (Str.ofString "__length_hint__") >>= _) _ _ _
  refine wpAny_bind (wpAny_specialOf hT RT.hint_lri ?_)
  generalize hid : ("list_reverseiterator.__length_hint__" : String) = id0
  wp_delta
  rw [show splitId id0 = some ("list_reverseiterator", "__length_hint__") from by subst hid; decide +kernel]
  subst hid
  refine wpAny_bind (wpAny_isInstance (b := true) hT (by rw [isSubtype_type]; kernel_rfl) ?_)
  refine wpAny_pure ?_
  rw [if_neg (by decide)]
  have e0 : ((items.size : Nat) : Int) - 1 - ((0 : Nat) : Int) = (items.size : Int) - 1 := by omega
  refine wpAny_pure ⟨plainId_quiet F.plain_extend_loop _, codeAny_extend_loopS W hn S hSf res items.size 0 _ _ _ rfl (Nat.zero_le _) ⟨Nat.zero_le _, by rw [e0]; exact hit, hl⟩ hS (ItemsOf.nil _) fun s' acc' c' hm hS' hacc => ?_⟩
  rw [Moved.eq_with hm]
  refine hR s'.heap s'.toks acc' c' (fun b o hb hb2 e => hm.heap b o (fun hmem => ?_) e) hS' hacc
  rcases List.mem_cons.mp hmem with e' | hmem
  · exact hb e'
  · exact hb2 (List.mem_singleton.mp hmem)
theorem list_init_rev {R : Result → Shared → Prop} {it l : Addr} {items : Array Value} (hh : A.handled = none) (hit : s.heap.IsRevIter it l ((items.size : Int) - 1)) (hl : s.heap.IsList l items) (hne : l ≠ it) (hn : items.size ≤ sizeLine)
    (S : Addr) (hS : s.heap.get? S = some { cls := .type "list", data := .seq #[] }) (hSi : S ≠ it) (hSl : S ≠ l)
    (hR : ∀ h' tk acc' c', (∀ b o, b ≠ S → b ≠ it → s.heap.get? b = some o → h'.get? b = some o) → h'.get? S = some { cls := .type "list", dict := none, data := .seq acc' c', slots := #[] } →
      ItemsOf (fun i v => items[items.size - 1 - i]? = some v) acc' items.size → R (.ok (.ret .none)) { s with heap := h', toks := tk }) :
    wpAny (model prog w) A.in1 (Builtin.«list.__init__» ⟨[.ref S, .ref it], []⟩)
      (fun fin s' => match fin with | .done f => R (.ok f) s' | .again c' => c'.quiet = true ∧ codeAny (model prog w) A c' R s') (fun e s' => R (.error e) s') s := by
  show wpAny _ _ (do let old ← Builtin.List.listItems (.ref S); Builtin.List.listUpdate (.ref S) (fun _ => #[]); letGo old.toList.reverse; Builtin.List.listExtendWith (.ref S) (.ref it) .none) _ _ s
  refine wpAny_bind ?_
  unfold Builtin.List.listItems
  refine wpAny_bind (wpAny_seqItems hS rfl (wpAny_pure ?_))
  show wpAny _ _ (updateSeq S (fun _ => #[]) >>= fun _ => letGo (#[] : Array Value).toList.reverse >>= fun _ => Builtin.List.listExtendWith (.ref S) (.ref it) .none) _ _ s
  refine wpAny_bind (wpAny_updateSeq hS rfl ?_)
  have hS₂ := Heap.get?_update_self (Obj.mapSeq (fun _ => (#[] : Array Value))) hS rfl
  have oth : ∀ b o, b ≠ S → s.heap.get? b = some o → (s.heap.update S (Obj.mapSeq (fun _ => (#[] : Array Value)))).get? b = some o :=
    fun b o hb e => (Heap.get?_update_other _ _ (Ne.symm hb)).trans e
  refine wpAny_bind (wpAny_letGo ?_)
  obtain ⟨ol, hol, hcl, nl, hdl⟩ := id hl
  refine extend_rev (s := { s with heap := s.heap.update S (Obj.mapSeq (fun _ => (#[] : Array Value))) }) hh (hit.at fun o e => oth it o (Ne.symm hSi) e) ⟨ol, oth l ol (Ne.symm hSl) hol, hcl, nl, hdl⟩ hne hn S .none _ hS₂ hSi hSl fun h' tk acc' c' hk hS' hacc => ?_
  exact hR h' tk acc' c' (fun b o hb hb2 e => hk b o hb hb2 (oth b o hb e)) hS' hacc
theorem call_list_rev {Q : Value → Shared → Prop} {it l : Addr} {items : Array Value} (hh : A.handled = none) (hit : s.heap.IsRevIter it l ((items.size : Int) - 1)) (hl : s.heap.IsList l items) (hne : l ≠ it) (hn : items.size ≤ sizeLine)
    (hQ : ∀ h' tk acc' c', (∀ b o, b ≠ it → s.heap.get? b = some o → h'.get? b = some o) →
      h'.get? s.heap.objs.size = some { cls := .type "list", dict := none, data := .seq acc' c', slots := #[] } → ItemsOf (fun i v => items[items.size - 1 - i]? = some v) acc' items.size → Q (.ref s.heap.objs.size) { s with heap := h', toks := tk }) :
    wpAny (model prog w) A (call (.type "list") [.ref it]) Q E s := by
  refine callType_codes (Q₁ := fun obj s₁ => obj = .ref s.heap.objs.size ∧ s₁ = { s with heap := s.heap.push { cls := .type "list", data := .seq #[] } }) F.called_list (F.typeCall_list_1 _) F.entry_list_init
    (code_list_new _ ⟨rfl, rfl⟩) fun obj s₁ h₁ => ?_
  obtain ⟨rfl, rfl⟩ := h₁
  have hS : (s.heap.push { cls := .type "list", data := .seq #[] }).get? s.heap.objs.size = some { cls := .type "list", data := .seq #[] } := Heap.get?_push_size _ rfl
  obtain ⟨oi, hoi, _⟩ := id hit
  obtain ⟨ol, hol, _⟩ := id hl
  have hSi : s.heap.objs.size ≠ it := Nat.ne_of_gt (Heap.lt_size hoi)
  have hSl : s.heap.objs.size ≠ l := Nat.ne_of_gt (Heap.lt_size hol)
  refine ⟨⟨_, hS, rfl⟩, F.args_list_init_2 _ _, list_init_rev (A := A.in1) hh (hit.at fun o e => Heap.get?_push_of_some _ e) (hl.push _) hne hn _ hS hSi hSl fun h' tk acc' c' hk hS' hacc => ?_⟩
  exact ⟨rfl, hQ h' tk acc' c' (fun b o hb e => hk b o (Nat.ne_of_lt (Heap.lt_size e)) hb (Heap.get?_push_of_some _ e)) hS' hacc⟩
end
section
variable {X : Cx}
/-- list(reversed(x)), x a list: a new list -/
def tLstRev (K : PySem.W.Frag) (te : TE) : TE := fun σ H Q => te σ H fun v H1 => ∃ (a : Addr) (xs : List V), v = .ref a ∧ SqL K H1 a xs ∧ ∀ q, H1 q = none → Q (.ref q) (upd H1 q (.lst xs.reverse))
theorem pe_lstRev {e : Expr} {te : TE} {p p2 pos pos2 : Pos} (hc : X.calm = true) (hg : Gl X "list") (hm : X.mg "list" = none) (hg2 : Gl X "reversed") (hm2 : X.mg "reversed" = none) (he : PE X e te)
    (hs : starEach [e] X.env = (false, eval e X.env) :: starEach [] X.env := by rfl)
    (hs2 : starEach [.Call (.Name "reversed" p2) [e] [] pos2] X.env = (false, eval (.Call (.Name "reversed" p2) [e] [] pos2) X.env) :: starEach [] X.env := by rfl) :
    PE X (.Call (.Name "list" p) [.Call (.Name "reversed" p2) [e] [] pos2] [] pos) (tLstRev X.K te) := by
  refine ⟨fun pins s σ H Q I h => ?_⟩
  refine Call_ (ld_blt I hg hm boot_list (PyProof.Rows.callWith_type1 (args_cons (Call_ (ld_blt I hg2 hm2 PyProof.Rows.boot_reversed (PyProof.Rows.callWith_type1 (args_cons (thn (he.run pins s σ H _ I h) fun u s1 ⟨v, H1, I1, r1, q1⟩ => args_nil ?_) hs) hs rfl))) hs2) hs2 rfl))
  obtain ⟨a, xs, ev, hq, q⟩ := q1
  subst ev
  obtain rfl : u = Value.ref a := r1
  obtain ⟨its, rv, p', hz⟩ := I1.list hq
  refine call_reversed_list p'.isList (args_nil ?_)
  have k0 : ∀ b o, s1.heap.get? b = some o → (s1.heap.push (revObj a ((its.toArray.size : Int) - 1))).get? b = some o := fun b o e => Heap.get?_push_of_some _ e
  have I2 : Inv X pins σ H1 { s1 with heap := s1.heap.push (revObj a ((its.toArray.size : Int) - 1)) } := I1.kept (t' := s1.toks) k0
  obtain ⟨f0, f1, f2, f3, f4, f5⟩ := I1.fpOk (H' := H1) (b := s1.heap.objs.size) (Nat.le_refl _) (I1.hok.fresh (Nat.le_refl _))
  have hl := p'.isList
  obtain ⟨ol, hol, _⟩ := id hl
  have hne : a ≠ s1.heap.objs.size := Nat.ne_of_lt (Heap.lt_size hol)
  have hn : its.toArray.size ≤ sizeLine := by rw [List.size_toArray, ← rv.length]; exact hz
  refine call_list_rev (s := { s1 with heap := s1.heap.push (revObj a ((its.toArray.size : Int) - 1)) }) (I1.ok.hd hc) ⟨_, Heap.get?_push_size _ rfl, rfl, rfl⟩ (hl.push _) hne hn fun h' tk acc c' hk hS hi => ?_
  have hk' : ∀ b o, s1.heap.get? b = some o → h'.get? b = some o := fun b o e => hk b o (Nat.ne_of_lt (Heap.lt_size e)) (k0 b o e)
  have hsz : s1.heap.objs.size ≤ (s1.heap.push (revObj a ((its.toArray.size : Int) - 1))).objs.size := by
    have : s1.heap.objs.size < (s1.heap.push (revObj a ((its.toArray.size : Int) - 1))).objs.size := Heap.lt_size (Heap.get?_push_size _ rfl)
    omega
  refine ⟨.ref (s1.heap.push (revObj a ((its.toArray.size : Int) - 1))).objs.size, upd H1 (s1.heap.push (revObj a ((its.toArray.size : Int) - 1))).objs.size (.lst xs.reverse), I1.laid (t' := tk) hk' hsz (show ObjOk X.prog X.w _ _ _ (.lst xs.reverse) from ⟨by rw [List.length_reverse]; exact hz, acc.toList, c', RT.vals_rev rv hi, ?_⟩), rfl, q _ (I1.hok.fresh hsz)⟩
  rw [Array.toArray_toList]
  exact hS
end
end Dw

/-! sorted(rows of whole numbers), of any length. -/
namespace Dw
open PySem PySem.Spec PyProof.Rows L2
theorem lexLt_asym : ∀ x y : List Int, HT.lexLt x y = true → HT.lexLt y x = false
  | [], [], h => by cases h
  | [], _ :: _, _ => rfl
  | _ :: _, [], h => by cases h
  | a :: x, b :: y, h => by
    rw [HT.lexLt_cons] at h ⊢
    by_cases e : a = b
    · rw [if_pos e] at h; rw [if_pos e.symm]; exact lexLt_asym x y h
    · rw [if_neg e] at h; rw [if_neg (Ne.symm e)]
      simp only [decide_eq_true_eq] at h
      simp only [decide_eq_false_iff_not]; omega
theorem lexLt_tr : ∀ x y z : List Int, HT.lexLt y x = false → HT.lexLt z y = false → HT.lexLt z x = false
  | [], [], z, _, h => h
  | [], _ :: _, [], _, _ => rfl
  | [], _ :: _, _ :: _, _, _ => rfl
  | _ :: _, [], _, h, _ => by cases h
  | _ :: _, _ :: _, [], _, h => by cases h
  | a :: x, b :: y, c :: z, h1, h2 => by
    rw [HT.lexLt_cons] at h1 h2 ⊢
    by_cases e1 : b = a
    · rw [if_pos e1] at h1
      subst e1
      by_cases e2 : c = b
      · rw [if_pos e2] at h2 ⊢; exact lexLt_tr x y z h1 h2
      · rw [if_neg e2] at h2 ⊢; exact h2
    · rw [if_neg e1] at h1
      simp only [decide_eq_false_iff_not] at h1
      by_cases e2 : c = b
      · subst e2
        rw [if_neg e1]; simp only [decide_eq_false_iff_not]; exact h1
      · rw [if_neg e2] at h2
        simp only [decide_eq_false_iff_not] at h2
        rw [if_neg (show ¬ c = a by omega)]; simp only [decide_eq_false_iff_not]; omega
theorem lexLt_eq : ∀ x y : List Int, HT.lexLt x y = false → HT.lexLt y x = false → x = y
  | [], [], _, _ => rfl
  | [], _ :: _, h, _ => by cases h
  | _ :: _, [], _, h => by cases h
  | a :: x, b :: y, h1, h2 => by
    rw [HT.lexLt_cons] at h1 h2
    by_cases e : a = b
    · subst e
      rw [if_pos rfl] at h1 h2
      rw [lexLt_eq x y h1 h2]
    · rw [if_neg e] at h1; rw [if_neg (Ne.symm e)] at h2
      simp only [decide_eq_false_iff_not] at h1 h2
      omega
theorem swo_lexL {α : Type} (k : α → List Int) : SrtO.Swo fun v u => HT.lexLt (k v) (k u) :=
  ⟨fun x y h => lexLt_asym _ _ h, fun x y z h1 h2 => lexLt_tr _ _ _ h1 h2⟩
theorem insT_perm (x : List Int) : ∀ l, (insT x l).Perm (x :: l)
  | [] => .refl _
  | y :: r => by
    unfold insT
    split
    · exact ((insT_perm x r).cons y).trans (.swap x y r)
    · exact .refl _
theorem sortT_perm : ∀ l, (sortT l).Perm l
  | [] => .refl _
  | x :: r => (insT_perm x _).trans ((sortT_perm r).cons x)
def SrtL (l : List (List Int)) : Prop := l.Pairwise fun x y => HT.lexLt y x = false
theorem lexLt_refl (x : List Int) : HT.lexLt x x = false := (swo_lexL (fun x : List Int => x)).refl x
theorem insT_sorted (x : List Int) : ∀ l, SrtL l → SrtL (insT x l)
  | [], _ => List.pairwise_singleton _ _
  | y :: r, h => by
    unfold insT
    split
    · rename_i h1
      refine List.pairwise_cons.2 ⟨fun z hz => ?_, insT_sorted x r (List.pairwise_cons.1 h).2⟩
      rcases List.mem_cons.1 ((insT_perm x r).mem_iff.1 hz) with rfl | hz
      · exact lexLt_asym _ _ h1
      · exact (List.pairwise_cons.1 h).1 z hz
    · rename_i h1
      have h1 : HT.lexLt y x = false := by simpa using h1
      refine List.pairwise_cons.2 ⟨fun z hz => ?_, h⟩
      rcases List.mem_cons.1 hz with rfl | hz
      · exact h1
      · exact lexLt_tr _ _ _ h1 ((List.pairwise_cons.1 h).1 z hz)
theorem sortT_sorted : ∀ l, SrtL (sortT l)
  | [] => List.Pairwise.nil
  | x :: r => insT_sorted x _ (sortT_sorted r)
theorem sortedL_uniq : ∀ {l m : List (List Int)}, SrtL l → SrtL m → l.Perm m → l = m
  | [], m, _, _, h => (List.Perm.eq_nil h.symm).symm
  | x :: l, [], _, _, h => absurd h.length_eq (by simp)
  | x :: l, y :: m, hl, hm, h => by
    have e : x = y := by
      refine lexLt_eq _ _ ?_ ?_
      · rcases List.mem_cons.1 (h.mem_iff.1 (List.mem_cons_self (a := x) (l := l))) with e | hx
        · rw [e]; exact lexLt_refl _
        · exact (List.pairwise_cons.1 hm).1 x hx
      · rcases List.mem_cons.1 (h.mem_iff.2 (List.mem_cons_self (a := y) (l := m))) with e | hy
        · rw [e]; exact lexLt_refl _
        · exact (List.pairwise_cons.1 hl).1 y hy
    subst e
    rw [sortedL_uniq (List.pairwise_cons.1 hl).2 (List.pairwise_cons.1 hm).2 h.cons_inv]
section
variable {prog : Program} {w : World} {A : Around} {E : Value → Shared → Prop} {s : Shared} {Q : Bool → Shared → Prop}
theorem lex_walk {b : Bool} {xs ys : List Value} {ns ms : List Int} {fin : Bool} (i : Nat) (hx : IntsAre xs ns) (hy : IntsAre ys ms) (hf : fin = decide (ns.length < ms.length))
    (h : Q (HT.lexLt ns ms) s) : PySem.W.KatLex prog w A b fin Q (xs.zip ys) i s := by
  induction hx generalizing ys ms i with
  | nil =>
    cases hy with
    | nil => rw [hf]; exact PySem.W.kat_nil h
    | cons q u hy => rw [hf]; exact PySem.W.kat_nil h
  | @cons p t xs ns hx ih =>
    cases hy with
    | nil => rw [hf]; exact PySem.W.kat_nil h
    | @cons q u ys ms hy =>
      have hf' : fin = decide (ns.length < ms.length) := by
        rw [hf]; simp
      show PySem.W.KatLex prog w A b fin Q ((Value.int p t, Value.int q u) :: xs.zip ys) i s
      refine PySem.W.kat_cons (wpAny_eqBool_int ?_)
      rw [HT.lexLt_cons] at h
      by_cases e : p = q
      · subst e
        rw [beq_self_eq_true]
        rw [if_pos rfl] at h
        refine PySem.W.kat_yes ?_
        first
          | exact ih (i + 1) hy hf' h
          | exact ih _ _ (i + 1) hy hf' h
      · rw [show (p == q) = false from beq_eq_false_iff_ne.mpr e]
        rw [if_neg e] at h
        exact PySem.W.kat_no (TS.oneLt_ints _ h)
end
open TS (TupInts)
open Srt
section
variable {prog : Program} {w : World} {A : Around} {E : Value → Shared → Prop} {s : Shared}
theorem tups_cmp {vs : List Value} {k : Value → List Int} (hp : ∀ v ∈ vs, TupInts s.heap v (k v)) : SrtO.Cmp prog w A s (tuples' true) (fun p => p.1 ∈ vs) (SrtO.lt2 fun v u => HT.lexLt (k v) (k u)) := by
  intro p q hm hm'
  have h1 := hp _ hm
  have h2 := hp _ hm'
  show wpAny (model prog w) A (keyLt' (tuples' true) p.1 q.1) (fun r s' => s' = s ∧ r = HT.lexLt (k p.1) (k q.1)) (fun _ _ => False) s
  generalize k p.1 = ns at h1 ⊢
  generalize k q.1 = ms at h2 ⊢
  obtain ⟨a, xs, e1, ⟨o, ho, hc, n, hdt⟩, i⟩ := h1
  obtain ⟨a', ys, e2, ⟨o', ho', hc', n', hdt'⟩, i'⟩ := h2
  rw [e1, e2]
  refine PySem.W.kat_lt ho hdt ho' hdt' ?_
  have l1 := i.length
  have l2 := i'.length
  rw [Array.length_toList] at l1 l2
  exact lex_walk 0 i i' (by rw [l1, l2]) ⟨rfl, rfl⟩
theorem firsts_t {h : Heap} : ∀ {vs : List Value}, (∀ v ∈ vs, ∃ ns, ns ≠ [] ∧ TupInts h v ns) → ∃ fs, PySem.W.KatTups h vs fs ∧ fs.length = vs.length ∧ ∀ f, f ∈ fs → ∃ n t, f = Value.int n t
  | [], _ => ⟨[], PySem.W.KatTups.nil, rfl, fun f hf => by simp at hf⟩
  | v :: vs, x => by
    obtain ⟨fs, k, hl, hi⟩ := firsts_t (vs := vs) fun u hu => x u (List.mem_cons_of_mem _ hu)
    obtain ⟨ns, hn, ⟨a, xs, rfl, ⟨o, ho, hc, n, hdt⟩, i⟩⟩ := x v List.mem_cons_self
    obtain ⟨y, ys, e⟩ : ∃ y ys, xs.toList = y :: ys := by
      cases q : xs.toList with
      | nil =>
        rw [q] at i
        have l := i.length
        rw [List.length_nil] at l
        exact absurd (List.length_eq_zero_iff.1 l.symm) hn
      | cons y ys => exact ⟨y, ys, rfl⟩
    obtain ⟨m, t, hy⟩ := i.all y (by rw [e]; exact List.mem_cons_self ..)
    refine ⟨y :: fs, PySem.W.KatTups.cons ho hc hdt ?_ k, by simp [hl], ?_⟩
    · have z := congrArg (fun l : List Value => l[0]?) e
      simpa using z
    · intro f hf
      rcases List.mem_cons.mp hf with rfl | hf
      · exact ⟨m, t, hy⟩
      · exact hi f hf
theorem tups_sortable {a : Addr} {vs : List Value} {k : Value → List Int} (h0 : 0 < vs.length) (hp : ∀ v ∈ vs, TupInts s.heap v (k v)) (hk : ∀ v ∈ vs, k v ≠ []) (ha : ∀ o, s.heap.get? a = some o → o.cls ≠ .type "tuple") : SrtO.SortableO prog w A s a vs fun v u => HT.lexLt (k v) (k u) := by
  intro h' keep
  have hp' : ∀ v ∈ vs, TupInts h' v (k v) := fun v hm => (hp v hm).keeps fun b o e c => keep b o (fun z => by subst z; exact ha o e c) e
  obtain ⟨fs, h1, h2, h3⟩ := firsts_t fun v hm => ⟨_, hk v hm, hp' v hm⟩
  refine ⟨tuples' true, fun Q E hq => ?_, tups_cmp hp'⟩
  refine PySem.W.kat_kind (T := .type "int") h1 (by omega) (fun f hm => ?_) (by rfl) ?_
  · obtain ⟨x, t, rfl⟩ := h3 f hm
    exact PySem.W.Looks.now
  · have e : (Value.type "int" != Value.type "tuple") = true := by first | decide +kernel | rfl | decide
    rw [e]
    exact hq
theorem sorted_tups {l : Addr} {vs : List Value} {k : Value → List Int} {Q : Value → Shared → Prop} (hl : s.heap.IsList l vs.toArray) (hz : vs.length ≤ sizeLine) (hp : ∀ v ∈ vs, TupInts s.heap v (k v)) (hk : ∀ v ∈ vs, k v ≠ [])
    (h : ∀ (h' : Heap) (d : Addr) (out : List Value), SrtO.Srtd (fun v u => HT.lexLt (k v) (k u)) out → SrtO.Stb (fun v u => HT.lexLt (k v) (k u)) out vs → (∀ b o, s.heap.get? b = some o → h'.get? b = some o) → s.heap.objs.size ≤ d → (∃ n, h'.get? d = some (seqObj "list" out.toArray n)) → Q (.ref d) { s with heap := h' }) :
    wpAny (model prog w) A (call (.builtin "sorted") [.ref l]) Q E s := by
  refine SrtO.sorted_ord (swo_lexL k) hl hz (fun h2 h₁ a ha kk => ?_) fun out hs hb => ?_
  · refine tups_sortable (s := { s with heap := h₁ }) (by omega) (fun v hm => (hp v hm).keeps fun b o e _ => (kk b o e).2) hk fun o e => ?_
    have e' : some o = some (seqObj "list" vs.toArray 0) := e.symm.trans ha
    cases e'
    intro c
    exact absurd (Value.type.inj c) (by decide)
  · exact h _ _ out hs hb (fun b o e => sortedAll_old e) (Nat.le_succ _) (sortedAll_at s.heap vs out.toArray)
end
section
variable {X : Cx}
open Classical in
/-- the numbers of a row -/
noncomputable def rowOfV (K : PySem.W.Frag) (H : Hp) (v : V) : List Int := if h : ∃ ns : List Int, ∃ t, v = .ref t ∧ SqT K H t (ns.map V.int) then choose h else []
theorem ints_inj : ∀ {a b : List Int}, a.map V.int = b.map V.int → a = b
  | [], [], _ => rfl
  | [], _ :: _, h => by cases h
  | _ :: _, [], h => by cases h
  | x :: a, y :: b, h => by
    rw [List.map_cons, List.map_cons] at h
    cases List.cons.inj h with
    | intro h1 h2 => cases h1; rw [ints_inj h2]
theorem map_fst_of {α β : Type} {f : α → β} : ∀ {ps : List (α × β)}, (∀ p ∈ ps, f p.1 = p.2) → (ps.map (·.1)).map (fun x => (x, f x)) = ps
  | [], _ => rfl
  | p :: ps, h => by
    rw [List.map_cons, List.map_cons, map_fst_of fun q hq => h q (List.mem_cons_of_mem _ hq), h p List.mem_cons_self]
/-- sorted(xs), xs a list of rows of whole numbers, none of them empty -/
def rSortedTs (K : PySem.W.Frag) : List V → Hp → VK → Prop := fun vs H Q => ∃ (a : Addr) (ps : List (V × List Int)), vs = [V.ref a] ∧ SqL K H a (ps.map (·.1)) ∧ (∀ p ∈ ps, ∃ t, p.1 = V.ref t ∧ SqT K H t (p.2.map V.int) ∧ p.2 ≠ []) ∧
  ∀ (qs : List (V × List Int)) (p : Addr), qs.Perm ps → qs.map (·.2) = sortT (ps.map (·.2)) → H p = none → Q (.ref p) (upd H p (.lst (qs.map (·.1))))
theorem cr_sortedTs : CallR X (.builtin "sorted") (rSortedTs X.K) := by
  intro pins s σ H vs us Q I r h
  obtain ⟨a, ps, rfl, hs, hx, q⟩ := h
  obtain ⟨its, rv, hl, hz⟩ := I.list hs
  obtain ⟨u, rfl, ru⟩ := vals1 r
  obtain rfl : u = Value.ref a := ru
  obtain ⟨e1, e2⟩ := refs_back rv fun x m => by
    obtain ⟨p, hp, rfl⟩ := List.mem_map.1 m
    obtain ⟨t, e, _⟩ := hx p hp
    exact ⟨t, e⟩
  have hk : ∀ p ∈ ps, rowOfV X.K H p.1 = p.2 := fun p hp => by
    obtain ⟨t, e, hq, _⟩ := hx p hp
    have ex : ∃ ns : List Int, ∃ t, p.1 = .ref t ∧ SqT X.K H t (ns.map V.int) := ⟨p.2, t, e, hq⟩
    unfold rowOfV
    rw [dif_pos ex]
    obtain ⟨t', e', hq'⟩ := Classical.choose_spec ex
    rw [e] at e'
    cases e'
    exact ints_inj (I.tuple_inj hq' hq)
  refine sorted_tups (k := fun u => rowOfV X.K H (backV u)) hl.isList (by rw [← rv.length]; exact hz) (fun v hv => ?_) (fun v hv => ?_) fun h' d out h1 h2 kp hd hn => ?_
  · obtain ⟨t, rfl⟩ := e2 v hv
    have hm : V.ref t ∈ ps.map (·.1) := by rw [e1]; exact List.mem_map.mpr ⟨_, hv, rfl⟩
    obtain ⟨p, hp, ep⟩ := List.mem_map.1 hm
    obtain ⟨t', e, hq, _⟩ := hx p hp
    rw [ep] at e
    cases e
    have z := hk p hp
    rw [ep] at z
    show TupInts s.heap (.ref t) (rowOfV X.K H (.ref t))
    rw [z]
    obtain ⟨its2, r2, ht, _⟩ := I.tuple hq
    obtain ⟨o, ho, hc, n, hd⟩ := id ht
    exact ⟨t, its2.toArray, rfl, ⟨o, ho, hc, n, hd⟩, by simpa using intsAre_of r2⟩
  · obtain ⟨t, rfl⟩ := e2 v hv
    have hm : V.ref t ∈ ps.map (·.1) := by rw [e1]; exact List.mem_map.mpr ⟨_, hv, rfl⟩
    obtain ⟨p, hp, ep⟩ := List.mem_map.1 hm
    obtain ⟨t', e, hq, hne⟩ := hx p hp
    have z := hk p hp
    rw [ep] at z
    show rowOfV X.K H (.ref t) ≠ []
    rw [z]; exact hne
  · have h3 : ∀ u ∈ out, ∃ a, u = Value.ref a := fun u hu => e2 u (h2.perm.mem_iff.mp hu)
    obtain ⟨n, hn⟩ := hn
    have hperm : ((out.map backV).map fun x => (x, rowOfV X.K H x)).Perm ps := by
      rw [← map_fst_of hk, e1]
      exact (h2.perm.map backV).map _
    have e4 : ((out.map backV).map fun x => (x, rowOfV X.K H x)).map (·.1) = out.map backV := by rw [List.map_map]; exact List.map_id' _
    have q := q ((out.map backV).map fun x => (x, rowOfV X.K H x)) d hperm (by
      refine sortedL_uniq ?_ (sortT_sorted _) ((hperm.map _).trans (sortT_perm _).symm)
      rw [List.map_map, List.map_map]
      refine List.pairwise_map.2 ?_
      exact h1) (I.hok.fresh hd)
    rw [e4] at q
    refine ⟨.ref d, upd H d (.lst (out.map backV)), I.laid (t' := s.toks) kp hd ⟨?_, out, n, vals_back h3, hn⟩, rfl, q⟩
    rw [List.length_map, h2.perm.length_eq]
    have := rv.length
    omega
end
/-! sorted(a tuple) -/
section
variable {prog : Program} {w : World} {A : Around} {E : Value → Shared → Prop} {s : Shared}
theorem collect_tup {l : Addr} {vs : List Value} {Q : List Value → Shared → Prop} (hl : IsTup s.heap l vs.toArray)
    (h : Q vs { s with heap := (s.heap.push (seqObj "list" #[] 0)).update s.heap.objs.size (Obj.mapSeq (· ++ vs.toArray)) }) (hsz : vs.length ≤ sizeLine) :
    wpAny (model prog w) A (collect (.ref l)) Q E s := by
  obtain ⟨o, ho, hc, n, hd⟩ := id hl
  unfold collect
  refine wpAny_bind (wpAny_runValue (codeAny_builtin entry_proto_collect' ?_))
  show wpAny _ _ (do again (.builtin "list.__iadd__" ⟨[← newList [], .ref l], []⟩)) _ _ s
  refine wpAny_bind (wpAny_newList (wpAny_pure ⟨Code.quiet_builtin _ (by decide +kernel), codeAny_builtin entry_list_iadd' ?_⟩))
  show wpAny _ _ (Builtin.List.listExtendWith (.ref s.heap.objs.size) (.ref l) (.ref s.heap.objs.size)) _ _ { s with heap := s.heap.push (seqObj "list" #[] 0) }
  unfold Builtin.List.listExtendWith
  have ho' : (s.heap.push (seqObj "list" #[] 0)).get? l = some o := Heap.get?_push_of_some _ ho
  refine wpAny_bind (wpAny_typeOf (T := "tuple") ⟨o, ho', hc⟩ ?_)
  have ht : (Value.type "tuple" == Value.type "tuple") = true := by rfl
  rw [if_pos (by rw [ht]; simp)]
  refine wpAny_bind (listItems_at ho' hd ?_)
  refine wpAny_bind (listItems_at (xs := #[]) (n := 0) (Heap.get?_push_size _ rfl) rfl ?_)
  rw [if_neg (by simp)]
  refine wpAny_bind (listUpdate_at (xs := #[]) (n := 0) (Heap.get?_push_size _ rfl) rfl ?_ (Nat.zero_le _) (by show (#[] ++ vs.toArray).size ≤ sizeLine + 1; simp only [Array.size_append, List.size_toArray, List.length_nil]; omega))
  refine wpAny_pure ?_
  show wpAny (model prog w) A (do
      let o ← load s.heap.objs.size
      match o.data with
      | .seq xs _ => pure xs.toList
      | _ => unsupported "internal:collect") Q E { s with heap := (s.heap.push (seqObj "list" #[] 0)).update s.heap.objs.size (Obj.mapSeq (· ++ vs.toArray)) }
  refine wpAny_bind (wpAny_load (get?_update_seq (Heap.get?_push_size _ rfl) _) ?_)
  show wpAny _ _ (pure ((#[] : Array Value) ++ vs.toArray).toList) Q E _
  rw [show ((#[] : Array Value) ++ vs.toArray).toList = vs by simp]
  exact wpAny_pure h
theorem sorted_ordT {l : Addr} {vs : List Value} {ltv : Value → Value → Bool} {Q : Value → Shared → Prop} (O : SrtO.Swo ltv) (hl : IsTup s.heap l vs.toArray) (hz : vs.length ≤ sizeLine)
    (hS : 2 ≤ vs.length → ∀ (h₁ : Heap) (a : Addr), h₁.get? a = some (seqObj "list" vs.toArray 0) → (∀ b o, s.heap.get? b = some o → b ≠ a ∧ h₁.get? b = some o) → SrtO.SortableO prog w A.in1.in1 { s with heap := h₁ } a vs ltv)
    (h : ∀ out : List Value, SrtO.Srtd ltv out → SrtO.Stb ltv out vs → Q (.ref (s.heap.objs.size + 1)) { s with heap := sortedAll s.heap vs out.toArray }) :
    wpAny (model prog w) A (call (.builtin "sorted") [.ref l]) Q E s := by
  refine Calls.call_function_entry kind_sorted plain_sorted entry_sorted (args_sorted1 _) ?_
  unfold Builtin.«sorted»
  refine wpAny_bind (m := checkCount "sorted" 1 1 _) (wpAny_pure ?_)
  refine wpAny_bind (collect_tup hl ?_ hz)
  refine wpAny_bind (wpAny_newList ?_ hz)
  have hsz : ((s.heap.push (seqObj "list" #[] 0)).update s.heap.objs.size (Obj.mapSeq (· ++ vs.toArray))).objs.size = s.heap.objs.size + 1 := by
    rw [Heap.size_update, size_push']
  have hoL : (((s.heap.push (seqObj "list" #[] 0)).update s.heap.objs.size (Obj.mapSeq (· ++ vs.toArray))).push (seqObj "list" vs.toArray 0)).get? (s.heap.objs.size + 1) = some (seqObj "list" vs.toArray 0) := by
    rw [← hsz]; exact Heap.get?_push_size _ rfl
  have keep : ∀ b o, s.heap.get? b = some o → b ≠ s.heap.objs.size + 1 ∧ (((s.heap.push (seqObj "list" #[] 0)).update s.heap.objs.size (Obj.mapSeq (· ++ vs.toArray))).push (seqObj "list" vs.toArray 0)).get? b = some o := fun b o q => by
    have hlt : b < s.heap.objs.size := Heap.lt_size q
    refine ⟨Nat.ne_of_lt (Nat.lt_succ_of_lt hlt), Heap.get?_push_of_some _ ?_⟩
    rw [Heap.get?_update_ne _ _ _ _ (Nat.ne_of_lt hlt)]
    exact Heap.get?_push_of_some _ q
  show wpAny _ _ _ _ _ { s with heap := ((s.heap.push (seqObj "list" #[] 0)).update s.heap.objs.size (Obj.mapSeq (· ++ vs.toArray))).push (seqObj "list" vs.toArray 0) }
  rw [hsz]
  refine wpAny_bind (wpAny_holding (wpAny_call_entry slot_list_sort ⟨_, hoL, rfl⟩ entry_list_sort (SrtO.list_sort_ord O hoL hz (fun h2 => hS h2 _ _ hoL keep) fun out hs hb => ⟨_, rfl, ?_⟩) (args_list_sort _)))
  exact wpAny_pure ⟨_, rfl, h out hs hb⟩
end
section
variable {X : Cx}
/-- sorted(t), t a tuple of whole numbers -/
def rSortedIT (K : PySem.W.Frag) : List V → Hp → VK → Prop := fun vs H Q => ∃ (a : Addr) (ns : List Int), vs = [V.ref a] ∧ SqT K H a (ns.map V.int) ∧
  ∀ (ns' : List Int) (p : Addr), ns'.Perm ns → ns'.Pairwise (· ≤ ·) → H p = none → Q (.ref p) (upd H p (.lst (ns'.map V.int)))
theorem cr_sortedIT : CallR X (.builtin "sorted") (rSortedIT X.K) := by
  intro pins s σ H vs us Q I r h
  obtain ⟨a, ns, rfl, hs, q⟩ := h
  obtain ⟨its, rv, hl, hz⟩ := I.tuple hs
  rw [Vals.ref1 r]
  have hi := rv.ints
  refine sorted_ordT SrtO.swo_int hl (by rw [← rv.length]; exact hz) (fun h2 h₁ a' _ _ => SrtO.ints_sortable hi h2) fun out h1 h2 => ?_
  obtain ⟨k1, k2, k3⟩ := SrtO.ints_out hi h1 h2
  obtain ⟨ep, he'⟩ := PyProof.Rows.sortedAll_at s.heap its out.toArray
  have hlen : ((out.map SrtO.iv).map V.int).length ≤ sizeLine := by
    rw [List.length_map, k2.length_eq]
    rw [List.length_map] at hz
    exact hz
  exact ⟨.ref _, upd H (s.heap.objs.size + 1) (.lst ((out.map SrtO.iv).map V.int)), I.laid (t' := s.toks) (fun _ _ => PyProof.Rows.sortedAll_old) (Nat.le_succ _) ⟨hlen, out, ep, vals_of_ints k1, he'⟩, rfl, q _ _ k2 k3 (I.hok.fresh (Nat.le_succ _))⟩
end
end Dw

/-! The operations by values: what they ask and give, by data. -/
namespace Dw
open PySem PySem.Spec PyProof.Rows L2
section
variable {g : G} {H H' Hs Hs' : Hp}
/-- a result: a list is new and not in view, all else is in view -/
def FRep (g : G) (H Hs' H' : Hp) (v : V) (d : D) : Prop := (Rep g Hs' v d ∧ ∀ ds, d ≠ .lst ds) ∨ ∃ p vs ds, v = .ref p ∧ d = .lst ds ∧ H p = none ∧ Hs' p = none ∧ H' p = some (.lst vs) ∧ Reps g Hs' vs ds
theorem FRep.b {v : V} {d : D} (f : FRep g H Hs' H' v d) : BRep g Hs' H' v d := by
  rcases f with ⟨f, _⟩ | ⟨p, vs, ds, h1, h2, _, _, h5, h6⟩
  · exact .inl f
  · exact .inr ⟨p, vs, ds, h1, h2, h5, h6⟩
/-- a result comes in view -/
theorem FRep.seen {v : V} {d : D} (f : FRep g H Hs' H' v d) (e : Ext Hs H Hs' H') : ∃ Hs'', Ext Hs H Hs'' H' ∧ Rep g Hs'' v d := by
  rcases f with ⟨f, _⟩ | ⟨p, vs, ds, rfl, rfl, h3, h4, h5, h6⟩
  · exact ⟨Hs', e, f⟩
  · refine ⟨_, e.show_ h5 h3 h4, .lst (.inl (.inl upd_same)) (h6.mono (same_upd h4))⟩
/-- what is wanted of a result -/
def PR (g : G) (Hs H : Hp) (d : D) (Q : VK) : Prop := ∀ v Hs' H', Ext Hs H Hs' H' → FRep g H Hs' H' v d → Q v H'
def PV (g : G) (Hs H : Hp) (d : D) (Q : VK) : Prop := ∀ v Hs' H', Ext Hs H Hs' H' → Rep g Hs' v d → Q v H'
def PO' (g : G) (Hs H : Hp) (d : D) (Q : VK) : Prop := ∀ v Hs' H', Ext Hs H Hs' H' → BRep g Hs' H' v d → Q v H'
theorem PR.here {v : V} {d : D} {Q : VK} (q : PR g Hs H d Q) (e : Same Hs H) (r : Rep g Hs v d) (n : ∀ ds, d ≠ .lst ds) : Q v H := q v Hs H (Ext.refl e) (.inl ⟨r, n⟩)
theorem PR.list {vs : List V} {ds : List D} {Q : VK} (q : PR g Hs H (.lst ds) Q) (e : Same Hs H) (r : Reps g Hs vs ds) : ∀ p, H p = none → Q (.ref p) (upd H p (.lst vs)) := fun p n =>
  q _ Hs _ (Ext.newOut e n) (.inr ⟨p, vs, ds, rfl, rfl, n, e.free n, upd_same, r⟩)
theorem PR.tuple {vs : List V} {ds : List D} {Q : VK} (q : PR g Hs H (.tup ds) Q) (e : Same Hs H) (r : Reps g Hs vs ds) : ∀ p, H p = none → Q (.ref p) (upd H p (.tup vs)) := fun p n =>
  q _ _ _ (Ext.new e n) (.inl ⟨.tup (.inl (.inl upd_same)) (r.mono (same_upd (e.free n))), fun _ z => nomatch z⟩)

/-- a two-place operation by data -/
def rD2 (g : G) (f : D → D → M D) : R2 := fun x y H Q => ∃ Hs a b, Same Hs H ∧ BRep g Hs H x a ∧ BRep g Hs H y b ∧ holds (f a b) (fun d => PR g Hs H d Q) fun _ => True

theorem mulB_log {i : Int} (h : i.natAbs < mulB) : i.natAbs.log2 < 2000 := PySem.Flt.log2_lt_of (by decide) h
theorem mulB_bits {i : Int} (h : i.natAbs < mulB) : Builtin.Int.intBits i ≤ 2000 := PyProof.Rows.intBits_le h
theorem mul_ok {i j : Int} (h : mulOk i j = true) : IntMulOk i j := by
  unfold mulOk at h
  simp only [Bool.or_eq_true, Bool.and_eq_true, decide_eq_true_eq] at h
  rcases h with (⟨h1, h2⟩ | h) | h
  · exact CMulX.ok (mulx_ok (a := 2000) (b := 2000) h1 h2 (by decide))
  · exact CMul.ok (.inl (by omega))
  · exact CMul.ok (.inr (by omega))
end
section
variable {X : Cx} {g : G}
/-- two lists, whatever they are -/
theorem op_catQ : OpR X (binaryOp .Add) (fun x y H Q => ∃ l b xs zs, x = .ref l ∧ y = .ref b ∧ SqL X.K H l xs ∧ SqL X.K H b zs ∧ xs.length + zs.length ≤ sizeLine ∧ ∀ p, H p = none → Q (.ref p) (upd H p (.lst (xs ++ zs)))) := by
  intro pins s σ H x y v u Q I rx ry h
  obtain ⟨l, b, xs, zs, rfl, rfl, hH, hB, hz, q⟩ := h
  cases rx
  cases ry
  obtain ⟨its, r, hl, _⟩ := I.list hH
  obtain ⟨its2, r2, hl2, _⟩ := I.list hB
  obtain ⟨⟨cls, dd, data, sl⟩, ho, hc, n, hd⟩ := id hl.isList
  obtain ⟨⟨cls2, dd2, data2, sl2⟩, ho2, hc2, n2, hd2⟩ := id hl2.isList
  simp only at hc hd hc2 hd2
  subst hc hd hc2 hd2
  have e : its.toArray ++ its2.toArray = (its ++ its2).toArray := by simp
  have z1 := r.length
  have z2 := r2.length
  refine concat_meets ⟨_, ho, rfl⟩ ⟨_, ho2, rfl⟩ noFill_list_add seq_list_add PySem.F.slot_list_add PySem.F.entry_list_add (PySem.F.args_list_add_2 _ _) (list_addW l b its.toArray its2.toArray n n2 dd dd2 sl sl2 (by simp; omega)) ⟨ho, ho2, ?_⟩
  rw [e]
  exact ⟨.ref _, _, I.lnew (t' := s.toks) (r.append r2) (by rw [List.length_append]; omega), rfl, q _ I.fresh⟩

theorem bin_ok (hK : X.K = g.K) (op : Bop) (o : Operator) (ho : bopOk op o = true) : OpR X (binaryOp o) (rD2 g (binD op)) := by
  intro pins s σ H x y v u Q I rx ry h
  obtain ⟨Hs, a, b, sub, ba, bb, h⟩ := h
  unfold binD at h
  cases op <;> cases o <;> simp only [bopOk, Bool.false_eq_true] at ho
  case add.Add =>
    split at h <;> first | exact h.elim | skip
    all_goals (rename_i heq; try cases heq)
    · cases ba.rint; cases bb.rint
      exact op_add pins s σ H _ _ v u Q I rx ry ⟨_, _, rfl, rfl, PR.here h sub (.int _) (fun _ z => nomatch z)⟩
    · rename_i xs ys
      obtain ⟨hf, h⟩ := holds_gd h
      obtain ⟨p, vs, rfl, s1, r1⟩ := ba.tuple sub
      obtain ⟨p2, vs2, rfl, s2, r2⟩ := bb.tuple sub
      have l1 := r1.length
      have l2 := r2.length
      have hf : xs.length + ys.length ≤ sizeLine := of_decide_eq_true hf
      rw [← hK] at s1 s2
      refine op_catA pins s σ H _ _ v u Q I rx ry ⟨p, p2, vs, vs2, rfl, rfl, s1, s2, by omega, fun e => ?_, fun e1 e2 => ?_, fun e1 e2 => ?_⟩
      · subst e; cases r1
        refine h _ Hs H (Ext.refl sub) (.inl ⟨?_, fun _ z => nomatch z⟩)
        rcases bb with bb | ⟨_, _, _, _, z, _⟩
        · exact bb
        · cases z
      · subst e2; cases r2
        rw [List.append_nil] at h
        refine h _ Hs H (Ext.refl sub) (.inl ⟨?_, fun _ z => nomatch z⟩)
        rcases ba with ba | ⟨_, _, _, _, z, _⟩
        · exact ba
        · cases z
      · exact PR.tuple h sub (r1.append r2)
    · rename_i xs ys
      obtain ⟨hf, h⟩ := holds_gd h
      obtain ⟨p, vs, rfl, s1, r1⟩ := ba.list sub
      obtain ⟨p2, vs2, rfl, s2, r2⟩ := bb.list sub
      have l1 := r1.length
      have l2 := r2.length
      have hf : xs.length + ys.length ≤ sizeLine := of_decide_eq_true hf
      rw [← hK] at s1 s2
      exact op_catQ pins s σ H _ _ v u Q I rx ry ⟨p, p2, vs, vs2, rfl, rfl, s1, s2, by omega, PR.list h sub (r1.append r2)⟩
    · obtain ⟨hf, h⟩ := holds_gd h
      cases ba.rstr; cases bb.rstr
      exact op_add_str pins s σ H _ _ v u Q I rx ry ⟨_, _, rfl, rfl, of_decide_eq_true hf, PR.here h sub (.str _) (fun _ z => nomatch z)⟩
  case sub.Sub =>
    split at h <;> first | exact h.elim | skip
    all_goals (rename_i heq; try cases heq)
    cases ba.rint; cases bb.rint
    exact op_sub pins s σ H _ _ v u Q I rx ry ⟨_, _, rfl, rfl, PR.here h sub (.int _) (fun _ z => nomatch z)⟩
  all_goals
    (split at h <;> first | exact h.elim | skip
     all_goals (rename_i heq; try cases heq)
     cases ba.rint; cases bb.rint)
  case h_6.refl.refl.refl => obtain ⟨hf, h⟩ := holds_gd h; exact opI (C := fun i j => IntMulOk i j) (g := fun i j => i * j) (fun _ _ _ _ _ _ _ hc q => mul_int q hc) pins s σ H _ _ v u Q I rx ry ⟨_, _, rfl, rfl, mul_ok hf, PR.here h sub (.int _) (fun _ z => nomatch z)⟩
  case h_8.refl.refl.refl =>
    obtain ⟨hf, h⟩ := holds_gd h
    unfold divOk at hf
    simp only [Bool.and_eq_true, Bool.not_eq_true', decide_eq_false_iff_not, decide_eq_true_eq] at hf
    exact opI (C := fun _ j => j ≠ 0 ∧ j.natAbs < mulB) (g := fun i j => i.fdiv j) (fun _ _ _ _ _ _ _ hc q => floordiv_int hc.1 q (.inl (PyProof.noPylong_of_log2 (Nat.lt_trans (mulB_log hc.2) (by decide))))) pins s σ H _ _ v u Q I rx ry ⟨_, _, rfl, rfl, hf, PR.here h sub (.int _) (fun _ z => nomatch z)⟩
  case h_9.refl.refl.refl =>
    obtain ⟨hf, h⟩ := holds_gd h
    simp only [Bool.not_eq_true', decide_eq_false_iff_not] at hf
    exact op_modN pins s σ H _ _ v u Q I rx ry ⟨_, _, rfl, rfl, hf, PR.here h sub (.int _) (fun _ z => nomatch z)⟩
  case h_10.refl.refl.refl =>
    obtain ⟨hf, h⟩ := holds_gd h
    unfold powOk at hf
    simp only [Bool.and_eq_true, Bool.or_eq_true, decide_eq_true_eq] at hf
    obtain ⟨h0, hf | hf⟩ := hf
    · exact op_pow pins s σ H _ _ v u Q I rx ry ⟨_, _, rfl, rfl, ⟨h0, hf.1, hf.2⟩, PR.here h sub (.int _) (fun _ z => nomatch z)⟩
    · have b := mulB_bits hf.2
      rename_i i j _
      have hsz : (Builtin.Int.intBits i : Int) * j ≤ 2 ^ 27 := by
        have h1 : (Builtin.Int.intBits i : Int) * j ≤ (Builtin.Int.intBits i : Int) * 60000 := Int.mul_le_mul_of_nonneg_left hf.1 (by omega)
        rw [show (2 : Int) ^ 27 = 134217728 by decide]; omega
      exact opI (C := fun i j => 0 ≤ j ∧ (Builtin.Int.intBits i : Int) * j ≤ 2 ^ 27) (g := fun i j => i ^ j.toNat) (fun _ _ _ _ _ _ _ hc q => PyProof.Rows.pow_int hc.1 hc.2 q) pins s σ H _ _ v u Q I rx ry ⟨_, _, rfl, rfl, ⟨h0, hsz⟩, PR.here h sub (.int _) (fun _ z => nomatch z)⟩
  case h_11.refl.refl.refl =>
    obtain ⟨hf, h⟩ := holds_gd h
    unfold shlOk at hf
    simp only [Bool.and_eq_true, decide_eq_true_eq] at hf
    obtain ⟨⟨h1, h2⟩, h3⟩ := hf
    have b := mulB_bits h3
    exact op_shlW pins s σ H _ _ v u Q I rx ry ⟨_, _, rfl, rfl, ⟨h1, by rw [show (2 : Int) ^ 27 = 134217728 by decide]; omega⟩, PR.here h sub (.int _) (fun _ z => nomatch z)⟩
  case h_12.refl.refl.refl =>
    obtain ⟨hf, h⟩ := holds_gd h
    exact op_shr pins s σ H _ _ v u Q I rx ry ⟨_, _, rfl, rfl, of_decide_eq_true hf, PR.here h sub (.int _) (fun _ z => nomatch z)⟩
  case h_13.refl.refl.refl => exact op_and pins s σ H _ _ v u Q I rx ry ⟨_, _, rfl, rfl, PR.here h sub (.int _) (fun _ z => nomatch z)⟩
  case h_14.refl.refl.refl => exact op_or pins s σ H _ _ v u Q I rx ry ⟨_, _, rfl, rfl, PR.here h sub (.int _) (fun _ z => nomatch z)⟩
  case h_15.refl.refl.refl => exact op_xor pins s σ H _ _ v u Q I rx ry ⟨_, _, rfl, rfl, PR.here h sub (.int _) (fun _ z => nomatch z)⟩

/-! ### == of data -/
theorem eq_toPy : ∀ (a b : D), (∀ c fs, a ≠ .ins c fs) → (∀ c fs, b ≠ .ins c fs) → True := fun _ _ _ _ => trivial
mutual
theorem eqD_py : ∀ (n : Nat) (a b : D), plainD n a = true → ∀ m, plainD m b = true → PyData.eqv (toPy a) (toPy b) = eqD a b
  | n, a, b, ha, m, hb => by
    cases a <;> cases b <;> first | rfl | skip
    all_goals (try (simp only [plainD, Bool.false_eq_true] at ha)); all_goals (try (simp only [plainD, Bool.false_eq_true] at hb))
    all_goals (first | (cases n <;> simp only [plainD, Bool.false_eq_true] at ha) | skip)
    all_goals (first | (cases m <;> simp only [plainD, Bool.false_eq_true] at hb) | skip)
    all_goals (first
      | (simp only [toPy, PyData.eqv, eqD]; exact eqDs_py _ _ _ ha _ hb)
      | (simp only [toPy, PyData.eqv, eqD]))
theorem eqDs_py : ∀ (n : Nat) (xs ys : List D), xs.all (plainD n) = true → ∀ m, ys.all (plainD m) = true → PyData.eqvAll (toPys xs) (toPys ys) = eqDs xs ys
  | _, [], [], _, _, _ => by simp only [toPys, PyData.eqvAll, eqDs]
  | _, [], _ :: _, _, _, _ => by simp only [toPys, PyData.eqvAll, eqDs]
  | _, _ :: _, [], _, _, _ => by simp only [toPys, PyData.eqvAll, eqDs]
  | n, x :: xs, y :: ys, hx, m, hy => by
    rw [List.all_cons, Bool.and_eq_true] at hx hy
    simp only [toPys, PyData.eqvAll, eqDs]
    rw [eqD_py n x y hx.1 m hy.1, eqDs_py n xs ys hx.2 m hy.2]
end
mutual
theorem plain_lay : ∀ (n : Nat) (a : D), plainD n a = true → PyData.canLay0 (toPy a) = true ∧ PyData.depth (toPy a) ≤ n + 1
  | n, .non, _ => ⟨by simp only [toPy, PyData.canLay0], by simp only [toPy, PyData.depth]; omega⟩
  | n, .bl _, _ => ⟨by simp only [toPy, PyData.canLay0], by simp only [toPy, PyData.depth]; omega⟩
  | n, .int _, _ => ⟨by simp only [toPy, PyData.canLay0], by simp only [toPy, PyData.depth]; omega⟩
  | n, .str x, h => ⟨by (simp only [toPy, PyData.canLay0]; simpa only [plainD] using h), by simp only [toPy, PyData.depth]; omega⟩
  | 0, .tup xs, h => by simp only [plainD, Bool.false_eq_true] at h
  | 0, .lst xs, h => by simp only [plainD, Bool.false_eq_true] at h
  | n + 1, .tup xs, h => by
    have q := plain_lays n xs (by simpa only [plainD] using h)
    exact ⟨by simp only [toPy, PyData.canLay0]; exact q.1, by simp only [toPy, PyData.depth]; have := q.2; omega⟩
  | n + 1, .lst xs, h => by
    have q := plain_lays n xs (by simpa only [plainD] using h)
    exact ⟨by simp only [toPy, PyData.canLay0]; exact q.1, by simp only [toPy, PyData.depth]; have := q.2; omega⟩
  | 0, .ins _ _, h => by simp only [plainD, Bool.false_eq_true] at h
  | n + 1, .ins _ _, h => by simp only [plainD, Bool.false_eq_true] at h
theorem plain_lays : ∀ (n : Nat) (xs : List D), xs.all (plainD n) = true → PyData.canLayAll0 (toPys xs) = true ∧ PyData.depthAll (toPys xs) ≤ n + 1
  | n, [], _ => ⟨by simp only [toPys, PyData.canLayAll0], by simp only [toPys, PyData.depthAll]; omega⟩
  | n, x :: xs, h => by
    rw [List.all_cons, Bool.and_eq_true] at h
    have q := plain_lay n x h.1
    have q2 := plain_lays n xs h.2
    refine ⟨by simp only [toPys, PyData.canLayAll0, Bool.and_eq_true]; exact ⟨q.1, q2.1⟩, by simp only [toPys, PyData.depthAll]; have := q.2; have := q2.2; omega⟩
end
mutual
theorem dp_of {H : Hp} : ∀ {v : V} {d : D} (n : Nat), plainD n d = true → Rep g H v d → Dp g.K H v (toPy d)
  | _, _, _, _, .non => .non
  | _, _, _, _, .bl b => .bl b
  | _, _, _, _, .int i => .int i
  | _, _, _, _, .str x => .str x
  | _, _, 0, h, .tup _ _ => by simp only [plainD, Bool.false_eq_true] at h
  | _, _, 0, h, .lst _ _ => by simp only [plainD, Bool.false_eq_true] at h
  | _, _, n + 1, h, .tup s r => by simp only [toPy]; exact .tup s (dps_of n (by simpa only [plainD] using h) r)
  | _, _, n + 1, h, .lst s r => by simp only [toPy]; exact .lst s (dps_of n (by simpa only [plainD] using h) r)
  | _, _, 0, h, .ins _ _ _ => by simp only [plainD, Bool.false_eq_true] at h
  | _, _, n + 1, h, .ins _ _ _ => by simp only [plainD, Bool.false_eq_true] at h
theorem dps_of {H : Hp} : ∀ {vs : List V} {ds : List D} (n : Nat), ds.all (plainD n) = true → Reps g H vs ds → DpAll g.K H vs (toPys ds)
  | _, _, _, _, .nil => .nil
  | _, _, n, h, .cons r t => by
    rw [List.all_cons, Bool.and_eq_true] at h
    exact .cons (dp_of n h.1 r) (dps_of n h.2 t)
end
theorem flat_of {Hs H : Hp} {v : V} {d : D} (b : BRep g Hs H v d) (f : flatD d = true) : flatV v = true := by
  cases d <;> simp only [flatD, Bool.false_eq_true] at f
  · cases b.rnon; rfl
  · cases b.rbl; rfl
  · cases b.rint; rfl
  · cases b.rstr; rfl
theorem flat_eq {Hs H : Hp} {v w : V} {d e : D} (b : BRep g Hs H v d) (f : flatD d = true) (b2 : BRep g Hs H w e) (f2 : flatD e = true) : eqV v w = eqD d e := by
  cases d <;> simp only [flatD, Bool.false_eq_true] at f <;> cases e <;> simp only [flatD, Bool.false_eq_true] at f2
  all_goals (first | cases b.rnon | cases b.rbl | cases b.rint | cases b.rstr)
  all_goals (first | cases b2.rnon | cases b2.rbl | cases b2.rint | cases b2.rstr)
  all_goals (simp only [eqV, eqD])
end
end Dw

namespace Dw
open PySem PySem.Spec PyProof.Rows L2
section
variable {X : Cx} {g : G}
theorem PR.bool {g : G} {Hs H : Hp} {b : Bool} {Q : VK} (q : PR g Hs H (.bl b) Q) (e : Same Hs H) : Q (.bl b) H := q.here e (.bl b) (fun _ z => nomatch z)
theorem PR.int {g : G} {Hs H : Hp} {b : Int} {Q : VK} (q : PR g Hs H (.int b) Q) (e : Same Hs H) : Q (.int b) H := q.here e (.int b) (fun _ z => nomatch z)
theorem BRep.seq {g : G} {Hs H : Hp} {v : V} {d : D} {ys : List D} (b : BRep g Hs H v d) (e : Same Hs H) (h : seqOf d = some ys) : ∃ p vs, v = .ref p ∧ (SqL g.K H p vs ∨ SqT g.K H p vs) ∧ Reps g Hs vs ys := by
  cases d <;> simp only [seqOf, Option.some.injEq, reduceCtorEq] at h
  · subst h
    obtain ⟨p, vs, h1, h2, h3⟩ := b.tuple e
    exact ⟨p, vs, h1, .inr h2, h3⟩
  · subst h
    obtain ⟨p, vs, h1, h2, h3⟩ := b.list e
    exact ⟨p, vs, h1, .inl h2, h3⟩
theorem flats {g : G} {Hs H : Hp} : ∀ {vs : List V} {ds : List D}, Reps g Hs vs ds → ds.all flatD = true → vs.all flatV = true
  | _, _, .nil, _ => rfl
  | _, _, .cons r t, h => by
    rw [List.all_cons, Bool.and_eq_true] at h
    rw [List.all_cons, Bool.and_eq_true]
    exact ⟨flat_of (H := H) (.inl r) h.1, flats (H := H) t h.2⟩
theorem in_eq {g : G} {Hs H : Hp} {v : V} {d : D} (b : BRep g Hs H v d) (f : flatD d = true) : ∀ {vs : List V} {ds : List D}, Reps g Hs vs ds → ds.all flatD = true → inV v vs = inD d ds
  | _, _, .nil, _ => rfl
  | _, _, .cons r t, h => by
    rw [List.all_cons, Bool.and_eq_true] at h
    unfold inV inD
    rw [List.any_cons, List.any_cons, flat_eq (H := H) (.inl r) h.1 b f]
    have := in_eq b f t h.2
    unfold inV inD at this
    rw [this]
theorem intsOf_reps {g : G} {Hs : Hp} : ∀ {vs : List V} {ds : List D} {ns : List Int}, Reps g Hs vs ds → intsOf ds = some ns → vs = ns.map V.int ∧ ds = ns.map D.int
  | _, _, _, .nil, h => by
    simp only [intsOf, Option.some.injEq] at h
    subst h; exact ⟨rfl, rfl⟩
  | _, d :: ds, ns, .cons r t, h => by
    cases d <;> simp only [intsOf, reduceCtorEq] at h
    cases e : intsOf ds with
    | none => rw [e] at h; cases h
    | some l =>
      rw [e] at h
      cases h
      cases r
      obtain ⟨h1, h2⟩ := intsOf_reps t e
      subst h1
      exact ⟨rfl, by rw [h2]; rfl⟩
theorem blsOf_reps {g : G} {Hs : Hp} : ∀ {vs : List V} {ds : List D} {ns : List Bool}, Reps g Hs vs ds → blsOf ds = some ns → vs = ns.map V.bl
  | _, _, _, .nil, h => by
    simp only [blsOf, Option.some.injEq] at h
    subst h; rfl
  | _, d :: ds, ns, .cons r t, h => by
    cases d <;> simp only [blsOf, reduceCtorEq] at h
    cases e : blsOf ds with
    | none => rw [e] at h; cases h
    | some l =>
      rw [e] at h
      cases h
      cases r
      have h1 := blsOf_reps t e
      subst h1
      rfl
theorem cmp_ok (hK : X.K = g.K) (hu : X.A.units + 64 < cLine) (op : Cop) (o : CmpOp) (ho : copOk op o = true) : OpR X (compareOp o) (rD2 g (cmpD op)) := by
  intro pins s σ H x y v u Q I rx ry h
  obtain ⟨Hs, a, b, sub, ba, bb, h⟩ := h
  unfold cmpD at h
  cases op <;> cases o <;> simp only [copOk, Bool.false_eq_true] at ho
  case eq.Eq =>
    simp only at h
    obtain ⟨hf, h⟩ := holds_gd h
    rw [Bool.and_eq_true] at hf
    have l1 := plain_lay 60 a hf.1
    have l2 := plain_lay 60 b hf.2
    have d1 : Dp X.K H x (toPy a) := by rw [hK]; exact dp_of 60 hf.1 (ba.rep sub)
    have d2 : Dp X.K H y (toPy b) := by rw [hK]; exact dp_of 60 hf.2 (bb.rep sub)
    refine op_eqD hu pins s σ H _ _ v u Q I rx ry ⟨_, _, d1, d2, ?_, ?_, ?_⟩
    · unfold SeqAt.shaped; rw [l1.1, decide_eq_true (show (toPy a).depth ≤ 64 by omega)]; rfl
    · unfold SeqAt.shaped; rw [l2.1, decide_eq_true (show (toPy b).depth ≤ 64 by omega)]; rfl
    · rw [eqD_py 60 a b hf.1 60 hf.2]; exact h.bool sub
  case ne.NotEq =>
    simp only at h
    obtain ⟨hf, h⟩ := holds_gd h
    rw [Bool.and_eq_true] at hf
    have l1 := plain_lay 60 a hf.1
    have l2 := plain_lay 60 b hf.2
    have d1 : Dp X.K H x (toPy a) := by rw [hK]; exact dp_of 60 hf.1 (ba.rep sub)
    have d2 : Dp X.K H y (toPy b) := by rw [hK]; exact dp_of 60 hf.2 (bb.rep sub)
    refine op_neD hu pins s σ H _ _ v u Q I rx ry ⟨_, _, d1, d2, ?_, ?_, ?_⟩
    · unfold SeqAt.shaped; rw [l1.1, decide_eq_true (show (toPy a).depth ≤ 64 by omega)]; rfl
    · unfold SeqAt.shaped; rw [l2.1, decide_eq_true (show (toPy b).depth ≤ 64 by omega)]; rfl
    · rw [eqD_py 60 a b hf.1 60 hf.2]; exact h.bool sub
  case lt.Lt =>
    split at h <;> first | exact h.elim | skip
    all_goals (rename_i heq; try cases heq)
    · cases ba.rint; cases bb.rint
      exact op_lt pins s σ H _ _ v u Q I rx ry ⟨_, _, rfl, rfl, h.bool sub⟩
    · split at h <;> first | exact h.elim | skip
      rename_i ns ms e1 e2
      obtain ⟨p, vs, rfl, s1, r1⟩ := ba.tuple sub
      obtain ⟨p2, vs2, rfl, s2, r2⟩ := bb.tuple sub
      obtain ⟨rfl, _⟩ := intsOf_reps r1 e1
      obtain ⟨rfl, _⟩ := intsOf_reps r2 e2
      rw [← hK] at s1 s2
      exact op_ltT (by omega) pins s σ H _ _ v u Q I rx ry ⟨_, _, _, _, rfl, rfl, s1, s2, h.bool sub⟩
  case le.LtE =>
    split at h <;> first | exact h.elim | skip
    all_goals (rename_i heq; try cases heq)
    cases ba.rint; cases bb.rint
    exact op_le pins s σ H _ _ v u Q I rx ry ⟨_, _, rfl, rfl, h.bool sub⟩
  case gt.Gt =>
    split at h <;> first | exact h.elim | skip
    all_goals (rename_i heq; try cases heq)
    cases ba.rint; cases bb.rint
    exact op_gt pins s σ H _ _ v u Q I rx ry ⟨_, _, rfl, rfl, h.bool sub⟩
  case ge.GtE =>
    split at h <;> first | exact h.elim | skip
    all_goals (rename_i heq; try cases heq)
    cases ba.rint; cases bb.rint
    exact op_ge pins s σ H _ _ v u Q I rx ry ⟨_, _, rfl, rfl, h.bool sub⟩
  case isn.Is =>
    cases b <;> first | exact False.elim h | skip
    cases bb.rnon
    have e : decide (x = .non) = isNon a := by
      rcases ba with ba | ⟨_, _, _, z, z2, _⟩
      · cases ba <;> rfl
      · subst z z2; rfl
    refine op_isN pins s σ H _ _ v u Q I rx ry ⟨rfl, ?_⟩
    rw [e]; exact PR.bool h sub
  case nisn.IsNot =>
    cases b <;> first | exact False.elim h | skip
    cases bb.rnon
    have e : decide (x = .non) = isNon a := by
      rcases ba with ba | ⟨_, _, _, z, z2, _⟩
      · cases ba <;> rfl
      · subst z z2; rfl
    refine op_notN pins s σ H _ _ v u Q I rx ry ⟨rfl, ?_⟩
    rw [e]; exact PR.bool h sub
  case isb.Is =>
    cases a <;> cases b <;> first | exact False.elim h | skip
    cases ba.rbl; cases bb.rbl
    exact op_isBl pins s σ H _ _ v u Q I rx ry ⟨_, _, rfl, rfl, PR.bool h sub⟩
  case nisb.IsNot =>
    cases a <;> cases b <;> first | exact False.elim h | skip
    cases ba.rbl; cases bb.rbl
    exact op_notBl pins s σ H _ _ v u Q I rx ry ⟨_, _, rfl, rfl, PR.bool h sub⟩
  case inn.In =>
    simp only at h
    split at h <;> first | exact h.elim | skip
    rename_i ys e
    obtain ⟨hf, h⟩ := holds_gd h
    rw [Bool.and_eq_true] at hf
    obtain ⟨p, vs, rfl, s1, r1⟩ := bb.seq sub e
    rw [← hK] at s1
    refine op_in_seq pins s σ H _ _ v u Q I rx ry ⟨p, vs, rfl, s1, flat_of ba hf.1, flats (H := H) r1 hf.2, ?_⟩
    rw [in_eq ba hf.1 r1 hf.2]; exact h.bool sub
  case nin.NotIn =>
    simp only at h
    split at h <;> first | exact h.elim | skip
    rename_i ys e
    obtain ⟨hf, h⟩ := holds_gd h
    rw [Bool.and_eq_true] at hf
    obtain ⟨p, vs, rfl, s1, r1⟩ := bb.seq sub e
    rw [← hK] at s1
    refine op_notIn_seq pins s σ H _ _ v u Q I rx ry ⟨p, vs, rfl, s1, flat_of ba hf.1, flats (H := H) r1 hf.2, ?_⟩
    rw [in_eq ba hf.1 r1 hf.2]; exact h.bool sub

/-! ### items, slices -/
/-- an item is in view, whatever it is -/
def rIxD (g : G) : R2 := fun x y H Q => ∃ Hs a b, Same Hs H ∧ BRep g Hs H x a ∧ BRep g Hs H y b ∧ holds (idxD a b) (fun d => PV g Hs H d Q) fun _ => True
theorem atI_reps {g : G} {Hs : Hp} {vs : List V} {ds : List D} {i : Int} {d : D} (r : Reps g Hs vs ds) (h : atI ds i = some d) : ∃ v, atI vs i = some v ∧ Rep g Hs v d := by
  unfold atI at h ⊢
  rw [r.length]
  cases e : ixN ds.length i with
  | none => rw [e] at h; cases h
  | some j =>
    rw [e] at h
    exact r.get h
theorem ix_ok (hK : X.K = g.K) : IxR X (rIxD g) := by
  intro value slice pins s σ H x y v u Q I rx ry h hs
  obtain ⟨Hs, a, b, sub, ba, bb, h⟩ := h
  unfold idxD at h
  split at h <;> first | exact h.elim | skip
  · cases bb.rint
    split at h <;> first | exact h.elim | skip
    rename_i d e
    obtain ⟨p, vs, rfl, s1, r1⟩ := ba.tuple sub
    obtain ⟨w, hw, rw_⟩ := atI_reps r1 e
    rw [← hK] at s1
    exact ix_tup value slice pins s σ H _ _ v u Q I rx ry ⟨p, vs, _, w, rfl, rfl, s1, hw, h w Hs H (Ext.refl sub) rw_⟩ hs
  · cases bb.rint
    split at h <;> first | exact h.elim | skip
    rename_i d e
    obtain ⟨p, vs, rfl, s1, r1⟩ := ba.list sub
    obtain ⟨w, hw, rw_⟩ := atI_reps r1 e
    rw [← hK] at s1
    exact ix_list value slice pins s σ H _ _ v u Q I rx ry ⟨p, vs, _, w, rfl, rfl, s1, hw, h w Hs H (Ext.refl sub) rw_⟩ hs
def rSlD (g : G) : V → Option Int → Option Int → Hp → VK → Prop := fun x lo hi H Q => ∃ Hs a, Same Hs H ∧ BRep g Hs H x a ∧ holds (slcD a lo hi) (fun d => PR g Hs H d Q) fun _ => True
theorem cut_reps {g : G} {Hs : Hp} {vs : List V} {ds : List D} (r : Reps g Hs vs ds) (lo hi : Option Int) : Reps g Hs (cutV vs lo hi) (cutD ds lo hi) := by
  unfold cutV cutD
  rw [r.length]
  exact (r.drop _).take _
theorem sl_ok (hK : X.K = g.K) : SlR X (rSlD g) := by
  intro pins s σ H x v vl vu lo hi sl Q I rx hs pl pu h
  obtain ⟨Hs, a, sub, ba, h⟩ := h
  unfold slcD at h
  split at h <;> first | exact h.elim | skip
  · rename_i ds
    obtain ⟨p, vs, rfl, s1, r1⟩ := ba.tuple sub
    have rc := cut_reps r1 lo hi
    rw [← hK] at s1
    refine sl_tupA pins s σ H _ v vl vu lo hi sl Q I rx hs pl pu ⟨p, vs, rfl, s1, fun e => ?_, fun e => PR.tuple h sub rc⟩
    have e2 : cutD ds lo hi = ds := by
      unfold cutD
      rw [← r1.length, e.1, e.2, r1.length]
      simp
    rw [e2] at h
    refine h _ Hs H (Ext.refl sub) (.inl ⟨?_, fun _ z => nomatch z⟩)
    rcases ba with ba | ⟨_, _, _, _, z, _⟩
    · exact ba
    · cases z
  · rename_i ds
    obtain ⟨p, vs, rfl, s1, r1⟩ := ba.list sub
    have rc := cut_reps r1 lo hi
    rw [← hK] at s1
    exact sl_list pins s σ H _ v vl vu lo hi sl Q I rx hs pl pu ⟨p, vs, rfl, s1, PR.list h sub rc⟩
end
end Dw

namespace Dw
open PySem PySem.Spec PyProof.Rows L2
section
variable {X : Cx} {g : G}
/-- a call by data -/
def rDn (g : G) (f : List D → M D) : List V → Hp → VK → Prop := fun xs H Q => ∃ Hs ds, Same Hs H ∧ BReps g Hs H xs ds ∧ holds (f ds) (fun d => PR g Hs H d Q) fun _ => True
theorem BReps.one {Hs H : Hp} {vs : List V} {d : D} (r : BReps g Hs H vs [d]) : ∃ v, vs = [v] ∧ BRep g Hs H v d := by
  cases r with
  | cons b t => cases t; exact ⟨_, rfl, b⟩
theorem BReps.two {Hs H : Hp} {vs : List V} {d e : D} (r : BReps g Hs H vs [d, e]) : ∃ v w, vs = [v, w] ∧ BRep g Hs H v d ∧ BRep g Hs H w e := by
  cases r with
  | cons b t =>
    obtain ⟨w, rfl, b2⟩ := t.one
    exact ⟨_, _, rfl, b, b2⟩
theorem BReps.three {Hs H : Hp} {vs : List V} {d e f : D} (r : BReps g Hs H vs [d, e, f]) : ∃ v w u, vs = [v, w, u] ∧ BRep g Hs H v d ∧ BRep g Hs H w e ∧ BRep g Hs H u f := by
  cases r with
  | cons b t =>
    obtain ⟨w, u, rfl, b2, b3⟩ := t.two
    exact ⟨_, _, _, rfl, b, b2, b3⟩
theorem vals3 {x y z : V} {us : List Value} (r : Vals [x, y, z] us) : ∃ u w t, us = [u, w, t] ∧ RelV x u ∧ RelV y w ∧ RelV z t := by
  cases r with
  | cons r1 r2 =>
    obtain ⟨w, t, rfl, r3, r4⟩ := vals2 r2
    exact ⟨_, _, _, rfl, r1, r3, r4⟩
def biName : Bi → Str
  | .len => "len" | .min2 => "min" | .max2 => "max" | .min3 => "min" | .max3 => "max" | .min1 => "min" | .max1 => "max" | .sum => "sum" | .abs => "abs" | .tup => "tuple" | .lst => "list" | .int => "int" | .any => "any" | .all => "all" | .sor => "sorted"
def biVal : Bi → Value
  | .len => .builtin "len" | .min2 => .builtin "min" | .max2 => .builtin "max" | .min3 => .builtin "min" | .max3 => .builtin "max" | .min1 => .builtin "min" | .max1 => .builtin "max" | .sum => .builtin "sum" | .abs => .builtin "abs"
  | .tup => .type "tuple" | .lst => .type "list" | .int => .type "int" | .any => .builtin "any" | .all => .builtin "all" | .sor => .builtin "sorted"

theorem minOf_spec : ∀ (ns : List Int) (m : Int), minOf ns = some m → m ∈ ns ∧ ∀ y ∈ ns, m ≤ y
  | [], m, h => by simp [minOf] at h
  | i :: r, m, h => by
    unfold minOf at h
    cases e : minOf r with
    | none =>
      rw [e] at h
      cases h
      have : r = [] := by
        cases r with
        | nil => rfl
        | cons a b =>
          unfold minOf at e
          split at e <;> cases e
      subst this
      simp
    | some k =>
      rw [e] at h
      simp only [Option.some.injEq] at h
      obtain ⟨h1, h2⟩ := minOf_spec r k e
      by_cases hk : k < i
      · rw [if_pos hk] at h
        subst h
        exact ⟨List.mem_cons_of_mem _ h1, fun y hy => by
          rcases List.mem_cons.mp hy with rfl | hy
          · omega
          · exact h2 y hy⟩
      · rw [if_neg hk] at h
        subst h
        exact ⟨List.mem_cons_self, fun y hy => by
          rcases List.mem_cons.mp hy with rfl | hy
          · omega
          · have := h2 y hy; omega⟩
theorem maxOf_spec : ∀ (ns : List Int) (m : Int), maxOf ns = some m → m ∈ ns ∧ ∀ y ∈ ns, y ≤ m
  | [], m, h => by simp [maxOf] at h
  | i :: r, m, h => by
    unfold maxOf at h
    cases e : maxOf r with
    | none =>
      rw [e] at h
      cases h
      have : r = [] := by
        cases r with
        | nil => rfl
        | cons a b =>
          unfold maxOf at e
          split at e <;> cases e
      subst this
      simp
    | some k =>
      rw [e] at h
      simp only [Option.some.injEq] at h
      obtain ⟨h1, h2⟩ := maxOf_spec r k e
      by_cases hk : i < k
      · rw [if_pos hk] at h
        subst h
        exact ⟨List.mem_cons_of_mem _ h1, fun y hy => by
          rcases List.mem_cons.mp hy with rfl | hy
          · omega
          · exact h2 y hy⟩
      · rw [if_neg hk] at h
        subst h
        exact ⟨List.mem_cons_self, fun y hy => by
          rcases List.mem_cons.mp hy with rfl | hy
          · omega
          · have := h2 y hy; omega⟩
theorem ins_perm (x : Int) : ∀ l : List Int, (insI x l).Perm (x :: l)
  | [] => .refl _
  | y :: r => by
    unfold insI
    by_cases h : x ≤ y
    · rw [if_pos h]
    · rw [if_neg h]
      exact ((ins_perm x r).cons y).trans (.swap x y r)
theorem sort_perm : ∀ l : List Int, (sortI l).Perm l
  | [] => .refl _
  | x :: r => (ins_perm x _).trans ((sort_perm r).cons x)
theorem ins_sorted (x : Int) : ∀ l : List Int, l.Pairwise (· ≤ ·) → (insI x l).Pairwise (· ≤ ·)
  | [], _ => by simp [insI]
  | y :: r, h => by
    unfold insI
    by_cases hx : x ≤ y
    · rw [if_pos hx]
      refine List.pairwise_cons.mpr ⟨fun z hz => ?_, h⟩
      rcases List.mem_cons.mp hz with rfl | hz
      · exact hx
      · have := (List.pairwise_cons.mp h).1 z hz; omega
    · rw [if_neg hx]
      refine List.pairwise_cons.mpr ⟨fun z hz => ?_, ins_sorted x r (List.pairwise_cons.mp h).2⟩
      rcases List.mem_cons.mp ((ins_perm x r).mem_iff.mp hz) with rfl | hz
      · omega
      · exact (List.pairwise_cons.mp h).1 z hz
theorem sort_sorted : ∀ l : List Int, (sortI l).Pairwise (· ≤ ·)
  | [] => .nil
  | x :: r => ins_sorted x _ (sort_sorted r)
theorem sorted_one {a b : List Int} (p : a.Perm b) (ha : a.Pairwise (· ≤ ·)) (hb : b.Pairwise (· ≤ ·)) : a = b :=
  p.eq_of_pairwise (le := fun x y => x ≤ y) (fun x y _ _ h1 h2 => by omega) ha hb
theorem reps_ints {Hs : Hp} : ∀ ns : List Int, Reps g Hs (ns.map V.int) (ns.map D.int)
  | [] => .nil
  | n :: ns => .cons (.int n) (reps_ints ns)

theorem ints_reps {Hs : Hp} : ∀ {vs : List V} {ds : List D} {ns : List Int}, Reps g Hs vs ds → intsOf ds = some ns → vs = ns.map V.int ∧ ds = ns.map D.int
  | _, _, ns, .nil, h => by cases h; exact ⟨rfl, rfl⟩
  | _, _, ns, .cons (d := d) (ds := ds) r t, h => by
    cases d <;> first | (simp only [intsOf, reduceCtorEq] at h; done) | skip
    rename_i i
    unfold intsOf at h
    cases e : intsOf ds with
    | none => rw [e] at h; cases h
    | some l =>
      rw [e] at h
      cases h
      obtain ⟨h1, h2⟩ := ints_reps t e
      cases r
      rw [h1, h2]
      exact ⟨rfl, rfl⟩
/-- rows, and where they stand -/
theorem rowsOf_reps {Hs : Hp} : ∀ {vs : List V} {ds : List D} {nss : List (List Int)}, Reps g Hs vs ds → rowsOf ds = some nss → ∃ ps : List (V × List Int), vs = ps.map (·.1) ∧ nss = ps.map (·.2) ∧ ∀ p ∈ ps, ∃ t, p.1 = V.ref t ∧ SqT g.K Hs t (p.2.map V.int) ∧ p.2 ≠ [] ∧ Rep g Hs p.1 (rowD p.2)
  | _, _, nss, .nil, h => by cases h; exact ⟨[], rfl, rfl, fun p hp => by cases hp⟩
  | _, _, nss, .cons (v := v) (d := d) (ds := ds) r t, h => by
    cases d <;> first | (simp only [rowsOf, reduceCtorEq] at h; done) | skip
    rename_i xs
    cases xs with
    | nil => simp only [rowsOf, reduceCtorEq] at h
    | cons x xs =>
      unfold rowsOf at h
      cases e1 : intsOf (x :: xs) with
      | none => rw [e1] at h; cases h
      | some ns =>
        cases e2 : rowsOf ds with
        | none => rw [e1, e2] at h; cases h
        | some l =>
          rw [e1, e2] at h
          cases h
          obtain ⟨ps, h1, h2, h3⟩ := rowsOf_reps t e2
          have r0 := r
          cases r with
          | tup s r1 =>
            obtain ⟨k1, k2⟩ := ints_reps r1 e1
            refine ⟨(_, ns) :: ps, by rw [List.map_cons, h1], by rw [List.map_cons, h2], fun p hp => ?_⟩
            rcases List.mem_cons.1 hp with rfl | hp
            · refine ⟨_, rfl, by rw [← k1]; exact s, fun z => ?_, ?_⟩
              · have z : ns = [] := z
                rw [z] at k2; cases k2
              · unfold rowD; rw [← k2]; exact r0
            · exact h3 p hp
theorem reps_rows {Hs : Hp} : ∀ qs : List (V × List Int), (∀ p ∈ qs, ∃ t, p.1 = V.ref t ∧ SqT g.K Hs t (p.2.map V.int) ∧ p.2 ≠ [] ∧ Rep g Hs p.1 (rowD p.2)) → Reps g Hs (qs.map (·.1)) ((qs.map (·.2)).map rowD)
  | [], _ => .nil
  | q :: qs, h => by
    obtain ⟨_, _, _, _, r⟩ := h q List.mem_cons_self
    exact .cons r (reps_rows qs fun p hp => h p (List.mem_cons_of_mem _ hp))
theorem bi_ok (hK : X.K = g.K) (hc : X.calm = true) (b : Bi) : CallR X (biVal b) (rDn g (biD b)) := by
  intro pins s σ H xs us Q I r h
  obtain ⟨Hs, ds, sub, bs, h⟩ := h
  unfold biD at h
  split at h <;> first | exact h.elim | skip
  · -- len
    obtain ⟨v, rfl, b1⟩ := bs.one
    obtain ⟨p, vs, rfl, s1, r1⟩ := b1.tuple sub
    rw [← hK] at s1
    rw [← r1.length] at h
    exact call_len_seq pins s σ H _ us Q I r ⟨p, vs, rfl, .inr s1, h.int sub⟩
  · obtain ⟨v, rfl, b1⟩ := bs.one
    obtain ⟨p, vs, rfl, s1, r1⟩ := b1.list sub
    rw [← hK] at s1
    rw [← r1.length] at h
    exact call_len_seq pins s σ H _ us Q I r ⟨p, vs, rfl, .inl s1, h.int sub⟩
  · obtain ⟨v, w, rfl, b1, b2⟩ := bs.two
    cases b1.rint; cases b2.rint
    exact call_min2 hc pins s σ H _ us Q I r ⟨_, _, rfl, h.int sub⟩
  · obtain ⟨v, w, rfl, b1, b2⟩ := bs.two
    cases b1.rint; cases b2.rint
    exact call_max2 hc pins s σ H _ us Q I r ⟨_, _, rfl, h.int sub⟩
  · obtain ⟨v, w, u, rfl, b1, b2, b3⟩ := bs.three
    cases b1.rint; cases b2.rint; cases b3.rint
    obtain ⟨u1, u2, u3, rfl, ⟨t1, rfl⟩, ⟨t2, rfl⟩, ⟨t3, rfl⟩⟩ := vals3 r
    refine min_three_ints (I.ok.hd hc) fun h' tk k => ⟨_, H, I.kept k, ?_, h.int sub⟩
    split <;> split <;> exact ⟨_, rfl⟩
  · obtain ⟨v, w, u, rfl, b1, b2, b3⟩ := bs.three
    cases b1.rint; cases b2.rint; cases b3.rint
    obtain ⟨u1, u2, u3, rfl, ⟨t1, rfl⟩, ⟨t2, rfl⟩, ⟨t3, rfl⟩⟩ := vals3 r
    refine max_three_ints (I.ok.hd hc) fun h' tk k => ⟨_, H, I.kept k, ?_, h.int sub⟩
    split <;> split <;> exact ⟨_, rfl⟩
  · -- sum
    obtain ⟨v, rfl, b1⟩ := bs.one
    split at h <;> first | exact h.elim | skip
    rename_i ns e
    obtain ⟨p, vs, rfl, s1, r1⟩ := b1.list sub
    obtain ⟨rfl, _⟩ := intsOf_reps r1 e
    rw [← hK] at s1
    exact cr_sum hc pins s σ H _ us Q I r ⟨p, ns, rfl, s1, h.int sub⟩
  · obtain ⟨v, rfl, b1⟩ := bs.one
    split at h <;> first | exact h.elim | skip
    rename_i ns e
    split at h <;> first | exact h.elim | skip
    rename_i m em
    obtain ⟨p, vs, rfl, s1, r1⟩ := b1.list sub
    obtain ⟨rfl, _⟩ := intsOf_reps r1 e
    rw [← hK] at s1
    obtain ⟨h1, h2⟩ := minOf_spec ns m em
    refine cr_min hc pins s σ H _ us Q I r ⟨p, ns, rfl, s1, List.length_pos_of_mem h1, fun m' h3 h4 => ?_⟩
    have e1 := h2 m' h3
    have e2 := h4 m h1
    have : m' = m := by omega
    subst this
    exact h.int sub
  · obtain ⟨v, rfl, b1⟩ := bs.one
    split at h <;> first | exact h.elim | skip
    rename_i ns e
    split at h <;> first | exact h.elim | skip
    rename_i m em
    obtain ⟨p, vs, rfl, s1, r1⟩ := b1.list sub
    obtain ⟨rfl, _⟩ := intsOf_reps r1 e
    rw [← hK] at s1
    obtain ⟨h1, h2⟩ := maxOf_spec ns m em
    refine cr_max hc pins s σ H _ us Q I r ⟨p, ns, rfl, s1, List.length_pos_of_mem h1, fun m' h3 h4 => ?_⟩
    have e1 := h2 m' h3
    have e2 := h4 m h1
    have : m' = m := by omega
    subst this
    exact h.int sub
  · obtain ⟨v, rfl, b1⟩ := bs.one
    cases b1.rint
    exact call_abs pins s σ H _ us Q I r ⟨_, rfl, h.int sub⟩
  · -- tuple
    obtain ⟨v, rfl, b1⟩ := bs.one
    obtain ⟨p, vs, rfl, s1, r1⟩ := b1.tuple sub
    rw [← hK] at s1
    refine call_tuple_of pins s σ H _ us Q I r ⟨p, vs, rfl, .inr ⟨s1, h _ Hs H (Ext.refl sub) (.inl ⟨?_, fun _ z => nomatch z⟩)⟩⟩
    rcases b1 with b1 | ⟨_, _, _, _, z, _⟩
    · exact b1
    · cases z
  · obtain ⟨v, rfl, b1⟩ := bs.one
    obtain ⟨p, vs, rfl, s1, r1⟩ := b1.list sub
    rw [← hK] at s1
    exact call_tuple_of pins s σ H _ us Q I r ⟨p, vs, rfl, .inl ⟨s1, PR.tuple h sub r1⟩⟩
  · obtain ⟨v, rfl, b1⟩ := bs.one
    obtain ⟨p, vs, rfl, s1, r1⟩ := b1.tuple sub
    rw [← hK] at s1
    exact call_list_of pins s σ H _ us Q I r ⟨p, vs, rfl, .inr s1, PR.list h sub r1⟩
  · obtain ⟨v, rfl, b1⟩ := bs.one
    obtain ⟨p, vs, rfl, s1, r1⟩ := b1.list sub
    rw [← hK] at s1
    exact call_list_of pins s σ H _ us Q I r ⟨p, vs, rfl, .inl s1, PR.list h sub r1⟩
  · obtain ⟨v, rfl, b1⟩ := bs.one
    cases b1.rint
    exact call_int1 pins s σ H _ us Q I r (.inl ⟨_, rfl, h.int sub⟩)
  · obtain ⟨v, rfl, b1⟩ := bs.one
    cases b1.rbl
    exact call_int1 pins s σ H _ us Q I r (.inr ⟨_, rfl, h.int sub⟩)
  · obtain ⟨v, rfl, b1⟩ := bs.one
    split at h <;> first | exact h.elim | skip
    rename_i ns e
    obtain ⟨p, vs, rfl, s1, r1⟩ := b1.list sub
    obtain rfl := blsOf_reps r1 e
    rw [← hK] at s1
    exact cr_any hc pins s σ H _ us Q I r ⟨p, ns, rfl, s1, h.bool sub⟩
  · obtain ⟨v, rfl, b1⟩ := bs.one
    split at h <;> first | exact h.elim | skip
    rename_i ns e
    obtain ⟨p, vs, rfl, s1, r1⟩ := b1.list sub
    obtain rfl := blsOf_reps r1 e
    rw [← hK] at s1
    exact cr_all hc pins s σ H _ us Q I r ⟨p, ns, rfl, s1, h.bool sub⟩
  · obtain ⟨v, rfl, b1⟩ := bs.one
    split at h
    case h_2 =>
      split at h <;> first | exact h.elim | skip
      rename_i nss e
      obtain ⟨p, vs, rfl, s1, r1⟩ := b1.list sub
      obtain ⟨ps, rfl, rfl, h3⟩ := rowsOf_reps r1 e
      rw [← hK] at s1
      refine cr_sortedTs pins s σ H _ us Q I r ⟨p, ps, rfl, s1, fun q hq => ?_, fun qs q hp hs hq => ?_⟩
      · obtain ⟨t, e1, e2, e3, _⟩ := h3 q hq
        exact ⟨t, e1, by rw [hK]; exact Same.sqT sub e2, e3⟩
      · refine PR.list h sub ?_ q hq
        rw [← hs]
        exact reps_rows qs fun z hz => (h3 z (hp.mem_iff.1 hz))
    rename_i ns e
    obtain ⟨p, vs, rfl, s1, r1⟩ := b1.list sub
    obtain ⟨rfl, _⟩ := intsOf_reps r1 e
    rw [← hK] at s1
    refine cr_sortedI pins s σ H _ us Q I r ⟨p, ns, rfl, s1, fun ns' q hp hs hq => ?_⟩
    have e1 : ns' = sortI ns := sorted_one (hp.trans (sort_perm ns).symm) hs (sort_sorted ns)
    subst e1
    exact PR.list h sub (reps_ints _) q hq
  · obtain ⟨v, rfl, b1⟩ := bs.one
    split at h <;> first | exact h.elim | skip
    rename_i ns e
    obtain ⟨p, vs, rfl, s1, r1⟩ := b1.tuple sub
    obtain ⟨rfl, _⟩ := intsOf_reps r1 e
    rw [← hK] at s1
    refine cr_sortedIT pins s σ H _ us Q I r ⟨p, ns, rfl, s1, fun ns' q hp hs hq => ?_⟩
    have e1 : ns' = sortI ns := sorted_one (hp.trans (sort_perm ns).symm) hs (sort_sorted ns)
    subst e1
    exact PR.list h sub (reps_ints _) q hq
end
end Dw

namespace Dw
open PySem PySem.Spec PyProof.Rows L2
section
variable {X : Cx} {g : G}
def tyName : Ty → String
  | .int => "int" | .bl => "bool" | .str => "str" | .tup => "tuple"
def kT : String → Ty → Bool
  | "int", .int => true
  | "bool", .int => true
  | "bool", .bl => true
  | "str", .str => true
  | "tuple", .tup => true
  | _, _ => false
theorem kit_non (t : Ty) : kitB "NoneType" (tyName t) = some (kT "NoneType" t) := by cases t <;> decide +kernel
theorem kit_int (t : Ty) : kitB "int" (tyName t) = some (kT "int" t) := by cases t <;> decide +kernel
theorem kit_bool (t : Ty) : kitB "bool" (tyName t) = some (kT "bool" t) := by cases t <;> decide +kernel
theorem kit_str (t : Ty) : kitB "str" (tyName t) = some (kT "str" t) := by cases t <;> decide +kernel
theorem kit_tuple (t : Ty) : kitB "tuple" (tyName t) = some (kT "tuple" t) := by cases t <;> decide +kernel
theorem kit_list (t : Ty) : kitB "list" (tyName t) = some (kT "list" t) := by cases t <;> decide +kernel
theorem isi_ok (hK : X.K = g.K) (t : Ty) {Hs H : Hp} {x : V} {d : D} {Q : VK} (sub : Same Hs H) (b : BRep g Hs H x d) (n : noIns d = true) (q : Q (.bl (tyD t d)) H) : rIsi X.K [x, .ty (tyName t)] H Q := by
  have fin : ∀ (a : String) (r : Bool), TyX X.K H x (.type a) → kitB a (tyName t) = some r → r = tyD t d → rIsi X.K [x, .ty (tyName t)] H Q := fun a r h1 h2 h3 =>
    ⟨x, .ty (tyName t), .type a, .type (tyName t), r, rfl, .ty _, h1, kit_ty h2, by rw [h3]; exact q⟩
  cases d with
  | non => cases b.rnon; exact fin "NoneType" _ (.base .non) (kit_non t) (by cases t <;> decide +kernel)
  | bl y => cases b.rbl; exact fin "bool" _ (.base (.bl _)) (kit_bool t) (by cases t <;> first | rfl | (unfold kT; rfl) | (simp only [kT, tyD]))
  | int i => cases b.rint; exact fin "int" _ (.base (.int _)) (kit_int t) (by cases t <;> first | rfl | (unfold kT; rfl) | (simp only [kT, tyD]))
  | str y => cases b.rstr; exact fin "str" _ (.base (.str _)) (kit_str t) (by cases t <;> first | rfl | (unfold kT; rfl) | (simp only [kT, tyD]))
  | tup ds =>
    obtain ⟨p, vs, rfl, s1, _⟩ := b.tuple sub
    rw [← hK] at s1
    have ty : TyX X.K H (.ref p) (.type "tuple") := by
      rcases s1 with (h | ⟨o, h⟩) | ⟨o, its, n, h1, h2, _⟩
      · exact .base (.tup h)
      · exact .fTuple h
      · exact .kTuple h1 h2
    exact fin "tuple" _ ty (kit_tuple t) (by cases t <;> first | rfl | (unfold kT; rfl) | (simp only [kT, tyD]))
  | lst ds =>
    obtain ⟨p, vs, rfl, s1, _⟩ := b.list sub
    rw [← hK] at s1
    have ty : TyX X.K H (.ref p) (.type "list") := by
      rcases s1 with (h | ⟨o, h⟩) | ⟨o, its, n, h1, h2, _⟩
      · exact .base (.lst h)
      · exact .base (.frz h)
      · exact .kList h1 h2
    exact fin "list" _ ty (kit_list t) (by cases t <;> first | rfl | (unfold kT; rfl) | (simp only [kT, tyD]))
  | ins c fs => cases n

/-! ### what is walked -/
/-- an iterator that gives the items -/
def WalkD (g : G) (Hs H : Hp) (J : It) (its : List D) : Prop := ∃ (Gd : Hp → Prop) (Y : Nat → Hp → V → Hp → Prop), Walk J its.length Gd Y ∧ (∀ H', Same Hs H' → Gd H') ∧
  ∀ i Hv Hc x H', i < its.length → Same Hs Hv → Same Hv Hc → Y i Hc x H' → ∃ Hv' d, its[i]? = some d ∧ Ext Hv Hc Hv' H' ∧ Rep g Hv' x d
theorem same_seqL {K : PySem.W.Frag} {Hs H : Hp} {a : Addr} {xs : List V} (e : Same Hs H) (h : SqL K Hs a xs) : SqL K H a xs := Same.seq e h
/-- a list or a tuple in view -/
theorem walk_seqL {Hs H : Hp} {a : Addr} {vs : List V} {ds : List D} (s : SqL g.K Hs a vs) (r : Reps g Hs vs ds) : WalkD g Hs H (Itl g.K a) ds := by
  refine ⟨fun H => SqL g.K H a vs, YAt vs, by rw [← r.length]; exact walk_list, fun H' e => Same.seq e s, fun i Hv Hc x H' hi e1 e2 y => ?_⟩
  obtain ⟨rfl, y⟩ := y
  obtain ⟨v, h1, h2⟩ := r.get (List.getElem?_eq_getElem hi)
  rw [y] at h1; cases h1
  exact ⟨Hv, _, List.getElem?_eq_getElem hi, Ext.refl e2, h2.mono e1⟩
theorem walk_seqT {Hs H : Hp} {a : Addr} {vs : List V} {ds : List D} (s : SqT g.K Hs a vs) (r : Reps g Hs vs ds) : WalkD g Hs H (Itt g.K a) ds := by
  refine ⟨fun H => SqT g.K H a vs, YAt vs, by rw [← r.length]; exact walk_tup, fun H' e => Same.sqT e s, fun i Hv Hc x H' hi e1 e2 y => ?_⟩
  obtain ⟨rfl, y⟩ := y
  obtain ⟨v, h1, h2⟩ := r.get (List.getElem?_eq_getElem hi)
  rw [y] at h1; cases h1
  exact ⟨Hv, _, List.getElem?_eq_getElem hi, Ext.refl e2, h2.mono e1⟩
theorem rgD_length : ∀ (n : Nat) (a : Int), (rgD a n).length = n
  | 0, _ => rfl
  | n + 1, a => by unfold rgD; rw [List.length_cons, rgD_length n]
theorem rgD_get : ∀ (n : Nat) (a : Int) (i : Nat), i < n → (rgD a n)[i]? = some (.int (a + i))
  | n + 1, a, 0, _ => by simp [rgD]
  | n + 1, a, i + 1, h => by
    unfold rgD
    rw [List.getElem?_cons_succ, rgD_get n (a + 1) i (by omega)]
    congr 2
    omega
theorem walk_rg {Hs H : Hp} {lo : Int} {n : Nat} : WalkD g Hs H (Itr lo n) (rgD lo n) := by
  refine ⟨fun _ => True, YFn fun i => .int (lo + i), by rw [rgD_length]; exact walk_range, fun _ _ => trivial, fun i Hv Hc x H' hi e1 e2 y => ?_⟩
  obtain ⟨rfl, rfl⟩ := y
  rw [rgD_length] at hi
  exact ⟨Hv, _, rgD_get n lo i hi, Ext.refl e2, .int _⟩
theorem rgS_length (c : Int) : ∀ (n : Nat) (a : Int), (rgS a c n).length = n
  | 0, _ => rfl
  | n + 1, a => by rw [rgS, List.length_cons, rgS_length c n]
theorem rgS_get (c : Int) : ∀ (n : Nat) (a : Int) (i : Nat), i < n → (rgS a c n)[i]? = some (.int (a + (i : Nat) * c))
  | 0, _, _, h => by omega
  | n + 1, a, 0, _ => by simp [rgS]
  | n + 1, a, i + 1, h => by
    rw [rgS, List.getElem?_cons_succ, rgS_get c n (a + c) i (by omega)]
    congr 2
    rw [Int.natCast_add, Int.add_mul]
    omega
theorem walk_rgs {Hs H : Hp} {lo c : Int} {n : Nat} : WalkD g Hs H (Itc lo c n) (rgS lo c n) := by
  refine ⟨fun _ => True, YFn fun i => .int (lo + (i : Nat) * c), by rw [rgS_length]; exact walk_rangeC, fun _ _ => trivial, fun i Hv Hc x H' hi e1 e2 y => ?_⟩
  obtain ⟨rfl, rfl⟩ := y
  rw [rgS_length] at hi
  exact ⟨Hv, _, rgS_get c n lo i hi, Ext.refl e2, .int _⟩
theorem rgN_ok {i j c : Int} (h1 : -(2 ^ 62) ≤ i) (h2 : i < 2 ^ 62) (h3 : -(2 ^ 62) ≤ j) (h4 : j < 2 ^ 62) (h5 : 0 < c) (h6 : c < 1073741824) : RgC i j c (rgN i j c) := by
  have hd : i < j → 0 ≤ (j - i - 1) / c ∧ (j - i - 1) / c ≤ j - i - 1 ∧ (j - i - 1) / c * c ≤ j - i - 1 := fun h => by
    have a := Int.ediv_nonneg (a := j - i - 1) (b := c) (by omega) (by omega)
    exact ⟨a, Int.ediv_le_self _ (by omega), Int.ediv_mul_le _ (by omega)⟩
  refine ⟨by omega, by omega, ?_, ?_⟩
  · unfold Builtin.Range.small Builtin.Range.rangeSize
    simp only [Builtin.Range.rangeFitsLong, Bool.and_eq_true, Bool.or_eq_true, decide_eq_true_eq, beq_iff_eq, show c > 0 from h5, if_true]
    split
    · rename_i h
      obtain ⟨a, b, d⟩ := hd h
      have e : ((j - i - 1) / c + 1) * c = (j - i - 1) / c * c + c := by rw [Int.add_mul, Int.one_mul]
      (try simp only [e])
      omega
    · omega
  · unfold Builtin.Range.rangeSize rgN
    simp only [show c > 0 from h5, if_true]
    split
    · rename_i h
      obtain ⟨a, b, d⟩ := hd h
      omega
    · rfl
theorem walk_rgr {Hs H : Hp} {lo : Int} {n : Nat} : WalkD g Hs H (Itc (lo + (n : Int) - 1) (-1) n) (rgD lo n).reverse := by
  refine ⟨fun _ => True, YFn fun i => .int (lo + (n : Int) - 1 + (i : Nat) * (-1)), by rw [List.length_reverse, rgD_length]; exact walk_rangeC, fun _ _ => trivial, fun i Hv Hc x H' hi e1 e2 y => ?_⟩
  obtain ⟨rfl, rfl⟩ := y
  rw [List.length_reverse, rgD_length] at hi
  refine ⟨Hv, _, ?_, Ext.refl e2, .int _⟩
  rw [List.getElem?_reverse (by rw [rgD_length]; exact hi), rgD_length, rgD_get n lo _ (by omega)]
  congr 2
  omega
/-- pairs: a new tuple each turn -/
theorem walk_pair {Hs H : Hp} {J : It} {its : List D} {n : Nat} {Gd : Hp → Prop} {xs ys : Nat → Option V} (hn : its.length = n) (w : Walk J n Gd (YPair xs ys)) (hG : ∀ H', Same Hs H' → Gd H')
    (h : ∀ i x y, i < n → xs i = some x → ys i = some y → ∃ d e, its[i]? = some (.tup [d, e]) ∧ Rep g Hs x d ∧ Rep g Hs y e) : WalkD g Hs H J its := by
  refine ⟨Gd, YPair xs ys, by rw [hn]; exact w, hG, fun i Hv Hc x H' hi e1 e2 y => ?_⟩
  obtain ⟨T, a, b, rfl, hT, rfl, h1, h2⟩ := y
  obtain ⟨d, e, h3, h4, h5⟩ := h i a b (by omega) h1 h2
  have nT : Hv T = none := e2.free hT
  exact ⟨_, _, h3, Ext.new e2 hT, .tup (.inl (.inl upd_same)) (.cons (h4.mono (e1.trans (same_upd nT))) (.cons (h5.mono (e1.trans (same_upd nT))) .nil))⟩
theorem zip_get {α β : Type} : ∀ (xs : List α) (ys : List β) (i : Nat) (x : α) (y : β), xs[i]? = some x → ys[i]? = some y → (xs.zip ys)[i]? = some (x, y)
  | a :: xs, b :: ys, 0, x, y, h1, h2 => by simp at h1 h2 ⊢; exact ⟨h1, h2⟩
  | a :: xs, b :: ys, i + 1, x, y, h1, h2 => by
    simp only [List.getElem?_cons_succ, List.zip_cons_cons] at h1 h2 ⊢
    exact zip_get xs ys i x y h1 h2
  | [], _, _, _, _, h1, _ => by simp at h1
  | _ :: _, [], _, _, _, _, h2 => by simp at h2
theorem walk_zipL {Hs H : Hp} {a b : Addr} {vs ws : List V} {ds es : List D} (s : SqL g.K Hs a vs) (r : Reps g Hs vs ds) (s2 : SqL g.K Hs b ws) (r2 : Reps g Hs ws es) : WalkD g Hs H (Itz g.K a b) ((ds.zip es).map fun p => .tup [p.1, p.2]) := by
  refine walk_pair (n := min vs.length ws.length) (by rw [List.length_map, List.length_zip, r.length, r2.length]) (walk_zip rfl) (fun H' e => ⟨Same.seq e s, Same.seq e s2⟩) fun i x y hi h1 h2 => ?_
  have l1 := r.length
  have l2 := r2.length
  obtain ⟨v, k1, k2⟩ := r.get (d := ds[i]'(by omega)) (List.getElem?_eq_getElem (by omega))
  obtain ⟨v', k3, k4⟩ := r2.get (d := es[i]'(by omega)) (List.getElem?_eq_getElem (by omega))
  rw [h1] at k1; cases k1
  rw [h2] at k3; cases k3
  exact ⟨_, _, by rw [List.getElem?_map, zip_get ds es i _ _ (List.getElem?_eq_getElem (by omega)) (List.getElem?_eq_getElem (by omega))]; rfl, k2, k4⟩
theorem walk_zT {K : PySem.W.Frag} {a b : Addr} {xs ys : List V} {n : Nat} (hn : n = min xs.length ys.length) : Walk (RZ.ItzT K a b) n (fun H => SqT K H a xs ∧ SqT K H b ys) (YPair (fun i => xs[i]?) (fun i => ys[i]?)) := by
  subst hn
  refine ⟨fun i _ hi q => ?_, fun _ q => ⟨xs, ys, q.1, q.2, by omega⟩, fun i H v H' _ q y => ?_⟩
  · have h1 : i < xs.length := by omega
    have h2 : i < ys.length := by omega
    exact ⟨xs, ys, xs[i], ys[i], q.1, q.2, by simp [h1], by simp [h2]⟩
  · obtain ⟨T, x, z, h1, h2, h3, h4, h5⟩ := y
    exact ⟨T, x, z, h1, h2, h3, h4 xs q.1, h5 ys q.2⟩
theorem walk_zipT {Hs H : Hp} {a b : Addr} {vs ws : List V} {ds es : List D} (s : SqT g.K Hs a vs) (r : Reps g Hs vs ds) (s2 : SqT g.K Hs b ws) (r2 : Reps g Hs ws es) : WalkD g Hs H (RZ.ItzT g.K a b) ((ds.zip es).map fun p => .tup [p.1, p.2]) := by
  refine walk_pair (n := min vs.length ws.length) (by rw [List.length_map, List.length_zip, r.length, r2.length]) (walk_zT rfl) (fun H' e => ⟨Same.sqT e s, Same.sqT e s2⟩) fun i x y hi h1 h2 => ?_
  have l1 := r.length
  have l2 := r2.length
  obtain ⟨v, k1, k2⟩ := r.get (d := ds[i]'(by omega)) (List.getElem?_eq_getElem (by omega))
  obtain ⟨v', k3, k4⟩ := r2.get (d := es[i]'(by omega)) (List.getElem?_eq_getElem (by omega))
  rw [h1] at k1; cases k1
  rw [h2] at k3; cases k3
  exact ⟨_, _, by rw [List.getElem?_map, zip_get ds es i _ _ (List.getElem?_eq_getElem (by omega)) (List.getElem?_eq_getElem (by omega))]; rfl, k2, k4⟩
theorem walk_enm {Hs H : Hp} {a : Addr} {vs : List V} {ds : List D} (s : SqL g.K Hs a vs) (r : Reps g Hs vs ds) : WalkD g Hs H (Ite g.K a) ((ds.zip (rgD 0 ds.length)).map fun p => .tup [p.2, p.1]) := by
  refine walk_pair (n := vs.length) (by rw [List.length_map, List.length_zip, rgD_length, r.length, Nat.min_self]) walk_enum (fun H' e => Same.seq e s) fun i x y hi h1 h2 => ?_
  have l1 := r.length
  obtain ⟨v, k1, k2⟩ := r.get (d := ds[i]'(by omega)) (List.getElem?_eq_getElem (by omega))
  rw [h2] at k1; cases k1
  cases h1
  refine ⟨.int (0 + (i : Int)), ds[i]'(by omega), ?_, ?_, k2⟩
  · rw [List.getElem?_map, zip_get ds (rgD 0 ds.length) i _ _ (List.getElem?_eq_getElem (by omega)) (rgD_get _ _ _ (by omega))]; rfl
  · rw [Int.zero_add]; exact .int _
theorem walk_revL {Hs H : Hp} {a : Addr} {vs : List V} {ds : List D} (s : SqL g.K Hs a vs) (r : Reps g Hs vs ds) : WalkD g Hs H (Itv g.K a vs.length) ds.reverse := by
  refine ⟨fun H => SqL g.K H a vs, _, by rw [List.length_reverse, ← r.length]; exact walk_rev, fun H' e => Same.seq e s, fun i Hv Hc x H' hi e1 e2 y => ?_⟩
  obtain ⟨rfl, y⟩ := y
  rw [List.length_reverse] at hi
  have l1 := r.length
  obtain ⟨v, h1, h2⟩ := r.get (d := ds[vs.length - 1 - i]'(by omega)) (List.getElem?_eq_getElem (by omega))
  rw [y] at h1; cases h1
  refine ⟨Hv, _, ?_, Ext.refl e2, h2.mono e1⟩
  rw [List.getElem?_reverse hi, show ds.length - 1 - i = vs.length - 1 - i by omega]
  exact List.getElem?_eq_getElem (by omega)
theorem walk_rT {K : PySem.W.Frag} {a : Addr} {xs : List V} : Walk (RT.ItvT K a xs.length) xs.length (fun H => SqT K H a xs) (fun i H x H' => H' = H ∧ xs[xs.length - 1 - i]? = some x) :=
  ⟨fun i _ hi q => ⟨hi, xs, xs[xs.length - 1 - i]'(by omega), q, by simp [show xs.length - 1 - i < xs.length by omega]⟩, fun _ _ => Nat.le_refl _, fun _ _ _ _ _ q y => ⟨y.1, y.2 xs q⟩⟩
theorem walk_revT {Hs H : Hp} {a : Addr} {vs : List V} {ds : List D} (s : SqT g.K Hs a vs) (r : Reps g Hs vs ds) : WalkD g Hs H (RT.ItvT g.K a vs.length) ds.reverse := by
  refine ⟨fun H => SqT g.K H a vs, _, by rw [List.length_reverse, ← r.length]; exact walk_rT, fun H' e => Same.sqT e s, fun i Hv Hc x H' hi e1 e2 y => ?_⟩
  obtain ⟨rfl, y⟩ := y
  rw [List.length_reverse] at hi
  have l1 := r.length
  obtain ⟨v, h1, h2⟩ := r.get (d := ds[vs.length - 1 - i]'(by omega)) (List.getElem?_eq_getElem (by omega))
  rw [y] at h1; cases h1
  refine ⟨Hv, _, ?_, Ext.refl e2, h2.mono e1⟩
  rw [List.getElem?_reverse hi, show ds.length - 1 - i = vs.length - 1 - i by omega]
  exact List.getElem?_eq_getElem (by omega)
end
end Dw

namespace Dw
open PySem PySem.Spec PyProof.Rows L2

/-- a def of the text: its name, how many parameters, the last ones' defaults, whether a list that it hands back is new -/
structure FI where
  name : Str
  np : Nat
  ds : List D
  fr : Bool
structure Tab where
  fns : List (Nat × FI)
  cons : List (Str × D)
def Tab.fn (T : Tab) (i : Nat) : Option FI := T.fns.lookup i

/-! ### shapes of the syntax -/
def tyStr : Ty → Str
  | .int => "int" | .bl => "bool" | .str => "str" | .tup => "tuple"
def visB (sc : Scope) (x : Str) : Bool := match sc.names.lookup x with
  | some .local => true
  | some .cell => true
  | some .free => true
  | _ => false
def glB (sc : Scope) (x : Str) : Bool := match sc.names.lookup x with
  | some .globalImplicit => true
  | _ => false
def nmOk (N : List Str) (sc : Scope) (i : Nat) : Expr → Bool
  | .Name x _ => decide (N[i]? = some x) && visB sc x && !(x == ("__debug__" : Str)) && !(x == ("__classdict__" : Str))
  | _ => false
def glOk (sc : Scope) (x : Str) : Expr → Bool
  | .Name y _ => decide (y = x) && glB sc y && !(y == ("__debug__" : Str)) && !decide (y = "__name__")
  | _ => false
def notStar : Expr → Bool
  | .Starred _ _ => false
  | _ => true
def notSet : Expr → Bool
  | .Set _ _ _ => false
  | _ => true
def notSlice : Expr → Bool
  | .Slice _ _ _ _ => false
  | _ => true
def notIf : Expr → Bool
  | .IfExp _ _ _ _ => false
  | _ => true
def isBoolOp : Expr → Bool
  | .BoolOp _ _ _ => true
  | _ => false
def plainT : Expr → Bool
  | .UnaryOp .Not _ _ => false
  | .BoolOp _ _ _ => false
  | .IfExp _ _ _ _ => false
  | .Compare _ _ _ _ => false
  | _ => true
def conOk : D → Const → Bool
  | .int i, .int j => decide (i = j)
  | .bl b, .bool c => decide (b = c)
  | .non, .none => true
  | .str x, .str y => decide (x = y)
  | _, _ => false
def isBor : Ex → Bool
  | .bor _ => true
  | _ => false
/-- a list that it gives is new -/
def isFr (T : Tab) : Ex → Bool
  | .con _ => true
  | .bin _ _ _ => true
  | .neg _ => true
  | .nt _ => true
  | .cmp _ _ _ => true
  | .chain _ _ _ _ _ => true
  | .tup _ => true
  | .lst _ => true
  | .slc _ _ _ => true
  | .rvs _ _ => true
  | .call f _ _ => match T.fn f with
    | some fi => fi.fr
    | none => false
  | .bi _ _ => true
  | .isi _ _ => true
  | .comp _ _ _ _ _ => true
  | _ => false
/-- the names of a target and their places -/
def ownOf : Expr → List Nat → Option (List (Str × Nat))
  | .Name x _, [i] => some [(x, i)]
  | .Tuple es _ _, i :: j :: is => ownsOf es (i :: j :: is)
  | _, _ => none
where ownsOf : List Expr → List Nat → Option (List (Str × Nat))
  | [], [] => some []
  | .Name x _ :: es, i :: is => match ownsOf es is with
    | some r => some ((x, i) :: r)
    | none => none
  | _, _ => none
def twoUp : List Nat → Bool
  | _ :: _ :: _ => true
  | _ => false
/-- the block's scope names its own names as locals -/
def locAll (sc : Scope) : List (Str × Nat) → Bool
  | [] => true
  | (x, _) :: r => (match sc.names.lookup x with
    | some .local => true
    | _ => false) && locAll sc r
def isTupE : Expr → Bool
  | .Tuple _ _ _ => true
  | _ => false
def ikOk : Ik → Expr → Bool
  | .zip, tg => isTupE tg
  | .enm, tg => isTupE tg
  | _, _ => true
def ikName : Ik → Str
  | .rng1 => "range" | .rng2 => "range" | .rng3 => "range" | .enm => "enumerate" | .zip => "zip" | .rev => "reversed" | .rvr1 => "reversed" | .rvr2 => "reversed" | .seq => ""
def isNil {α : Type} : List α → Bool
  | [] => true
  | _ => false

mutual
def sameD : D → D → Bool
  | .non, .non => true
  | .bl a, .bl b => decide (a = b)
  | .int i, .int j => decide (i = j)
  | .str x, .str y => decide (x = y)
  | .tup xs, .tup ys => sameDs xs ys
  | .lst xs, .lst ys => sameDs xs ys
  | _, _ => false
def sameDs : List D → List D → Bool
  | [], [] => true
  | x :: xs, y :: ys => sameD x y && sameDs xs ys
  | _, _ => false
end
mutual
theorem sameD_eq : ∀ a b : D, sameD a b = true → a = b
  | .non, b, h => by cases b <;> simp_all [sameD]
  | .bl _, b, h => by cases b <;> simp_all [sameD]
  | .int _, b, h => by cases b <;> simp_all [sameD]
  | .str _, b, h => by cases b <;> simp_all [sameD]
  | .tup xs, b, h => by
    cases b <;> simp only [sameD, Bool.false_eq_true] at h
    rw [sameDs_eq xs _ h]
  | .lst xs, b, h => by
    cases b <;> simp only [sameD, Bool.false_eq_true] at h
    rw [sameDs_eq xs _ h]
  | .ins _ _, b, h => by cases b <;> simp only [sameD, Bool.false_eq_true] at h
theorem sameDs_eq : ∀ a b : List D, sameDs a b = true → a = b
  | [], [], _ => rfl
  | [], _ :: _, h => by simp only [sameDs, Bool.false_eq_true] at h
  | _ :: _, [], h => by simp only [sameDs, Bool.false_eq_true] at h
  | x :: xs, y :: ys, h => by
    simp only [sameDs, Bool.and_eq_true] at h
    rw [sameD_eq x y h.1, sameDs_eq xs ys h.2]
end
def asCon : Expr → Option Const
  | .Constant c _ _ => some c
  | _ => none
def asNm : Expr → Option Str
  | .Name x _ => some x
  | _ => none
def asBin : Expr → Option (Expr × Operator × Expr)
  | .BinOp a o b _ => some (a, o, b)
  | _ => none
def asNeg : Expr → Option Expr
  | .UnaryOp .USub a _ => some a
  | _ => none
def asNot : Expr → Option Expr
  | .UnaryOp .Not a _ => some a
  | _ => none
def asCmp1 : Expr → Option (Expr × CmpOp × Expr)
  | .Compare a [o] [b] _ => some (a, o, b)
  | _ => none
def asCmp2 : Expr → Option (Expr × CmpOp × Expr × CmpOp × Expr)
  | .Compare a [o, p] [b, c] _ => some (a, o, b, p, c)
  | _ => none
def asAnd : Expr → Option (Expr × Expr × List Expr × Pos)
  | .BoolOp .And (a :: b :: r) p => some (a, b, r, p)
  | _ => none
def asOr : Expr → Option (Expr × Expr × List Expr × Pos)
  | .BoolOp .Or (a :: b :: r) p => some (a, b, r, p)
  | _ => none
def asIf : Expr → Option (Expr × Expr × Expr)
  | .IfExp c a b _ => some (c, a, b)
  | _ => none
def asTup : Expr → Option (List Expr)
  | .Tuple xs _ _ => some xs
  | _ => none
def asLst : Expr → Option (List Expr)
  | .List xs _ => some xs
  | _ => none
def asSub : Expr → Option (Expr × Expr)
  | .Subscript a b _ => some (a, b)
  | _ => none
def asSlc : Expr → Option (Option Expr × Option Expr)
  | .Slice l h none _ => some (l, h)
  | _ => none
def asRvs : Expr → Option Expr
  | .Subscript e (.Slice none none (some (.UnaryOp .USub (.Constant (.int 1) _ _) _)) _) _ => some e
  | _ => none
def asCall : Expr → Option (Expr × List Expr)
  | .Call f xs [] _ => some (f, xs)
  | _ => none
def asComp : Expr → Option (Expr × Expr × Expr × List Expr × Scope)
  | .ListComp ee [⟨te, iter, ifs, 0⟩] cs _ => some (ee, te, iter, ifs, cs)
  | _ => none
def isRep : Bop → Bool
  | .rep => true
  | _ => false
def isMult : Operator → Bool
  | .Mult => true
  | _ => false
mutual
def chkE (T : Tab) (N : List Str) : Ex → Scope → Expr → Bool
  | .var i, sc, e => nmOk N sc i e
  | .bor i, sc, e => nmOk N sc i e
  | .con d, _, e => match asCon e with
    | some c => conOk d c
    | none => false
  | .glb d, sc, e => match asNm e with
    | some x => glB sc x && !(x == ("__debug__" : Str)) && T.cons.any fun p => decide (p.1 = x) && sameD p.2 d
    | none => false
  | .bin op a b, sc, e => match asBin e with
    | some (ea, o, eb) => (match isRep op with
      | true => isMult o && isFr T a
      | false => bopOk op o) && chkE T N a sc ea && chkE T N b sc eb
    | none => false
  | .neg a, sc, e => match asNeg e with
    | some ea => chkE T N a sc ea
    | none => false
  | .nt a, sc, e => match asNot e with
    | some ea => chkE T N a sc ea && notIf ea && !isBor a
    | none => false
  | .cmp op a b, sc, e => match asCmp1 e with
    | some (ea, o, eb) => copOk op o && notSet eb && chkE T N a sc ea && chkE T N b sc eb
    | none => false
  | .chain o p a b c, sc, e => match asCmp2 e with
    | some (ea, oa, eb, ob, ec) => copOk o oa && copOk p ob && notSet ec && chkE T N a sc ea && chkE T N b sc eb && chkE T N c sc ec && !isBor b
    | none => false
  | .and a b, sc, e => match asAnd e with
    | some (ea, eb, rest, pos) => chkE T N a sc ea && notIf ea && !isBor a && !isBor b && (match rest with
      | [] => chkE T N b sc eb && notIf eb
      | _ :: _ => chkE T N b sc (.BoolOp .And (eb :: rest) pos))
    | none => false
  | .or a b, sc, e => match asOr e with
    | some (ea, eb, rest, pos) => chkE T N a sc ea && notIf ea && !isBor a && !isBor b && (match rest with
      | [] => chkE T N b sc eb && notIf eb
      | _ :: _ => chkE T N b sc (.BoolOp .Or (eb :: rest) pos))
    | none => false
  | .ite c a b, sc, e => match asIf e with
    | some (ec, ea, eb) => chkE T N c sc ec && notIf ec && !isBor c && chkE T N a sc ea && !isBor a && chkE T N b sc eb && !isBor b
    | none => false
  | .tup es, sc, e => match asTup e with
    | some xs => chkL T N es sc xs && !lends es && decide (xs.length ≤ 1000)
    | none => false
  | .lst es, sc, e => match asLst e with
    | some xs => chkL T N es sc xs && !lends es && decide (xs.length ≤ 1000)
    | none => false
  | .idx a b, sc, e => match asSub e with
    | some (ea, eb) => chkE T N a sc ea && chkE T N b sc eb && notSlice eb
    | none => false
  | .slc a lo hi, sc, e => match asSub e with
    | some (ea, eb) => match asSlc eb with
      | some (l, h) => chkE T N a sc ea && chkO T N lo sc l && chkO T N hi sc h
      | none => false
    | none => false
  | .rvs false a, sc, e => match asRvs e with
    | some ea => chkE T N a sc ea
    | none => false
  | .rvs true a, sc, e => match asCall e with
    | some (fe, [r]) => match asCall r with
      | some (fr, [x]) => glOk sc "list" fe && glOk sc "reversed" fr && chkE T N a sc x && notStar x
      | _ => false
    | _ => false
  | .call f es dfl, sc, e => match asCall e with
    | some (fe, xs) => (match T.fn f with
      | some fi => glOk sc fi.name fe && decide (xs.length ≤ fi.np) && decide (xs.length + dfl.length = fi.np) && decide (dfl.length ≤ fi.ds.length) && sameDs (fi.ds.drop (fi.ds.length - dfl.length)) dfl
      | none => false) && !isNil xs && chkL T N es sc xs
    | none => false
  | .bi b es, sc, e => match asCall e with
    | some (fe, xs) => glOk sc (biName b) fe && !isNil xs && chkL T N es sc xs
    | none => false
  | .isi a t, sc, e => match asCall e with
    | some (fe, [xa, ty]) => glOk sc "isinstance" fe && glOk sc (tyStr t) ty && chkE T N a sc xa && notStar xa
    | _ => false
  | .comp elt tg k es cond, sc, e => match asComp e with
    | some (ee, te, iter, ifs, cs) => (match ownOf te tg with
      | some own => blkC N sc cs own && decide (own.map (·.2) = tg) && locAll (relS cs sc) own
      | none => false) && chkI T N k es sc te iter && notSet iter && chkE T N elt (relS cs sc) ee && !isBor elt && chkC T N cond (relS cs sc) ifs
    | none => false
def chkL (T : Tab) (N : List Str) : List Ex → Scope → List Expr → Bool
  | [], _, [] => true
  | x :: xs, sc, e :: es => chkE T N x sc e && notStar e && chkL T N xs sc es
  | _, _, _ => false
def chkO (T : Tab) (N : List Str) : Option Ex → Scope → Option Expr → Bool
  | none, _, none => true
  | some x, sc, some e => chkE T N x sc e && !isBor x
  | _, _, _ => false
def chkC (T : Tab) (N : List Str) : Option Ex → Scope → List Expr → Bool
  | none, _, [] => true
  | some x, sc, [e] => chkE T N x sc e && notIf e && !isBor x
  | _, _, _ => false
def chkI (T : Tab) (N : List Str) : Ik → List Ex → Scope → Expr → Expr → Bool
  | .seq, [x], sc, _, e => chkE T N x sc e && !isBor x
  | .rng1, [x], sc, _, e => match asCall e with
    | some (fe, [a]) => glOk sc "range" fe && chkE T N x sc a && notStar a && !isBor x
    | _ => false
  | .rng2, [x, y], sc, _, e => match asCall e with
    | some (fe, [a, b]) => glOk sc "range" fe && chkE T N x sc a && notStar a && chkE T N y sc b && notStar b && !isBor x && !isBor y
    | _ => false
  | .rng3, [x, y, z], sc, _, e => match asCall e with
    | some (fe, [a, b, c]) => glOk sc "range" fe && chkE T N x sc a && notStar a && chkE T N y sc b && notStar b && chkE T N z sc c && notStar c && !isBor x && !isBor y && !isBor z
    | _ => false
  | .zip, [x, y], sc, tg, e => match asCall e with
    | some (fe, [a, b]) => isTupE tg && glOk sc "zip" fe && chkE T N x sc a && notStar a && chkE T N y sc b && notStar b && !isBor x && !isBor y
    | _ => false
  | .enm, [x], sc, tg, e => match asCall e with
    | some (fe, [a]) => isTupE tg && glOk sc "enumerate" fe && chkE T N x sc a && notStar a && !isBor x
    | _ => false
  | .rev, [x], sc, _, e => match asCall e with
    | some (fe, [a]) => glOk sc "reversed" fe && chkE T N x sc a && notStar a && !isBor x
    | _ => false
  | .rvr1, [x], sc, _, e => match asCall e with
    | some (fe, [r]) => match asCall r with
      | some (fr, [a]) => glOk sc "reversed" fe && glOk sc "range" fr && chkE T N x sc a && notStar a && !isBor x
      | _ => false
    | _ => false
  | .rvr2, [x, y], sc, _, e => match asCall e with
    | some (fe, [r]) => match asCall r with
      | some (fr, [a, b]) => glOk sc "reversed" fe && glOk sc "range" fr && chkE T N x sc a && notStar a && chkE T N y sc b && notStar b && !isBor x && !isBor y
      | _ => false
    | _ => false
  | _, _, _, _, _ => false
end

theorem asCon_eq {e : Expr} {c : Const} (h : asCon e = some c) : ∃ j p, e = .Constant c j p := by
  cases e <;> first | (cases h; exact ⟨_, _, rfl⟩) | cases h
theorem asNm_eq {e : Expr} {c : Str} (h : asNm e = some c) : ∃ p, e = .Name c p := by
  cases e <;> first | (cases h; exact ⟨_, rfl⟩) | cases h
theorem asBin_eq {e a b : Expr} {o : Operator} (h : asBin e = some (a, o, b)) : ∃ p, e = .BinOp a o b p := by
  cases e <;> first | (cases h; exact ⟨_, rfl⟩) | cases h
theorem asNeg_eq {e a : Expr} (h : asNeg e = some a) : ∃ p, e = .UnaryOp .USub a p := by
  unfold asNeg at h; split at h <;> first | (cases h; exact ⟨_, rfl⟩) | cases h
theorem asNot_eq {e a : Expr} (h : asNot e = some a) : ∃ p, e = .UnaryOp .Not a p := by
  unfold asNot at h; split at h <;> first | (cases h; exact ⟨_, rfl⟩) | cases h
theorem asCmp1_eq {e a b : Expr} {o : CmpOp} (h : asCmp1 e = some (a, o, b)) : ∃ p, e = .Compare a [o] [b] p := by
  unfold asCmp1 at h; split at h <;> first | (cases h; exact ⟨_, rfl⟩) | cases h
theorem asCmp2_eq {e a b c : Expr} {o q : CmpOp} (h : asCmp2 e = some (a, o, b, q, c)) : ∃ p, e = .Compare a [o, q] [b, c] p := by
  unfold asCmp2 at h; split at h <;> first | (cases h; exact ⟨_, rfl⟩) | cases h
theorem asAnd_eq {e a b : Expr} {r : List Expr} {p : Pos} (h : asAnd e = some (a, b, r, p)) : e = .BoolOp .And (a :: b :: r) p := by
  unfold asAnd at h; split at h <;> first | (cases h; rfl) | cases h
theorem asOr_eq {e a b : Expr} {r : List Expr} {p : Pos} (h : asOr e = some (a, b, r, p)) : e = .BoolOp .Or (a :: b :: r) p := by
  unfold asOr at h; split at h <;> first | (cases h; rfl) | cases h
theorem asIf_eq {e a b c : Expr} (h : asIf e = some (c, a, b)) : ∃ p, e = .IfExp c a b p := by
  cases e <;> first | (cases h; exact ⟨_, rfl⟩) | cases h
theorem asTup_eq {e : Expr} {c : List Expr} (h : asTup e = some c) : ∃ k p, e = .Tuple c k p := by
  cases e <;> first | (cases h; exact ⟨_, _, rfl⟩) | cases h
theorem asLst_eq {e : Expr} {c : List Expr} (h : asLst e = some c) : ∃ p, e = .List c p := by
  cases e <;> first | (cases h; exact ⟨_, rfl⟩) | cases h
theorem asSub_eq {e a b : Expr} (h : asSub e = some (a, b)) : ∃ p, e = .Subscript a b p := by
  cases e <;> first | (cases h; exact ⟨_, rfl⟩) | cases h
theorem asRvs_eq {e x : Expr} (h : asRvs e = some x) : ∃ k p1 p2 p3 p, e = .Subscript x (.Slice none none (some (.UnaryOp .USub (.Constant (.int 1) k p1) p2)) p3) p := by
  unfold asRvs at h; split at h <;> first | (cases h; exact ⟨_, _, _, _, _, rfl⟩) | cases h
theorem asSlc_eq {e : Expr} {a b : Option Expr} (h : asSlc e = some (a, b)) : ∃ p, e = .Slice a b none p := by
  unfold asSlc at h; split at h <;> first | (cases h; exact ⟨_, rfl⟩) | cases h
theorem asCall_eq {e f : Expr} {xs : List Expr} (h : asCall e = some (f, xs)) : ∃ p, e = .Call f xs [] p := by
  unfold asCall at h; split at h <;> first | (cases h; exact ⟨_, rfl⟩) | cases h
theorem asComp_eq {e ee te iter : Expr} {ifs : List Expr} {cs : Scope} (h : asComp e = some (ee, te, iter, ifs, cs)) : ∃ p, e = .ListComp ee [⟨te, iter, ifs, 0⟩] cs p := by
  unfold asComp at h; split at h <;> first | (cases h; exact ⟨_, rfl⟩) | cases h
end Dw

namespace Dw
open PySem PySem.Spec PyProof.Rows L2
section
variable {g : G} {Hs H Hs1 H1 : Hp}
def EXc (g : G) (E : XK) (Hs H : Hp) (c : Nat) : Prop := ∀ Hs' H', Ext Hs H Hs' H' → E (.ref (g.xa c)) none H'
theorem EXc.ext {E : XK} {c : Nat} (h : EXc g E Hs H c) (e : Ext Hs H Hs1 H1) : EXc g E Hs1 H1 c := fun Hs' H' e' => h Hs' H' (e.trans e')
theorem PR.ext {d : D} {Q : VK} (h : PR g Hs H d Q) (e : Ext Hs H Hs1 H1) : PR g Hs1 H1 d Q := fun v Hs' H' e' f => h v Hs' H' (e.trans e') (by
  rcases f with f | ⟨p, vs, ds, k1, k2, k3, k4⟩
  · exact .inl f
  · exact .inr ⟨p, vs, ds, k1, k2, e.all.free k3, k4⟩)
theorem PV.ext {d : D} {Q : VK} (h : PV g Hs H d Q) (e : Ext Hs H Hs1 H1) : PV g Hs1 H1 d Q := fun v Hs' H' e' f => h v Hs' H' (e.trans e') f
theorem PO'.ext {d : D} {Q : VK} (h : PO' g Hs H d Q) (e : Ext Hs H Hs1 H1) : PO' g Hs1 H1 d Q := fun v Hs' H' e' f => h v Hs' H' (e.trans e') f
theorem PV.toR {d : D} {Q : VK} (h : PV g Hs H d Q) : PR g Hs H d Q := fun v Hs' H' e f => let ⟨Hs'', e2, r⟩ := f.seen e; h v Hs'' H' e2 r
theorem PO'.toR {d : D} {Q : VK} (h : PO' g Hs H d Q) : PR g Hs H d Q := fun v Hs' H' e f => h v Hs' H' e f.b
theorem PO'.toV {d : D} {Q : VK} (h : PO' g Hs H d Q) : PV g Hs H d Q := fun v Hs' H' e f => h v Hs' H' e (.inl f)
theorem PR.mono {d : D} {Q Q' : VK} (h : PR g Hs H d Q) (k : ∀ v H', Q v H' → Q' v H') : PR g Hs H d Q' := fun v Hs' H' e f => k v H' (h v Hs' H' e f)
end

section
variable (g : G) (F : Fs) (H0 : Hp) (E : XK)
def tM (post : Hp → Hp → D → VK → Prop) (x : Ex) : TE := fun σ H Q => ∃ ρ Hs, RE g H0 Hs H ρ σ ∧ holds (evE F x ρ) (fun d => post Hs H d Q) (EXc g E Hs H)
abbrev tE (x : Ex) : TE := tM g F H0 E (PV g) x
abbrev tO (x : Ex) : TE := tM g F H0 E (PO' g) x
abbrev tR (x : Ex) : TE := tM g F H0 E (PR g) x
def tT (x : Ex) : TT := fun σ H Q => ∃ ρ Hs, RE g H0 Hs H ρ σ ∧ holds (evE F x ρ) (fun d => ∃ b, d = .bl b ∧ ∀ Hs' H', Ext Hs H Hs' H' → Q b H') (EXc g E Hs H)
def tA (es : List Ex) : TA := fun σ H Q => ∃ ρ Hs, RE g H0 Hs H ρ σ ∧ holds (evL F es ρ) (fun ds => ∀ vs Hs' H', Ext Hs H Hs' H' → BReps g Hs' H' vs ds → (lends es = false → Reps g Hs' vs ds) → Q vs H') (EXc g E Hs H)
def tOp' (x : Option Ex) : TO := fun σ H Q => ∃ ρ Hs, RE g H0 Hs H ρ σ ∧ holds (evO F x ρ) (fun o => ∀ Hs' H', Ext Hs H Hs' H' → Q o H') (EXc g E Hs H)
def tI (k : Ik) (es : List Ex) : TI := fun σ H R => ∃ ρ Hs, RE g H0 Hs H ρ σ ∧ holds ((evL F es ρ).bind fun ds => itD k ds) (fun its => ∀ J Hs' H', Ext Hs H Hs' H' → WalkD g Hs' H' J its → R J H') (EXc g E Hs H)
/-- a def's promise -/
def spF (i : Nat) (np : Nat) (fr : Bool) : Sp := fun vs H Q E => ∃ Hs ds, Same Hs H ∧ Reps g Hs vs ds ∧ vs.length = np ∧
  holds (F i ds) (fun d => match fr with | true => PR g Hs H d Q | false => PV g Hs H d Q) (EXc g E Hs H)
end
/-- what a def is called by -/
structure Callable (g : G) (F : Fs) (CX : CXT) (X : Cx) (i : Nat) (fi : FI) : Prop where
  ex : ∃ (k : Nat) (f : Addr) (fd : FuncData) (ps : List Str), X.mg fi.name = some (.ref f) ∧ PySem.W.keepIn X.K (.ref f) = true ∧ Room k X.A ∧ FnOk X.prog X.w X.K X.mg X.base CX k f fd ps (spF g F i fi.np fi.fr) ∧
    ∀ j, j ≤ fi.ds.length → ∃ dvs dus, Binds X.K fd ps dus ∧ Vals dvs dus ∧ ∀ H, Reps g H dvs (fi.ds.drop j)
def biNames : List Str := ["len", "min", "max", "sum", "abs", "tuple", "list", "int", "any", "all", "sorted", "range", "enumerate", "zip", "reversed", "isinstance", "bool", "str"]
structure XOk (g : G) (T : Tab) (F : Fs) (CX : CXT) (X : Cx) : Prop where
  K : X.K = g.K
  nd : X.N.Nodup
  calm : X.calm = true
  un : X.A.units + 64 < cLine
  blt : ∀ n ∈ biNames, X.mg n = none
  fns : ∀ (i : Nat) (fi : FI), T.fn i = some fi → Callable g F CX X i fi
  cons : ∀ p ∈ T.cons, ∃ u v, X.mg p.1 = some u ∧ RelV v u ∧ ∀ H, Rep g H v p.2
  px : ∀ X' : Cx, X'.prog = X.prog → X'.w = X.w → Passes CX X' E0

section
variable {g : G} {T : Tab} {F : Fs} {H0 : Hp} {E : XK} {X : Cx} {CX : CXT}
theorem pew {e : Expr} {t t' : TE} (h : PE X e t) (w : ∀ pins s σ H Q, Inv X pins σ H s → t' σ H Q → t σ H Q) : PE X e t' := ⟨fun pins s σ H Q I q => h.run pins s σ H Q I (w pins s σ H Q I q)⟩
theorem ptw {e : Expr} {t t' : TT} (h : PT X e t) (w : ∀ pins s σ H Q, Inv X pins σ H s → t' σ H Q → t σ H Q) : PT X e t' := ⟨fun pins s σ H Q I q => h.run pins s σ H Q I (w pins s σ H Q I q)⟩
theorem pww {e : Expr} {t t' : TT} (h : PW X e t) (w : ∀ pins s σ H Q, Inv X pins σ H s → t' σ H Q → t σ H Q) : PW X e t' := ⟨fun wh pins s σ H Q I q => h.run wh pins s σ H Q I (w pins s σ H Q I q)⟩
theorem paw {es : List Expr} {t t' : TA} (h : PA X es t) (w : ∀ pins s σ H Q, Inv X pins σ H s → t' σ H Q → t σ H Q) : PA X es t' := ⟨fun pos pins s σ H Q I q => h.run pos pins s σ H Q I (w pins s σ H Q I q)⟩
theorem pow {e : Option Expr} {t t' : TO} (h : PO X e t) (w : ∀ σ H Q, t' σ H Q → t σ H Q) : PO X e t' := ⟨fun pins s σ H Q I q => h.run pins s σ H Q I (w σ H Q q)⟩
theorem piw {tg e : Expr} {t t' : TI} (h : PI X tg e t) (w : ∀ pins s σ H Q, Inv X pins σ H s → t' σ H Q → t σ H Q) : PI X tg e t' := ⟨fun pins s σ H Q I q => h.run pins s σ H Q I (w pins s σ H Q I q)⟩

/-- what is shown of an expression -/
structure Snd (g : G) (T : Tab) (F : Fs) (H0 : Hp) (E : XK) (X : Cx) (x : Ex) (e : Expr) : Prop where
  v : isBor x = false → PE X e (tE g F H0 E x)
  o : PE X e (tO g F H0 E x)
  r : isFr T x = true → PE X e (tR g F H0 E x)
  t : notIf e = true → isBor x = false → PT X e (tT g F H0 E x)
  w : isBoolOp e = true → PW X e (tT g F H0 E x)
theorem tM_mono {p q : Hp → Hp → D → VK → Prop} {x : Ex} (h : ∀ Hs H d Q, p Hs H d Q → q Hs H d Q) : ∀ σ H Q, tM g F H0 E p x σ H Q → tM g F H0 E q x σ H Q := fun σ H Q ⟨ρ, Hs, re, k⟩ => ⟨ρ, Hs, re, holds_mono k (fun d _ z => h Hs H d Q z) fun _ z => z⟩
theorem val_test {x : Ex} {e : Expr} (h : PE X e (tE g F H0 E x)) (hp : plainT e = true) : PT X e (tT g F H0 E x) := by
  refine ptw (pt_val h ?_) fun pins s σ H Q I ⟨ρ, Hs, re, k⟩ => ⟨ρ, Hs, re, holds_mono k (fun d _ ⟨b, e1, q⟩ => ?_) fun _ z => z⟩
  · intro whole
    cases e <;> first | rfl | (simp only [plainT, Bool.false_eq_true] at hp) | skip
    rename_i op _ _
    cases op <;> first | rfl | (simp only [plainT, Bool.false_eq_true] at hp)
  · subst e1
    intro v Hs' H' ex r
    cases r
    exact ⟨b, rfl, q Hs' H' ex⟩
theorem Snd.ofR {x : Ex} {e : Expr} (h : PE X e (tR g F H0 E x)) (hp : plainT e = true) (hb : isBoolOp e = false) : Snd g T F H0 E X x e :=
  have hv : PE X e (tE g F H0 E x) := pew h fun _ _ _ _ _ _ => tM_mono (fun _ _ _ _ z => z.toR) _ _ _
  ⟨fun _ => hv, pew h fun _ _ _ _ _ _ => tM_mono (fun _ _ _ _ z => z.toR) _ _ _, fun _ => h, fun _ _ => val_test hv hp, fun z => by rw [hb] at z; cases z⟩
theorem Snd.ofV {x : Ex} {e : Expr} (h : PE X e (tE g F H0 E x)) (hp : plainT e = true) (hb : isBoolOp e = false) (hf : isFr T x = false) : Snd g T F H0 E X x e :=
  ⟨fun _ => h, pew h fun _ _ _ _ _ _ => tM_mono (fun _ _ _ _ z => z.toV) _ _ _, fun z => (by rw [hf] at z; cases z), fun _ _ => val_test h hp, fun z => by rw [hb] at z; cases z⟩
/-- two operands, an operation -/
theorem two {a b : Ex} {f : D → D → M D} {ρ : List Sl} {σ : L2.St} {Hs H : Hp} {Q : VK} (re : RE g H0 Hs H ρ σ)
    (h : holds ((evE F a ρ).bind fun x => (evE F b ρ).bind fun y => f x y) (fun d => PR g Hs H d Q) (EXc g E Hs H)) : tO g F H0 E a σ H fun x H1 => tO g F H0 E b σ H1 fun y H2 => rD2 g f x y H2 Q :=
  ⟨ρ, Hs, re, holds_mono (holds_bind h) (fun da _ h2 v Hs1 H1 e1 b1 => ⟨ρ, Hs1, re.ext e1, holds_mono (holds_bind h2) (fun db _ h3 w Hs2 H2 e2 b2 =>
    ⟨Hs2, da, db, e2.sub, b1.ext e2, b2, holds_mono h3 (fun d _ q => q.ext (e1.trans e2)) fun _ _ => trivial⟩) fun _ z => z.ext e1⟩) fun _ z => z⟩
theorem star_cons {e : Expr} {es : List Expr} {env : Env} (h : notStar e = true) : starEach (e :: es) env = (false, eval e env) :: starEach es env := by
  cases e <;> first | rfl | (simp only [notStar, Bool.false_eq_true] at h)
theorem noSet_marks {b : Expr} {op : CmpOp} (h : notSet b = true) : behindInMarks op b = false := by
  cases b <;> first | rfl | (simp only [notSet, Bool.false_eq_true] at h)
theorem noSet_fold {b : Expr} {env : Env} (h : notSet b = true) : ∀ x, foldedSetIterable b env x = pure x := by
  intro x
  cases b <;> first | rfl | (simp only [notSet, Bool.false_eq_true] at h)
theorem plain_ix {b : Expr} (h : notSlice b = true) : PlainIx b := by
  intro o i
  cases b <;> first | rfl | (simp only [notSlice, Bool.false_eq_true] at h)
theorem vis_of {sc : Scope} {x : Str} (h : visB sc x = true) : Vis sc x := by
  unfold visB at h
  unfold Vis
  split at h <;> simp_all
theorem nm_of {N : List Str} {sc : Scope} {i : Nat} {e : Expr} (h : nmOk N sc i e = true) : ∃ x p, e = .Name x p ∧ N[i]? = some x ∧ Vis sc x ∧ (x == ("__debug__" : Str)) = false ∧ (x == ("__classdict__" : Str)) = false := by
  cases e <;> simp only [nmOk, Bool.false_eq_true, Bool.and_eq_true, Bool.not_eq_true', decide_eq_true_eq] at h
  exact ⟨_, _, rfl, h.1.1.1, vis_of h.1.1.2, h.1.2, h.2⟩
theorem gl_of {sc : Scope} {x : Str} {e : Expr} (h : glOk sc x e = true) : ∃ p, e = .Name x p ∧ glB sc x = true ∧ (x == ("__debug__" : Str)) = false ∧ x ≠ "__name__" := by
  cases e <;> simp only [glOk, Bool.false_eq_true, Bool.and_eq_true, Bool.not_eq_true', decide_eq_true_eq, decide_eq_false_iff_not] at h
  obtain ⟨⟨⟨h1, h2⟩, h3⟩, h4⟩ := h
  subst h1
  exact ⟨_, rfl, h2, h3, h4⟩
theorem Gl_of {X : Cx} {x : Str} (h : glB X.env.scope x = true) : Gl X x := by
  unfold glB at h
  unfold Gl Env.kindOf
  split at h <;> simp_all
end
end Dw

namespace Dw
open PySem PySem.Spec PyProof.Rows L2
section
variable {g : G} {Hs H H0 Hs' H' : Hp} {ρ ρ' : List Sl} {σ : L2.St}
/-! ### slots stored, forgotten -/
theorem set_get {α : Type} {l : List α} {i j : Nat} {a b : α} (h : (l.set i a)[j]? = some b) : (i = j ∧ b = a) ∨ (i ≠ j ∧ l[j]? = some b) := by
  by_cases e : i = j
  · subst e
    by_cases hl : i < l.length
    · rw [List.getElem?_set_self hl] at h
      cases h
      exact .inl ⟨rfl, rfl⟩
    · rw [List.getElem?_eq_none (by rw [List.length_set]; omega)] at h
      cases h
  · rw [List.getElem?_set_ne e] at h
    exact .inr ⟨e, h⟩
theorem get_set_self {α : Type} {l : List α} {i : Nat} {a b : α} (h : (l.set i b)[i]? = some a) : ∀ c, (l.set i c)[i]? = some c := fun c => by
  by_cases hl : i < l.length
  · exact List.getElem?_set_self hl
  · rw [List.getElem?_eq_none (by rw [List.length_set]; omega)] at h
    cases h
theorem RE.set (r : RE g H0 Hs H ρ σ) (i : Nat) {v : V} {d : D} (q : Rep g Hs v d) : RE g H0 Hs H (setV ρ i d) (σ.set i (some v)) where
  sub := r.sub
  len := by unfold setV; rw [List.length_set, List.length_set, r.len]
  sh := fun j e h => by
    unfold setV at h
    rcases set_get h with ⟨rfl, h1⟩ | ⟨hn, h1⟩
    · cases h1
      have hl : i < σ.length := by
        rw [← r.len]
        by_cases z : i < ρ.length
        · exact z
        · rw [List.getElem?_eq_none (by rw [List.length_set]; omega)] at h; cases h
      exact ⟨v, List.getElem?_set_self hl, q⟩
    · obtain ⟨w, k1, k2⟩ := r.sh j e h1
      exact ⟨w, by rw [List.getElem?_set_ne hn]; exact k1, k2⟩
  ow := fun j ds h => by
    unfold setV at h
    rcases set_get h with ⟨rfl, h1⟩ | ⟨hn, h1⟩
    · cases h1
    · obtain ⟨p, vs, k1, k2⟩ := r.ow j ds h1
      exact ⟨p, vs, by rw [List.getElem?_set_ne hn]; exact k1, k2⟩
  ap := fun a b ds es p hab h1 h2 h3 h4 => by
    unfold setV at h1 h2
    rcases set_get h1 with ⟨rfl, z⟩ | ⟨n1, z1⟩
    · cases z
    rcases set_get h2 with ⟨rfl, z⟩ | ⟨n2, z2⟩
    · cases z
    rw [List.getElem?_set_ne n1] at h3
    rw [List.getElem?_set_ne n2] at h4
    exact r.ap a b ds es p hab z1 z2 h3 h4
theorem RE.drop1 (r : RE g H0 Hs H ρ σ) (i : Nat) : RE g H0 Hs H (ρ.set i .no) (σ.set i none) where
  sub := r.sub
  len := by rw [List.length_set, List.length_set, r.len]
  sh := fun j e h => by
    rcases set_get h with ⟨rfl, h1⟩ | ⟨hn, h1⟩
    · cases h1
    · obtain ⟨w, k1, k2⟩ := r.sh j e h1
      exact ⟨w, by rw [List.getElem?_set_ne hn]; exact k1, k2⟩
  ow := fun j ds h => by
    rcases set_get h with ⟨rfl, h1⟩ | ⟨hn, h1⟩
    · cases h1
    · obtain ⟨p, vs, k1, k2⟩ := r.ow j ds h1
      exact ⟨p, vs, by rw [List.getElem?_set_ne hn]; exact k1, k2⟩
  ap := fun a b ds es p hab h1 h2 h3 h4 => by
    rcases set_get h1 with ⟨rfl, z⟩ | ⟨n1, z1⟩
    · cases z
    rcases set_get h2 with ⟨rfl, z⟩ | ⟨n2, z2⟩
    · cases z
    rw [List.getElem?_set_ne n1] at h3
    rw [List.getElem?_set_ne n2] at h4
    exact r.ap a b ds es p hab z1 z2 h3 h4
theorem RE.wipe (r : RE g H0 Hs H ρ σ) : ∀ is : List Nat, RE g H0 Hs H (wipeD ρ is) (L2.wipe σ is)
  | [] => r
  | i :: is => by
    unfold wipeD L2.wipe
    exact (RE.wipe r is).drop1 i
theorem wipe_at (σ : L2.St) (j : Nat) : ∀ vs : List Nat, (L2.wipe σ vs)[j]? = if j ∈ vs then σ[j]?.map fun _ => none else σ[j]?
  | [] => by simp [L2.wipe]
  | v :: vs => by
    unfold L2.wipe
    by_cases e : v = j
    · subst e
      rw [if_pos List.mem_cons_self]
      by_cases hl : v < σ.length
      · rw [List.getElem?_set_self (by rw [wipe_length]; exact hl), List.getElem?_eq_getElem hl]; rfl
      · rw [List.getElem?_eq_none (by rw [List.length_set, wipe_length]; omega), List.getElem?_eq_none (by omega)]; rfl
    · rw [List.getElem?_set_ne e, wipe_at σ j vs]
      by_cases h : j ∈ vs
      · rw [if_pos h, if_pos (List.mem_cons_of_mem _ h)]
      · rw [if_neg h, if_neg (by intro z; rcases List.mem_cons.mp z with z | z; exact e z.symm; exact h z)]
theorem wipe_set (σ : L2.St) {i : Nat} {vs : List Nat} (a : Option V) (h : i ∈ vs) : L2.wipe (σ.set i a) vs = L2.wipe σ vs := by
  apply List.ext_getElem?
  intro j
  rw [wipe_at, wipe_at]
  by_cases hj : j ∈ vs
  · rw [if_pos hj, if_pos hj]
    by_cases e : i = j
    · subst e
      by_cases hl : i < σ.length
      · rw [List.getElem?_set_self hl, List.getElem?_eq_getElem hl]; rfl
      · rw [List.getElem?_eq_none (by rw [List.length_set]; omega), List.getElem?_eq_none (by omega)]
    · rw [List.getElem?_set_ne e]
  · rw [if_neg hj, if_neg hj, List.getElem?_set_ne (show i ≠ j from fun e => hj (by rw [← e]; exact h))]
theorem wipe_wipe (σ : L2.St) (vs : List Nat) : L2.wipe (L2.wipe σ vs) vs = L2.wipe σ vs := by
  apply List.ext_getElem?
  intro j
  rw [wipe_at, wipe_at]
  by_cases hj : j ∈ vs
  · rw [if_pos hj, if_pos hj]
    first | (rw [wipe_at, if_pos hj]) | skip
    cases σ[j]? <;> rfl
  · rw [if_neg hj, if_neg hj]

/-! ### targets -/
def gsD : List Nat → TGs
  | [] => gNil
  | i :: is => gCons (gName i) (gsD is)
def gD (K : PySem.W.Frag) : List Nat → TG
  | [i] => gName i
  | is => gTup K is.length (gsD is)
theorem gsD_ok : ∀ (is : List Nat) {vs : List V} {ds : List D} {σ : L2.St} {ρ ρ' : List Sl} {Q : L2.St → Hp → Prop}, RE g H0 Hs H ρ σ → Reps g Hs vs ds → setVs ρ is ds = .ok ρ' →
    (∀ σ', RE g H0 Hs H ρ' σ' → (∀ ws, (∀ i ∈ is, i ∈ ws) → L2.wipe σ' ws = L2.wipe σ ws) → Q σ' H) → gsD is vs σ H Q
  | [], _, [], σ, ρ, ρ', Q, re, .nil, h, q => by
    simp only [setVs, M.ok.injEq] at h
    subst h
    exact ⟨rfl, q σ re fun _ _ => rfl⟩
  | [], _, _ :: _, _, _, _, _, _, _, h, _ => by simp [setVs] at h
  | _ :: _, _, [], _, _, _, _, _, _, h, _ => by simp [setVs] at h
  | i :: is, _, d :: ds, σ, ρ, ρ', Q, re, .cons r t, h, q => by
    simp only [setVs] at h
    refine ⟨_, _, rfl, ?_⟩
    exact gsD_ok is (re.set i r) t h fun σ' re' hw => q σ' re' fun ws hm => by rw [hw ws fun j hj => hm j (List.mem_cons_of_mem _ hj), wipe_set _ _ (hm i List.mem_cons_self)]
theorem gD_ok {K : PySem.W.Frag} (hK : K = g.K) : ∀ (is : List Nat) {v : V} {d : D} {σ : L2.St} {ρ ρ' : List Sl} {Q : L2.St → Hp → Prop}, RE g H0 Hs H ρ σ → Rep g Hs v d → tgD ρ is d = .ok ρ' →
    (∀ σ', RE g H0 Hs H ρ' σ' → (∀ ws, (∀ i ∈ is, i ∈ ws) → L2.wipe σ' ws = L2.wipe σ ws) → Q σ' H) → gD K is v σ H Q
  | [], _, _, _, _, _, _, _, _, h, _ => by simp [tgD] at h
  | [i], v, d, σ, ρ, ρ', Q, re, r, h, q => by
    simp only [tgD, M.ok.injEq] at h
    subst h
    exact q _ (re.set i r) fun ws hm => wipe_set _ _ (hm i List.mem_cons_self)
  | i :: j :: is, v, d, σ, ρ, ρ', Q, re, r, h, q => by
    cases d <;> simp only [tgD, reduceCtorEq] at h
    cases r with
    | tup s r =>
      have hl : ∀ (is : List Nat) (ρ : List Sl) (ds : List D), setVs ρ is ds = .ok ρ' → is.length = ds.length := by
        intro is
        induction is with
        | nil => intro ρ ds h; cases ds <;> simp [setVs] at h ⊢
        | cons k ks ih => intro ρ ds h; cases ds <;> simp [setVs] at h ⊢; exact ih _ _ h
      refine ⟨_, _, rfl, by rw [hK]; exact Same.sqT re.sub s, ?_, gsD_ok (i :: j :: is) re r h q⟩
      rw [r.length]; exact (hl _ _ _ h).symm
/-- a target that is stored by name -/
theorem loc_mem {sc : Scope} : ∀ {own : List (Str × Nat)}, locAll sc own = true → ∀ p ∈ own, sc.names.lookup p.1 = some .local
  | [], _, _, hp => nomatch hp
  | (x, i) :: r, h, p, hp => by
    simp only [locAll, Bool.and_eq_true] at h
    rcases List.mem_cons.mp hp with rfl | hp
    · have h1 := h.1
      split at h1 <;> simp_all
    · exact loc_mem h.2 p hp
theorem owns_ok {X : Cx} : ∀ {es : List Expr} {is : List Nat} {own : List (Str × Nat)}, ownOf.ownsOf es is = some own → (∀ p ∈ own, X.N[p.2]? = some p.1 ∧ X.env.scope.names.lookup p.1 = some .local) → X.N.Nodup → PGs X es (gsD is) ∧ own.map (·.2) = is ∧ es.length = is.length
  | [], [], own, h, _, _ => by
    simp only [ownOf.ownsOf, Option.some.injEq] at h
    subst h
    exact ⟨pgs_nil, rfl, rfl⟩
  | [], _ :: _, _, h, _, _ => by simp [ownOf.ownsOf] at h
  | e :: es, [], _, h, _, _ => by cases e <;> simp [ownOf.ownsOf] at h
  | e :: es, i :: is, own, h, k, nd => by
    cases e <;> simp only [ownOf.ownsOf, reduceCtorEq] at h
    cases q : ownOf.ownsOf es is with
    | none => rw [q] at h; cases h
    | some r =>
      rw [q] at h
      cases h
      obtain ⟨h1, h2, h3⟩ := owns_ok q (fun p hp => k p (List.mem_cons_of_mem _ hp)) nd
      have z := k _ List.mem_cons_self
      exact ⟨pgs_cons (pg_name nd z.1 (.inl z.2) (.inr z.2)) h1, by rw [List.map_cons, h2], by rw [List.length_cons, List.length_cons, h3]⟩
theorem owns_each {X : Cx} : ∀ {es : List Expr} {is : List Nat} {own : List (Str × Nat)}, ownOf.ownsOf es is = some own → (assignEach es X.env).length = is.length ∧ (assignEach es X.env).findIdx? (·.1) = none
  | [], [], _, _ => ⟨rfl, rfl⟩
  | [], _ :: _, _, h => by simp [ownOf.ownsOf] at h
  | e :: es, [], _, h => by cases e <;> simp [ownOf.ownsOf] at h
  | e :: es, i :: is, own, h => by
    cases e <;> simp only [ownOf.ownsOf, reduceCtorEq] at h
    cases q : ownOf.ownsOf es is with
    | none => rw [q] at h; cases h
    | some r =>
      obtain ⟨h1, h2⟩ := owns_each (X := X) q
      refine ⟨by simp only [assignEach, List.length_cons]; rw [h1], ?_⟩
      simp only [assignEach, List.findIdx?_cons, h2]
      rfl
theorem own_ok {X : Cx} {e : Expr} {is : List Nat} {own : List (Str × Nat)} (h : ownOf e is = some own) (k : ∀ p ∈ own, X.N[p.2]? = some p.1 ∧ X.env.scope.names.lookup p.1 = some .local) (nd : X.N.Nodup) (hc : X.calm = true) : PG X e (gD X.K is) ∧ own.map (·.2) = is := by
  unfold ownOf at h
  split at h
  · cases h
    have z := k _ List.mem_cons_self
    exact ⟨pg_name nd z.1 (.inl z.2) (.inr z.2), rfl⟩
  · obtain ⟨h1, h2, h3⟩ := owns_ok h k nd
    refine ⟨?_, h2⟩
    obtain ⟨z1, z2⟩ := owns_each (X := X) h
    exact pg_tup (X := X) hc h1 z1 z2
  · cases h
end
end Dw

namespace Dw
open PySem PySem.Spec PyProof.Rows L2
section
variable {g : G} {T : Tab} {F : Fs} {H0 : Hp} {CX : CXT}
theorem boot_bi (b : Bi) : bootBuiltins (biName b) = some (biVal b) := by cases b <;> decide +kernel
theorem bi_in (b : Bi) : biName b ∈ biNames := by cases b <;> decide +kernel
theorem ty_in (t : Ty) : tyStr t ∈ biNames ∨ True := .inr trivial
theorem boot_ty (t : Ty) : bootBuiltins (tyStr t) = some (.type (tyName t)) := by cases t <;> decide +kernel
theorem ty_in' (t : Ty) : tyStr t ∈ biNames := by cases t <;> decide +kernel
/-- a built-in's call, function or class -/
theorem pe_bi {X : Cx} {b : Bi} {r : List V → Hp → VK → Prop} {p pos : Pos} {e : Expr} {es : List Expr} {t : TA} (hc : CallR X (biVal b) r) (hg : Gl X (biName b)) (hm : X.mg (biName b) = none) (ha : PA X (e :: es) t) (hdb : (biName b == ("__debug__" : Str)) = false) (hn : biName b ≠ "__name__")
    (he : starEach (e :: es) X.env = (false, eval e X.env) :: starEach es X.env) (hpl : (backTo pos (starEach es X.env)).any (·.1) = false) : PE X (.Call (.Name (biName b) p) (e :: es) [] pos) (tCB r t) := by
  have hv := boot_bi b
  cases h : biVal b <;> rw [h] at hc hv <;> first | exact pe_callB hc hg hm hv ha hn hdb he hpl | exact pe_callTy hc hg hm hv ha hn hdb he hpl | (cases b <;> cases h)
theorem no_star {N : List Str} {sc : Scope} {env : Env} {pos : Pos} : ∀ (es : List Ex) (xs : List Expr), chkL T N es sc xs = true → (backTo pos (starEach xs env)).any (·.1) = false
  | [], [], _ => rfl
  | [], _ :: _, h => by simp [chkL] at h
  | _ :: _, [], h => by simp [chkL] at h
  | e :: es, x :: xs, h => by
    simp only [chkL, Bool.and_eq_true] at h
    rw [star_cons h.1.2]
    have ih := no_star (env := env) (pos := pos) es xs h.2
    unfold backTo at ih ⊢
    rw [List.map_cons, List.any_cons, ih]
    rfl
/-- the view with all lists of the heap -/
def lstView (Hs H : Hp) : Hp := fun a => match Hs a with
  | some o => some o
  | none => match H a with
    | some (.lst vs) => some (.lst vs)
    | _ => none
theorem lv_sub {Hs H : Hp} (e : Same Hs H) : Same (lstView Hs H) H := fun a o h => by
  unfold lstView at h
  cases q : Hs a with
  | some u => rw [q] at h; cases h; exact e a _ q
  | none =>
    rw [q] at h
    simp only at h
    split at h
    · rename_i vs hv
      cases h
      exact hv
    · cases h
theorem lv_view {Hs H : Hp} : Same Hs (lstView Hs H) := fun a o h => by
  unfold lstView
  rw [h]
theorem lv_rep {Hs H : Hp} (e : Same Hs H) {v : V} {d : D} (b : BRep g Hs H v d) : Rep g (lstView Hs H) v d := by
  rcases b with b | ⟨p, vs, ds, rfl, rfl, h3, h4⟩
  · exact b.mono lv_view
  · refine .lst (.inl (.inl ?_)) (h4.mono lv_view)
    unfold lstView
    cases q : Hs p with
    | some u => rw [e p u q] at h3; cases h3; rfl
    | none => simp only; rw [h3]
theorem lv_reps {Hs H : Hp} (e : Same Hs H) : ∀ {vs : List V} {ds : List D}, BReps g Hs H vs ds → Reps g (lstView Hs H) vs ds
  | _, _, .nil => .nil
  | _, _, .cons b t => .cons (lv_rep e b) (lv_reps e t)
/-- a view without what was in H but not in Hs -/
def cutView (Hs H Hs' : Hp) : Hp := fun a => match Hs a, H a with
  | none, some _ => none
  | _, _ => Hs' a
mutual
theorem cut_rep {Hs H Hs' H' : Hp} (x : Ext (lstView Hs H) H Hs' H') : ∀ {v : V} {d : D}, noLst d = true → Rep g Hs' v d → Rep g (cutView Hs H Hs') v d
  | _, _, _, .non => .non
  | _, _, _, .bl b => .bl b
  | _, _, _, .int i => .int i
  | _, _, _, .str z => .str z
  | _, _, h, .tup (a := a) (vs := vs) s r => by
    refine .tup ?_ (cut_reps' x (by simpa only [noLst] using h) r)
    rcases s with s | s
    · have key : ∀ o, Hs' a = some o → (o = .tup vs ∨ ∃ ob, o = .frz ob (.tup vs)) → cutView Hs H Hs' a = some o := fun o ho hk => by
        unfold cutView
        cases q : Hs a with
        | some u => simp only; exact ho
        | none =>
          cases q2 : H a with
          | none => simp only; exact ho
          | some u =>
            exfalso
            have h1 := x.all a u q2
            have h2 := x.sub a o ho
            rw [h1] at h2
            cases h2
            have h3 : lstView Hs H a = none := by
              unfold lstView
              rw [q]
              simp only
              rw [q2]
              rcases hk with rfl | ⟨ob, rfl⟩ <;> rfl
            rw [x.out a _ q2 h3] at ho
            cases ho
      rcases s with s | ⟨ob, s⟩
      · exact .inl (.inl (key _ s (.inl rfl)))
      · exact .inl (.inr ⟨ob, key _ s (.inr ⟨ob, rfl⟩)⟩)
    · exact .inr s
  | _, _, h, .lst _ _ => by simp only [noLst, Bool.false_eq_true] at h
  | _, _, h, .ins _ _ _ => by simp only [noLst, Bool.false_eq_true] at h
theorem cut_reps' {Hs H Hs' H' : Hp} (x : Ext (lstView Hs H) H Hs' H') : ∀ {vs : List V} {ds : List D}, noLsts ds = true → Reps g Hs' vs ds → Reps g (cutView Hs H Hs') vs ds
  | _, _, _, .nil => .nil
  | _, _, h, .cons r t => by
    simp only [noLsts, Bool.and_eq_true] at h
    exact .cons (cut_rep x h.1 r) (cut_reps' x h.2 t)
end
theorem cut_ext {Hs H Hs' H' : Hp} (e : Same Hs H) (x : Ext (lstView Hs H) H Hs' H') : Ext Hs H (cutView Hs H Hs') H' := by
  refine ⟨x.all, fun a o h => ?_, fun a o h => ?_, fun a o h hn => ?_⟩
  · unfold cutView
    rw [h]
    exact x.view a o (lv_view a o h)
  · unfold cutView at h
    cases q : Hs a with
    | some u => rw [q] at h; exact x.sub a o h
    | none =>
      cases q2 : H a with
      | some u => rw [q, q2] at h; cases h
      | none => rw [q, q2] at h; exact x.sub a o h
  · unfold cutView
    rw [hn, h]
/-- the callee's promise from the arguments' -/
theorem callee {i np : Nat} {fr lb : Bool} {vs dvs : List V} {ds dfl : List D} {Hs H : Hp} {Q : VK} {E : XK} (sub : Same Hs H) (bs : BReps g Hs H vs ds) (rs : lb = false → Reps g Hs vs ds) (hd : ∀ H, Reps g H dvs dfl) (hl : (vs ++ dvs).length = np)
    (h : holds (lent lb (F i (ds ++ dfl))) (fun d => match fr with | true => PR g Hs H d Q | false => PV g Hs H d Q) (EXc g E Hs H)) : spF g F i np fr (vs ++ dvs) H Q E := by
  cases lb with
  | false =>
    refine ⟨Hs, ds ++ dfl, sub, (rs rfl).append (hd _), hl, ?_⟩
    cases q : F i (ds ++ dfl) with
    | no => rw [q] at h; exact h
    | ok d => rw [q] at h; exact h
    | ex c => rw [q] at h; exact h
  | true =>
    refine ⟨lstView Hs H, ds ++ dfl, lv_sub sub, (lv_reps sub bs).append (hd _), hl, ?_⟩
    cases q : F i (ds ++ dfl) with
    | no => rw [q] at h; exact h
    | ok d =>
      rw [q] at h
      obtain ⟨hn, h⟩ := holds_gd (show holds (gd (!true || noLst d) d) _ _ from h)
      have hn : noLst d = true := hn
      cases fr with
      | false => exact fun v Hs' H' x r => h v _ H' (cut_ext sub x) (cut_rep x hn r)
      | true =>
        intro v Hs' H' x r
        rcases r with ⟨r, z⟩ | ⟨_, _, _, _, z, _⟩
        · exact h v _ H' (cut_ext sub x) (.inl ⟨cut_rep x hn r, z⟩)
        · subst z; simp only [noLst, Bool.false_eq_true] at hn
    | ex c =>
      rw [q] at h
      exact fun Hs' H' x => h Hs H' ⟨x.all, Same.refl _, sub.trans x.all, fun _ _ _ n => n⟩
end
end Dw

namespace Dw
open PySem PySem.Spec PyProof.Rows L2
section
variable {g : G} {T : Tab} {F : Fs} {H0 : Hp} {CX : CXT}
/-- what is shown of an argument list, of a walk -/
def SndL (g : G) (F : Fs) (H0 : Hp) (E : XK) (X : Cx) (es : List Ex) (xs : List Expr) : Prop := PA X xs (tA g F H0 E es)
theorem lends_cons {x : Ex} {es : List Ex} : lends (x :: es) = (isBor x || lends es) := by cases x <;> rfl
theorem sargs_cons {x : Ex} {es : List Ex} {E : XK} {X : Cx} {e : Expr} {xs : List Expr} (hx : Snd g T F H0 E X x e) (hn : notStar e = true) (hs : PA X xs (tA g F H0 E es)) : PA X (e :: xs) (tA g F H0 E (x :: es)) := by
  cases hb : isBor x with
  | false =>
    refine paw (pa_cons (hx.v hb) hs (star_cons hn)) fun pins s σ H Q I ⟨ρ, Hs, re, h⟩ => ?_
    unfold evL at h
    refine ⟨ρ, Hs, re, holds_mono (holds_bind h) (fun d _ h2 v Hs1 H1 e1 r1 => ⟨ρ, Hs1, re.ext e1, holds_mono (holds_bind h2) (fun ds _ q vs Hs2 H2 e2 b2 r2 => ?_) fun _ z => z.ext e1⟩) fun _ z => z⟩
    refine q (v :: vs) Hs2 H2 (e1.trans e2) (.cons (.inl (r1.mono e2.view)) b2) fun hl => .cons (r1.mono e2.view) (r2 ?_)
    rw [lends_cons, hb] at hl
    exact hl
  | true =>
    refine paw (pa_cons hx.o hs (star_cons hn)) fun pins s σ H Q I ⟨ρ, Hs, re, h⟩ => ?_
    unfold evL at h
    refine ⟨ρ, Hs, re, holds_mono (holds_bind h) (fun d _ h2 v Hs1 H1 e1 r1 => ⟨ρ, Hs1, re.ext e1, holds_mono (holds_bind h2) (fun ds _ q vs Hs2 H2 e2 b2 r2 => ?_) fun _ z => z.ext e1⟩) fun _ z => z⟩
    refine q (v :: vs) Hs2 H2 (e1.trans e2) (.cons (r1.ext e2) b2) fun hl => ?_
    rw [lends_cons, hb] at hl
    cases hl
theorem sargs_nil {E : XK} {X : Cx} : PA X [] (tA g F H0 E []) := paw pa_nil fun pins s σ H Q I ⟨ρ, Hs, re, h⟩ => by
  unfold evL at h
  exact h [] Hs H (Ext.refl re.sub) .nil fun _ => .nil
theorem XOk.wish {X : Cx} (ok : XOk g T F CX X) (ex : Value → Shared → Prop) : XOk g T F CX (X.wish ex) :=
  ⟨ok.K, ok.nd, ok.calm, ok.un, ok.blt, fun i fi h => ⟨(ok.fns i fi h).ex⟩, ok.cons, ok.px⟩
theorem XOk.blk {X : Cx} (ok : XOk g T F CX X) (s : Shared) (H : Hp) (sc : Scope) (env : Env) (fp : List Addr) : XOk g T F CX (X.blk s H sc env fp) :=
  ⟨ok.K, ok.nd, ok.calm, ok.un, ok.blt, fun i fi h => ⟨(ok.fns i fi h).ex⟩, ok.cons, ok.px⟩
theorem or_pi {X : Cx} {tg e : Expr} {a b : TI} (h1 : PI X tg e a) (h2 : PI X tg e b) : PI X tg e (fun σ H R => a σ H R ∨ b σ H R) := ⟨fun pins s σ H R I h => h.elim (h1.run pins s σ H R I) (h2.run pins s σ H R I)⟩

/-- a walk's reading through its arguments' -/
theorem itr_args {k : Ik} {es : List Ex} {E : XK} {σ : L2.St} {H : Hp} {R : It → Hp → Prop} (h : tI g F H0 E k es σ H R) : tA g F H0 E es σ H fun vs H1 => ∃ Hs1 ds, Same Hs1 H1 ∧ BReps g Hs1 H1 vs ds ∧ (lends es = false → Reps g Hs1 vs ds) ∧
    ∃ its, itD k ds = .ok its ∧ ∀ J Hs' H', Ext Hs1 H1 Hs' H' → WalkD g Hs' H' J its → R J H' := by
  obtain ⟨ρ, Hs, re, h⟩ := h
  refine ⟨ρ, Hs, re, holds_mono (holds_bind h) (fun ds _ h2 vs Hs1 H1 e1 b1 r1 => ?_) fun _ z => z⟩
  refine ⟨Hs1, ds, e1.sub, b1, r1, ?_⟩
  cases q : itD k ds with
  | no => rw [q] at h2; exact h2.elim
  | ok its => rw [q] at h2; exact ⟨its, rfl, fun J Hs' H' e' w => h2 J Hs' H' (e1.trans e') w⟩
  | ex c =>
    exfalso
    unfold itD at q
    split at q <;> first | (unfold gd at q; split at q <;> cases q) | cases q
theorem rg_of {a b : Int} {its : List D} {l : List D} (h : gd (rgOk a b) l = .ok its) : (-(2 ^ 62) ≤ a ∧ a < 2 ^ 62 ∧ -(2 ^ 62) ≤ b ∧ b < 2 ^ 62) ∧ its = l := by
  unfold gd at h
  split at h
  · rename_i q
    cases h
    unfold rgOk at q
    simp only [Bool.and_eq_true, decide_eq_true_eq] at q
    exact ⟨⟨q.1.1.1, q.1.1.2, q.1.2, q.2⟩, rfl⟩
  · cases h
theorem itD_rng1 {ds its : List D} (h : itD .rng1 ds = .ok its) : ∃ j, ds = [.int j] ∧ gd (rgOk 0 j) (rgD 0 j.toNat) = .ok its := by
  unfold itD at h
  split at h <;> first | contradiction | exact ⟨_, rfl, h⟩
theorem itD_rng2 {ds its : List D} (h : itD .rng2 ds = .ok its) : ∃ i j, ds = [.int i, .int j] ∧ its = rgD i (j - i).toNat := by
  unfold itD at h
  split at h <;> first | (rename_i z _; cases z; done) | skip
  all_goals (try cases h)
  all_goals (try (rename_i z; cases z))
  all_goals (exact ⟨_, _, rfl, rfl⟩)
theorem itD_zip {ds its : List D} (h : itD .zip ds = .ok its) : (∃ xs ys, ds = [.tup xs, .tup ys] ∧ its = (xs.zip ys).map fun p => .tup [p.1, p.2]) ∨ (∃ xs ys, ds = [.lst xs, .lst ys] ∧ its = (xs.zip ys).map fun p => .tup [p.1, p.2]) := by
  unfold itD at h
  split at h <;> first | contradiction | (cases h; exact .inl ⟨_, _, rfl, rfl⟩) | (cases h; exact .inr ⟨_, _, rfl, rfl⟩)
theorem itD_enm {ds its : List D} (h : itD .enm ds = .ok its) : ∃ xs, ds = [.lst xs] ∧ its = (xs.zip (rgD 0 xs.length)).map fun p => .tup [p.2, p.1] := by
  unfold itD at h
  split at h <;> first | contradiction | (cases h; exact ⟨_, rfl, rfl⟩)
theorem pi_seq {X : Cx} {x : Ex} {E : XK} {tg e : Expr} (hK : X.K = g.K) (hx : PE X e (tE g F H0 E x)) : PI X tg e (tI g F H0 E .seq [x]) := by
  refine piw (or_pi (pi_list hx) (pi_tup hx)) fun pins s σ H R I ⟨ρ, Hs, re, h⟩ => ?_
  unfold evL evL at h
  cases q : evE F x ρ with
  | no => rw [q] at h; exact h.elim
  | ex c => rw [q] at h; exact .inl ⟨ρ, Hs, re, by rw [q]; exact h⟩
  | ok d =>
    rw [q] at h
    cases d <;> first | exact h.elim | skip
    · refine .inr ⟨ρ, Hs, re, ?_⟩
      rw [q]
      intro v Hs1 H1 e1 r1
      cases r1 with
      | tup s r => exact ⟨_, rfl, ⟨_, by rw [hK]; exact Same.sqT e1.sub s⟩, by rw [hK]; exact h _ Hs1 H1 e1 (walk_seqT s r)⟩
    · refine .inl ⟨ρ, Hs, re, ?_⟩
      rw [q]
      intro v Hs1 H1 e1 r1
      cases r1 with
      | lst s r => exact ⟨_, rfl, ⟨_, by rw [hK]; exact Same.seq e1.sub s⟩, by rw [hK]; exact h _ Hs1 H1 e1 (walk_seqL s r)⟩
theorem reps_one {Hs : Hp} {vs : List V} {d : D} (r : Reps g Hs vs [d]) : ∃ v, vs = [v] ∧ Rep g Hs v d := by
  cases r with
  | cons a t => cases t; exact ⟨_, rfl, a⟩
theorem reps_two {Hs : Hp} {vs : List V} {d e : D} (r : Reps g Hs vs [d, e]) : ∃ v w, vs = [v, w] ∧ Rep g Hs v d ∧ Rep g Hs w e := by
  cases r with
  | cons a t =>
    obtain ⟨w, rfl, b⟩ := reps_one t
    exact ⟨_, _, rfl, a, b⟩
theorem it_one {k : Ik} {ds its : List D} {x : Ex} {es : List Ex} {ρ : List Sl} (h : evL F [x] ρ = .ok ds) : ∃ d, ds = [d] := by
  unfold evL evL at h
  cases q : evE F x ρ with
  | no => rw [q] at h; cases h
  | ex c => rw [q] at h; cases h
  | ok d => rw [q] at h; cases h; exact ⟨d, rfl⟩
theorem nolend1 {x : Ex} (h : isBor x = false) : lends [x] = false := by
  cases x <;> first | rfl | (simp only [isBor, Bool.true_eq_false] at h)
theorem nolend2 {x y : Ex} (h : isBor x = false) (h2 : isBor y = false) : lends [x, y] = false := by
  cases x <;> first | exact nolend1 h2 | (simp only [isBor, Bool.true_eq_false] at h)
theorem pi_rng1 {X : Cx} {x : Ex} {E : XK} {tg a : Expr} {p pos : Pos} (hg : Gl X "range") (hm : X.mg "range" = none) (ha : PA X [a] (tA g F H0 E [x])) (na : notStar a = true) : PI X tg (.Call (.Name "range" p) [a] [] pos) (tI g F H0 E .rng1 [x]) := by
  refine piw (pi_range1 hg hm ha (star_cons na)) fun pins s σ H R I h => ?_
  obtain ⟨ρ, Hs, re, h⟩ := itr_args h
  refine ⟨ρ, Hs, re, holds_mono h (fun ds hd q vs Hs1 H1 e1 b1 r1 => ?_) fun _ z => z⟩
  obtain ⟨Hs2, es, sub, b2, _, its, hi, q⟩ := q vs Hs1 H1 e1 b1 r1
  obtain ⟨j, rfl, hi⟩ := itD_rng1 hi
  obtain ⟨v, rfl, b⟩ := b2.one
  cases b.rint
  obtain ⟨⟨_, _, h3, h4⟩, rfl⟩ := rg_of hi
  exact ⟨_, rfl, h3, h4, q _ Hs2 H1 (Ext.refl sub) walk_rg⟩
theorem turn_long {P : Program} {w : World} {K : PySem.W.Frag} {tg : Expr} (it : Addr) (lo : Int) (n : Nat) : Turn P w K tg (Itr lo n) [it] it (fun i h => IsLongIter h it (lo + (i : Nat) * 1) ((n : Int) - (i : Nat)) 1) where
  mem := by simp
  obj := fun i h st b hb => by
    have e : b = it := by simpa using hb
    subst e
    exact ⟨_, st, fun v z => by
      have z' : Data.fields _ = Data.cell v := z
      cases z'⟩
  keep := fun i h h' st k => k it (by simp) _ st
  item := by
    intro X hP hw hK hc i pins s σ H E I hf st hg
    subst hP hw hK
    obtain ⟨f0, f1, f2, f3, f4, f5⟩ := hf it (by simp)
    have W := Walks.longrange (prog := X.prog) (w := X.w) (I.ok.hd hc) it lo 1 n
    refine W.item i s _ _ hg st fun v h' tk hv st' kk => ?_
    obtain ⟨t, rfl⟩ := hv
    have I1 : Inv X pins σ H { s with heap := h', toks := tk } := I.turned (fun b o hb e => kk b o (by simpa using hb) e) f0 f1 f3 f4 f5
    refine ⟨_, rfl, go_of (s := { s with heap := h', toks := tk }) (n := "longrange_iterator") st' rfl rfl (by decide) ⟨.int (lo + i), H, I1, ⟨t, ?_⟩, ⟨rfl, rfl⟩, st', fun b hb => (hf b hb).1⟩⟩
    rw [Int.mul_one]
  done := by
    intro X hP hw hK hc i pins s σ H E I hf st hg
    subst hP hw hK
    obtain ⟨f0, f1, f2, f3, f4, f5⟩ := hf it (by simp)
    exact wpAny_pyNext_long_end (I.ok.hd hc) st (by have : n ≤ i := hg; omega) fun h' eb => ⟨rfl, I.turned (t' := s.toks) (fun b o hb e => eb b o hb e) f0 f1 f3 f4 f5⟩
  self := fun _ _ _ _ _ st h => wpAny_pyIter_longiter st h
/-- range(i, j) of any two numbers -/
theorem range_any {X : Cx} {tg : Expr} {pins : List (Addr × Obj)} {σ : L2.St} {H : Hp} {s : Shared} {R : It → Hp → Prop} {E : Value → Shared → Prop} {lo hi : Int} {t u v : Tok} {tk : Nat} (I : Inv X pins σ H s)
    (q : R (Itr lo (hi - lo).toNat) H) : wpAny (model X.prog X.w) X.A (pyIter (.ref s.heap.objs.size)) (PIE X pins σ tg R) E { s with heap := s.heap.push { cls := .type "range", data := .fields #[.int lo t, .int hi u, .int 1 v] }, toks := tk } := by
  have I1 : Inv X pins σ H { s with heap := s.heap.push { cls := .type "range", data := .fields #[.int lo t, .int hi u, .int 1 v] }, toks := tk } := I.kept fun b o e => Heap.get?_push_of_some _ e
  have e1 : lo + ((0 : Nat) : Int) * 1 = lo := by simp
  have e2 : (((hi - lo).toNat : Nat) : Int) - ((0 : Nat) : Int) = Builtin.Range.rangeSize lo hi 1 := by rw [rangeSize_one]; split <;> omega
  have hfp : ∀ b, b ∈ [(s.heap.push { cls := .type "range", data := .fields #[.int lo t, .int hi u, .int 1 v] }).objs.size] → FpOk X pins H b := fun b hb => by
    have e : b = (s.heap.push { cls := .type "range", data := .fields #[.int lo t, .int hi u, .int 1 v] }).objs.size := by simpa using hb
    subst e
    exact I1.fpOk (Nat.le_refl _) (I1.hok.fresh (Nat.le_refl _))
  cases hs : Builtin.Range.small lo hi 1 with
  | true =>
    refine wpAny_pyIter_range (IsRange.new ..) hs ?_
    refine ⟨(s.heap.push { cls := .type "range", data := .fields #[.int lo t, .int hi u, .int 1 v] }).objs.size, [(s.heap.push { cls := .type "range", data := .fields #[.int lo t, .int hi u, .int 1 v] }).objs.size], _, _, H, rfl,
      I1.kept (t' := tk) fun b o e => Heap.get?_push_of_some _ e, turn_range _ lo (hi - lo).toNat, ?_, hfp, q⟩
    show IsRangeIter _ _ (lo + ((0 : Nat) : Int) * 1) ((((hi - lo).toNat : Nat) : Int) - ((0 : Nat) : Int)) 1
    rw [e1, e2]
    exact Heap.get?_push_size _ rfl
  | false =>
    refine wpAny_pyIter_longrange (IsRange.new ..) hs ?_
    refine ⟨(s.heap.push { cls := .type "range", data := .fields #[.int lo t, .int hi u, .int 1 v] }).objs.size, [(s.heap.push { cls := .type "range", data := .fields #[.int lo t, .int hi u, .int 1 v] }).objs.size], _, _, H, rfl,
      I1.kept (t' := tk) fun b o e => Heap.get?_push_of_some _ e, turn_long _ lo (hi - lo).toNat, ?_, hfp, q⟩
    show IsLongIter _ _ (lo + ((0 : Nat) : Int) * 1) ((((hi - lo).toNat : Nat) : Int) - ((0 : Nat) : Int)) 1
    rw [e1, e2]
    exact Heap.get?_push_size _ rfl
def iRng2B (ta : TA) : TI := fun σ H R => ta σ H fun vs H1 => ∃ i j : Int, vs = [.int i, .int j] ∧ R (Itr i (j - i).toNat) H1
theorem pi_range2B {X : Cx} {tg a b : Expr} {ta : TA} {p pos : Pos} (hg : Gl X "range") (hm : X.mg "range" = none) (ha : PA X [a, b] ta) (hs : starEach [a, b] X.env = [(false, eval a X.env), (false, eval b X.env)]) (hs2 : starEach [b] X.env = [(false, eval b X.env)]) :
    PI X tg (.Call (.Name "range" p) [a, b] [] pos) (iRng2B ta) := by
  refine ⟨fun pins s σ H R I h => ?_⟩
  refine Call_ (ld_blt I hg hm boot_range (PyProof.Rows.callWith_type1 (thn (ha.run pos pins s σ H _ I h) fun us s1 ⟨vs, H1, I1, r1, q1⟩ => ?_) (by rw [hs, hs2]) (by rw [hs2]; rfl)))
  obtain ⟨i, j, e, q⟩ := q1
  subst e
  cases r1 with
  | cons r rr =>
    cases rr with
    | cons r' rr =>
      cases rr
      obtain ⟨t, rfl⟩ := r
      obtain ⟨t', rfl⟩ := r'
      exact call_range_2 (range_any I1 q)
theorem pi_rng2 {X : Cx} {x y : Ex} {E : XK} {tg a b : Expr} {p pos : Pos} (hg : Gl X "range") (hm : X.mg "range" = none) (ha : PA X [a, b] (tA g F H0 E [x, y])) (na : notStar a = true) (nb : notStar b = true) : PI X tg (.Call (.Name "range" p) [a, b] [] pos) (tI g F H0 E .rng2 [x, y]) := by
  refine piw (pi_range2B hg hm ha (by rw [star_cons na, star_cons nb]; rfl) (star_cons nb)) fun pins s σ H R I h => ?_
  obtain ⟨ρ, Hs, re, h⟩ := itr_args h
  refine ⟨ρ, Hs, re, holds_mono h (fun ds hd q vs Hs1 H1 e1 b1 r1 => ?_) fun _ z => z⟩
  obtain ⟨Hs2, es, sub, b2, _, its, hi, q⟩ := q vs Hs1 H1 e1 b1 r1
  obtain ⟨i, j, rfl, rfl⟩ := itD_rng2 hi
  obtain ⟨v, w, rfl, b, c⟩ := b2.two
  cases b.rint; cases c.rint
  exact ⟨_, _, rfl, q _ Hs2 H1 (Ext.refl sub) walk_rg⟩
theorem itD_rng3 {ds its : List D} (h : itD .rng3 ds = .ok its) : ∃ i j c, ds = [.int i, .int j, .int c] ∧ gd (rgOk i j && decide (0 < c) && decide (c < 1073741824)) (rgS i c (rgN i j c)) = .ok its := by
  unfold itD at h
  split at h <;> first | (rename_i z _; cases z; done) | skip
  all_goals (try cases h)
  all_goals (try (rename_i z; cases z))
  all_goals (exact ⟨_, _, _, rfl, h⟩)
theorem pi_rng3 {X : Cx} {x y z : Ex} {E : XK} {tg a b c : Expr} {p pos : Pos} (hg : Gl X "range") (hm : X.mg "range" = none) (ha : PA X [a, b, c] (tA g F H0 E [x, y, z])) (na : notStar a = true) (nb : notStar b = true) (nc : notStar c = true) : PI X tg (.Call (.Name "range" p) [a, b, c] [] pos) (tI g F H0 E .rng3 [x, y, z]) := by
  refine piw (pi_range3 hg hm ha (by rw [star_cons na]) (by rw [star_cons nb, star_cons nc]; rfl)) fun pins s σ H R I h => ?_
  obtain ⟨ρ, Hs, re, h⟩ := itr_args h
  refine ⟨ρ, Hs, re, holds_mono h (fun ds hd q vs Hs1 H1 e1 b1 r1 => ?_) fun _ z => z⟩
  obtain ⟨Hs2, es, sub, b2, _, its, hi, q⟩ := q vs Hs1 H1 e1 b1 r1
  obtain ⟨i, j, k, rfl, hk⟩ := itD_rng3 hi
  obtain ⟨v, w, u, rfl, b, c, d⟩ := b2.three
  cases b.rint; cases c.rint; cases d.rint
  cases hz : (rgOk i j && decide (0 < k) && decide (k < 1073741824)) with
  | false => rw [hz] at hk; cases hk
  | true =>
    rw [hz] at hk
    cases hk
    simp only [Bool.and_eq_true, decide_eq_true_eq, rgOk] at hz
    obtain ⟨⟨⟨⟨⟨h1, h2⟩, h3⟩, h4⟩, h5⟩, h6⟩ := hz
    exact ⟨_, _, _, _, rfl, rgN_ok h1 h2 h3 h4 h5 h6, q _ Hs2 H1 (Ext.refl sub) walk_rgs⟩
theorem pi_zp {X : Cx} {x y : Ex} {E : XK} {a b : Expr} {elts : List Expr} {kk : Nat} {tpos p pos : Pos} (hK : X.K = g.K) (hg : Gl X "zip") (hm : X.mg "zip" = none) (ha : PA X [a, b] (tA g F H0 E [x, y])) (na : notStar a = true) (nb : notStar b = true) (h1 : isBor x = false) (h2 : isBor y = false)
    (hpl : (backTo pos (starEach [b] X.env)).any (·.1) = false) : PI X (.Tuple elts kk tpos) (.Call (.Name "zip" p) [a, b] [] pos) (tI g F H0 E .zip [x, y]) := by
  refine piw (RZ.pi_zipA hg hm ha (star_cons na) hpl) fun pins s σ H R I h => ?_
  obtain ⟨ρ, Hs, re, h⟩ := itr_args h
  refine ⟨ρ, Hs, re, holds_mono h (fun ds hd q vs Hs1 H1 e1 b1 r1 => ?_) fun _ z => z⟩
  obtain ⟨Hs2, es, sub, b2, r2, its, hi, q⟩ := q vs Hs1 H1 e1 b1 r1
  have r2 := r2 (nolend2 h1 h2)
  rcases itD_zip hi with ⟨xs, ys, rfl, rfl⟩ | ⟨xs, ys, rfl, rfl⟩
  · obtain ⟨v, w, rfl, b, c⟩ := reps_two r2
    cases b with
    | tup s r =>
      cases c with
      | tup s2 r2 => exact ⟨_, _, _, _, rfl, .inr ⟨by rw [hK]; exact Same.sqT sub s, by rw [hK]; exact Same.sqT sub s2, by rw [hK]; exact q _ Hs2 H1 (Ext.refl sub) (walk_zipT s r s2 r2)⟩⟩
  · obtain ⟨v, w, rfl, b, c⟩ := reps_two r2
    cases b with
    | lst s r =>
      cases c with
      | lst s2 r2 => exact ⟨_, _, _, _, rfl, .inl ⟨by rw [hK]; exact Same.seq sub s, by rw [hK]; exact Same.seq sub s2, by rw [hK]; exact q _ Hs2 H1 (Ext.refl sub) (walk_zipL s r s2 r2)⟩⟩
theorem pi_en {X : Cx} {x : Ex} {E : XK} {a : Expr} {elts : List Expr} {kk : Nat} {tpos p pos : Pos} (hK : X.K = g.K) (hg : Gl X "enumerate") (hm : X.mg "enumerate" = none) (ha : PA X [a] (tA g F H0 E [x])) (na : notStar a = true) (h1 : isBor x = false) :
    PI X (.Tuple elts kk tpos) (.Call (.Name "enumerate" p) [a] [] pos) (tI g F H0 E .enm [x]) := by
  refine piw (pi_enum hg hm ha (star_cons na)) fun pins s σ H R I h => ?_
  obtain ⟨ρ, Hs, re, h⟩ := itr_args h
  refine ⟨ρ, Hs, re, holds_mono h (fun ds hd q vs Hs1 H1 e1 b1 r1 => ?_) fun _ z => z⟩
  obtain ⟨Hs2, es, sub, b2, r2, its, hi, q⟩ := q vs Hs1 H1 e1 b1 r1
  have r2 := r2 (nolend1 h1)
  obtain ⟨xs, rfl, rfl⟩ := itD_enm hi
  obtain ⟨v, rfl, b⟩ := reps_one r2
  cases b with
  | lst s r => exact ⟨_, _, rfl, by rw [hK]; exact Same.seq sub s, by rw [hK]; exact q _ Hs2 H1 (Ext.refl sub) (walk_enm s r)⟩
theorem pi_rv {X : Cx} {x : Ex} {E : XK} {tg a : Expr} {p pos : Pos} (hK : X.K = g.K) (hg : Gl X "reversed") (hm : X.mg "reversed" = none) (ha : PE X a (tE g F H0 E x)) (na : notStar a = true) : PI X tg (.Call (.Name "reversed" p) [a] [] pos) (tI g F H0 E .rev [x]) := by
  refine piw (RT.pi_revA hg hm ha (star_cons na)) fun pins s σ H R I ⟨ρ, Hs, re, h⟩ => ?_
  unfold evL evL at h
  refine ⟨ρ, Hs, re, ?_⟩
  cases q : evE F x ρ with
  | no => rw [q] at h; exact h
  | ex c => rw [q] at h; exact h
  | ok d =>
    rw [q] at h
    cases d <;> first | exact h.elim | skip
    · intro v Hs1 H1 e1 r1
      cases r1 with
      | tup s r => exact ⟨_, _, rfl, .inr ⟨by rw [hK]; exact Same.sqT e1.sub s, by rw [hK]; exact h _ Hs1 H1 e1 (walk_revT s r)⟩⟩
    · intro v Hs1 H1 e1 r1
      cases r1 with
      | lst s r => exact ⟨_, _, rfl, .inl ⟨by rw [hK]; exact Same.seq e1.sub s, by rw [hK]; exact h _ Hs1 H1 e1 (walk_revL s r)⟩⟩
theorem pi_rr1 {X : Cx} {x : Ex} {E : XK} {tg a : Expr} {p pos p2 pos2 : Pos} (hg : Gl X "reversed") (hm : X.mg "reversed" = none) (hg2 : Gl X "range") (hm2 : X.mg "range" = none) (ha : PE X a (tE g F H0 E x)) (na : notStar a = true) : PI X tg (.Call (.Name "reversed" p) [.Call (.Name "range" p2) [a] [] pos2] [] pos) (tI g F H0 E .rvr1 [x]) := by
  refine piw (pi_revR hg hm (prg_1 hg2 hm2 ha (star_cons na)) (star_cons rfl)) fun pins s σ H R I ⟨ρ, Hs, re, h⟩ => ?_
  unfold evL evL at h
  refine ⟨ρ, Hs, re, ?_⟩
  cases q : evE F x ρ with
  | no => rw [q] at h; exact h
  | ex c => rw [q] at h; exact h
  | ok d =>
    rw [q] at h
    cases d <;> first | exact h.elim | skip
    rename_i j
    intro v Hs1 H1 e1 r1
    cases r1
    obtain ⟨hr, h⟩ := holds_gd (show holds (gd (rgOk 0 j) (rgD 0 j.toNat).reverse) _ _ from h)
    unfold rgOk at hr
    simp only [Bool.and_eq_true, decide_eq_true_eq] at hr
    refine ⟨j, rfl, hr.1.1.1, hr.1.1.2, hr.1.2, hr.2, ?_⟩
    rw [show (j - 0).toNat = j.toNat by rw [Int.sub_zero]]
    exact h _ Hs1 H1 e1 walk_rgr
theorem pi_rr2 {X : Cx} {x y : Ex} {E : XK} {tg a b : Expr} {p pos p2 pos2 : Pos} (hg : Gl X "reversed") (hm : X.mg "reversed" = none) (hg2 : Gl X "range") (hm2 : X.mg "range" = none) (ha : PE X a (tE g F H0 E x)) (na : notStar a = true) (hb : PE X b (tE g F H0 E y)) (nb : notStar b = true)
    (hpl : (backTo pos2 (starEach [b] X.env)).any (·.1) = false) : PI X tg (.Call (.Name "reversed" p) [.Call (.Name "range" p2) [a, b] [] pos2] [] pos) (tI g F H0 E .rvr2 [x, y]) := by
  refine piw (pi_revR hg hm (prg_2 hg2 hm2 ha hb (star_cons na) (star_cons nb) hpl) (star_cons rfl)) fun pins s σ H R I ⟨ρ, Hs, re, h⟩ => ?_
  unfold evL evL evL at h
  refine ⟨ρ, Hs, re, ?_⟩
  cases q : evE F x ρ with
  | no => rw [q] at h; exact h
  | ex c => rw [q] at h; exact h
  | ok d =>
    rw [q] at h
    intro v Hs1 H1 e1 r1
    refine ⟨ρ, Hs1, re.ext e1, ?_⟩
    cases q2 : evE F y ρ with
    | no => rw [q2] at h; exact h
    | ex c => rw [q2] at h; exact EXc.ext h e1
    | ok d2 =>
      rw [q2] at h
      cases d <;> first | exact h.elim | skip
      cases d2 <;> first | exact h.elim | skip
      rename_i i j
      intro w Hs2 H2 e2 r2
      cases r1; cases r2
      obtain ⟨hr, h⟩ := holds_gd (show holds (gd (rgOk i j) (rgD i (j - i).toNat).reverse) _ _ from h)
      unfold rgOk at hr
      simp only [Bool.and_eq_true, decide_eq_true_eq] at hr
      exact ⟨i, j, rfl, rfl, hr.1.1.1, hr.1.1.2, hr.1.2, hr.2, h _ Hs2 H2 (e1.trans e2) walk_rgr⟩
end
end Dw

namespace Dw
open PySem PySem.Spec PyProof.Rows L2
section
variable {g : G} {T : Tab} {F : Fs} {H0 : Hp} {CX : CXT}
/-- a comprehension's test -/
def tCnd (g : G) (F : Fs) (H0 : Hp) : Option Ex → TT
  | none => tYes
  | some c => tT g F H0 E0 c
/-- one turn of a comprehension -/
def compF (F : Fs) (ρ : List Sl) (tg : List Nat) (cond : Option Ex) (elt : Ex) (d : D) : M (Option D) := (tgD (wipeD ρ tg) tg d).bind fun ρ' => match cond with
  | none => (evE F elt ρ').bind fun y => .ok (some y)
  | some c => (evE F c ρ').bind fun b => match b with
    | .bl true => (evE F elt ρ').bind fun y => .ok (some y)
    | .bl false => .ok none
    | _ => .no
theorem ev_comp {ρ : List Sl} {tg : List Nat} {cond : Option Ex} {elt : Ex} {k : Ik} {es : List Ex} : evE F (.comp elt tg k es cond) ρ = ((evL F es ρ).bind fun ds => itD k ds).bind fun its => (gd (fits its.length) its).bind fun its => (compD (compF F ρ tg cond elt) its).bind fun r => .ok (.lst r) := by
  unfold evE
  rfl
theorem ok_bind {α β : Type} {m : M α} {f : α → M β} {b : β} (h : m.bind f = .ok b) : ∃ a, m = .ok a ∧ f a = .ok b := by
  cases m with
  | no => cases h
  | ok a => exact ⟨a, rfl, h⟩
  | ex c => cases h
theorem compD_cons {f : D → M (Option D)} {x : D} {xs r : List D} (h : compD f (x :: xs) = .ok r) : (∃ y r', f x = .ok (some y) ∧ compD f xs = .ok r' ∧ r = y :: r') ∨ (f x = .ok none ∧ compD f xs = .ok r) := by
  unfold compD at h
  split at h
  · rename_i y e
    obtain ⟨r', h1, h2⟩ := ok_bind h
    cases h2
    exact .inl ⟨y, r', e, h1, rfl⟩
  · rename_i e
    exact .inr ⟨e, h⟩
  · cases h
theorem compD_ex {f : D → M (Option D)} {c : Nat} : ∀ {xs : List D}, compD f xs ≠ .ex c
  | [] => by simp [compD]
  | x :: xs => by
    intro h
    unfold compD at h
    split at h
    · cases q : compD f xs with
      | no => rw [q] at h; cases h
      | ok a => rw [q] at h; cases h
      | ex c => exact compD_ex q
    · exact compD_ex h
    · cases h
/-- a comprehension's reading -/
theorem lc_read {X : Cx} {tg : List Nat} {cond : Option Ex} {elt : Ex} {k : Ik} {es : List Ex} {E : XK} (hK : X.K = g.K) {σ : L2.St} {H : Hp} {Q : VK} (h : tR g F H0 E (.comp elt tg k es cond) σ H Q) : tLc (tI g F H0 E k es) (gD X.K tg) (tCnd g F H0 cond) (tE g F H0 E0 elt) tg σ H Q := by
  obtain ⟨ρ, Hs, re, h⟩ := h
  rw [ev_comp] at h
  refine ⟨ρ, Hs, re, holds_mono (holds_bind h) (fun its _ h2 J Hs1 H1 e1 w D hD => ?_) fun _ z => z⟩
  obtain ⟨hfit, h3⟩ := holds_gd (holds_bind h2)
  have hlen : its.length ≤ sizeLine := of_decide_eq_true hfit
  cases hr : compD (compF F ρ tg cond elt) its with
  | no => rw [hr] at h3; exact h3.elim
  | ex c => exact (compD_ex hr).elim
  | ok r =>
    rw [hr] at h3
    have h3 : PR g Hs H (.lst r) Q := h3
    obtain ⟨Gd, Y, W, hG, hY⟩ := w
    have re1 := (re.ext e1).wipe tg
    have hs1D : Hs1 D = none := e1.sub.free hD
    refine lc_it W (fun i Hc => ∃ Hv acc ys rest, Ext Hs1 H1 Hv Hc ∧ Hv D = none ∧ Hc D = some (.lst acc) ∧ Reps g Hv acc ys ∧ compD (compF F ρ tg cond elt) (its.drop i) = .ok rest ∧ r = ys ++ rest ∧ ys.length ≤ i) ?_ ?_ ?_ ?_
    · exact ⟨Hs1, [], [], r, Ext.newOut e1.sub hD, hs1D, upd_same, .nil, by simpa using hr, rfl, Nat.zero_le _⟩
    · rintro i Hc hi ⟨Hv, acc, ys, rest, x, _⟩
      exact hG Hc (x.view.trans x.sub)
    · rintro i x Hc H' hi ⟨Hv, acc, ys, rest, ex, nD, cD, ra, hc, er, hy⟩ y
      obtain ⟨Hv', d, hd, e2, rd⟩ := hY i Hv Hc x H' hi ex.view ex.sub y
      have hdrop : its.drop i = d :: its.drop (i + 1) := by
        have := List.getElem?_eq_some_iff.mp hd
        obtain ⟨hlt, e⟩ := this
        rw [List.drop_eq_getElem_cons hlt, e]
      rw [hdrop] at hc
      have re2 : RE g H0 Hv' H' (wipeD ρ tg) (L2.wipe σ tg) := (re1.ext ex).ext e2
      have nD2 : Hv' D = none := e2.out D _ cD nD
      have cD2 : H' D = some (.lst acc) := e2.all _ _ cD
      -- what a kept item leads to
      have keep : ∀ y rest', compD (compF F ρ tg cond elt) (its.drop (i + 1)) = .ok rest' → rest = y :: rest' → ∀ v Hv4 H4, Ext Hv' H' Hv4 H4 → Rep g Hv4 v y →
          ∃ acc, H4 D = some (.lst acc) ∧ acc.length < sizeLine ∧ ∃ Hv acc' ys rest, Ext Hs1 H1 Hv (upd H4 D (.lst (acc ++ [v]))) ∧ Hv D = none ∧ (upd H4 D (.lst (acc ++ [v]))) D = some (.lst acc') ∧ Reps g Hv acc' ys ∧ compD (compF F ρ tg cond elt) (its.drop (i + 1)) = .ok rest ∧ r = ys ++ rest ∧ ys.length ≤ i + 1 := by
        intro y rest' h1 h2 v Hv4 H4 e4 r4
        have nD4 : Hv4 D = none := e4.out D _ cD2 nD2
        have cD4 : H4 D = some (.lst acc) := e4.all _ _ cD2
        have eall : Ext Hs1 H1 Hv4 H4 := ex.trans (e2.trans e4)
        refine ⟨acc, cD4, ?_, Hv4, acc ++ [v], ys ++ [y], rest', ⟨fun a o q => ?_, eall.view, fun a o q => ?_, eall.out⟩, nD4, upd_same, ?_, h1, ?_, ?_⟩
        · have := ra.length
          omega
        · rw [upd_ne (ne_of_none q hD)]; exact eall.all a o q
        · rw [upd_ne (ne_of_none q nD4)]; exact eall.sub a o q
        · exact (ra.mono (e2.view.trans e4.view)).append (.cons r4 .nil)
        · rw [er, h2, List.append_assoc]; rfl
        · rw [List.length_append, List.length_singleton]; omega
      have skip : ∀ Hv4 H4, Ext Hv' H' Hv4 H4 → compD (compF F ρ tg cond elt) (its.drop (i + 1)) = .ok rest → ∃ Hv acc ys rest, Ext Hs1 H1 Hv H4 ∧ Hv D = none ∧ H4 D = some (.lst acc) ∧ Reps g Hv acc ys ∧ compD (compF F ρ tg cond elt) (its.drop (i + 1)) = .ok rest ∧ r = ys ++ rest ∧ ys.length ≤ i + 1 := by
        intro Hv4 H4 e4 h1
        exact ⟨Hv4, acc, ys, rest, ex.trans (e2.trans e4), e4.out D _ cD2 nD2, e4.all _ _ cD2, ra.mono (e2.view.trans e4.view), h1, er, by omega⟩
      -- the turn
      have turn : ∀ ro, compF F ρ tg cond elt d = .ok ro → (∀ y, ro = some y → ∃ rest', compD (compF F ρ tg cond elt) (its.drop (i + 1)) = .ok rest' ∧ rest = y :: rest') → (ro = none → compD (compF F ρ tg cond elt) (its.drop (i + 1)) = .ok rest) →
          gD X.K tg x (L2.wipe σ tg) H' fun σ2 H2 => L2.wipe σ2 tg = L2.wipe σ tg ∧ tCnd g F H0 cond σ2 H2 fun b H3 => if b = true then tE g F H0 E0 elt σ2 H3 fun y H4 => ∃ acc, H4 D = some (.lst acc) ∧ acc.length < sizeLine ∧ ∃ Hv acc' ys rest, Ext Hs1 H1 Hv (upd H4 D (.lst (acc ++ [y]))) ∧ Hv D = none ∧ (upd H4 D (.lst (acc ++ [y]))) D = some (.lst acc') ∧ Reps g Hv acc' ys ∧ compD (compF F ρ tg cond elt) (its.drop (i + 1)) = .ok rest ∧ r = ys ++ rest ∧ ys.length ≤ i + 1
            else ∃ Hv acc ys rest, Ext Hs1 H1 Hv H3 ∧ Hv D = none ∧ H3 D = some (.lst acc) ∧ Reps g Hv acc ys ∧ compD (compF F ρ tg cond elt) (its.drop (i + 1)) = .ok rest ∧ r = ys ++ rest ∧ ys.length ≤ i + 1 := by
        intro ro hro k1 k2
        unfold compF at hro
        obtain ⟨ρ', ht, hro⟩ := ok_bind hro
        refine gD_ok hK tg re2 rd ht fun σ2 re3 hw => ⟨by rw [hw tg fun i h => h, wipe_wipe], ?_⟩
        cases cond with
        | none =>
          obtain ⟨y, hy1, hy2⟩ := ok_bind hro
          cases hy2
          obtain ⟨rest', q1, q2⟩ := k1 y rfl
          dsimp only [tCnd, tYes]
          rw [if_pos rfl]
          exact ⟨ρ', Hv', re3, by rw [hy1]; exact fun v Hv4 H4 e4 r4 => keep y rest' q1 q2 v Hv4 H4 e4 r4⟩
        | some c =>
          obtain ⟨b, hb, hro⟩ := ok_bind hro
          refine ⟨ρ', Hv', re3, ?_⟩
          rw [hb]
          cases b <;> first | cases hro | skip
          rename_i b
          refine ⟨b, rfl, fun Hv3 H3 e3 => ?_⟩
          cases b with
          | true =>
            rw [if_pos rfl]
            obtain ⟨y, hy1, hy2⟩ := ok_bind hro
            cases hy2
            obtain ⟨rest', q1, q2⟩ := k1 y rfl
            exact ⟨ρ', Hv3, re3.ext e3, by rw [hy1]; exact fun v Hv4 H4 e4 r4 => keep y rest' q1 q2 v Hv4 H4 (e3.trans e4) r4⟩
          | false =>
            cases hro
            rw [if_neg Bool.false_ne_true]
            exact skip Hv3 H3 e3 (k2 rfl)
      rcases compD_cons hc with ⟨y, r', k1, k2, k3⟩ | ⟨k1, k2⟩
      · exact turn _ k1 (fun y' e => by cases e; exact ⟨r', k2, k3⟩) (fun z => by cases z)
      · exact turn _ k1 (fun y' e => by cases e) (fun _ => k2)
    · rintro Hc ⟨Hv, acc, ys, rest, x, nD, cD, ra, hc, er, hy⟩
      rw [List.drop_length] at hc
      cases hc
      rw [List.append_nil] at er
      subst er
      exact h3 (.ref D) Hv Hc (e1.trans x) (.inr ⟨D, acc, _, rfl, rfl, e1.all.free hD, nD, cD, ra⟩)
end
end Dw

namespace Dw
open PySem PySem.Spec PyProof.Rows L2
section
variable {g : G} {T : Tab} {F : Fs} {H0 : Hp} {CX : CXT}
theorem sameDs_of {a b : List D} (h : sameDs a b = true) : a = b := sameDs_eq a b h
theorem notT {X : Cx} {E : XK} {x : Ex} {e : Expr} (h : Snd g T F H0 E X x e) (hb : isBor x = false) (hn : notIf e = true) : PT X e (tT g F H0 E x) := h.t hn hb
/-- what a comprehension is made of -/
structure Parts (g : G) (F : Fs) (H0 : Hp) (E : XK) (X : Cx) (elt : Ex) (tg : List Nat) (k : Ik) (es : List Ex) (cond : Option Ex) (ee te iter : Expr) (ifs : List Expr) (cs : Scope) : Prop where
  ex : ∃ own : List (Str × Nat), own.map (·.2) = tg ∧ BlkOk X.N X.env.scope cs own
  it : PI X te iter (tI g F H0 E k es)
  pg : ∀ (s : Shared) (H : Hp) (C : Addr) (cl : List (Str × Addr)) (fp : List Addr), PG (X.blk s H cs (compEnvC cs cl C X.env) fp) te (gD X.K tg)
  pt : ∀ (s : Shared) (H : Hp) (C : Addr) (cl : List (Str × Addr)) (fp : List Addr), PTs (X.blk s H cs (compEnvC cs cl C X.env) fp) ifs (tCnd g F H0 cond)
  pe' : ∀ (s : Shared) (H : Hp) (C : Addr) (cl : List (Str × Addr)) (fp : List Addr), PE (X.blk s H cs (compEnvC cs cl C X.env) fp) ee (tE g F H0 E0 elt)
  fs : ∀ x, foldedSetIterable iter X.env x = pure x
theorem Parts.pe {E : XK} {X : Cx} {elt : Ex} {tg : List Nat} {k : Ik} {es : List Ex} {cond : Option Ex} {ee te iter : Expr} {ifs : List Expr} {cs : Scope} {p : Pos} (P : Parts g F H0 E X elt tg k es cond ee te iter ifs cs) (ok : XOk g T F CX X) :
    PE X (.ListComp ee [⟨te, iter, ifs, 0⟩] cs p) (tR g F H0 E (.comp elt tg k es cond)) := by
  obtain ⟨own, h1, h2⟩ := P.ex
  have := pe_lc (pos := p) ok.calm ok.nd P.it h2 P.pg P.pt P.pe' P.fs
  rw [h1] at this
  exact pew this fun pins s σ H Q I h => lc_read ok.K h

theorem len_evL : ∀ {es : List Ex} {xs : List Expr} {N : List Str} {sc : Scope} {ρ : List Sl} {ds : List D}, evL F es ρ = .ok ds → chkL T N es sc xs = true → ds.length = xs.length
  | [], [], _, _, _, _, h, _ => by unfold evL at h; cases h; rfl
  | [], _ :: _, _, _, _, _, _, h => by simp [chkL] at h
  | _ :: _, [], _, _, _, _, _, h => by simp [chkL] at h
  | e :: es, x :: xs, _, _, _, _, h, k => by
    simp only [chkL, Bool.and_eq_true] at k
    unfold evL at h
    obtain ⟨d, _, h⟩ := ok_bind h
    obtain ⟨ds, h1, h⟩ := ok_bind h
    cases h
    rw [List.length_cons, List.length_cons, len_evL h1 k.2]
theorem parts_of {E : XK} {X : Cx} {elt : Ex} {tg : List Nat} {k : Ik} {es : List Ex} {cond : Option Ex} {ee te iter : Expr} {ifs : List Expr} {cs : Scope}
    (h1 : (match ownOf te tg with
      | some own => blkC X.N X.env.scope cs own && decide (own.map (·.2) = tg) && locAll (relS cs X.env.scope) own
      | none => false) = true) (h2 : PI X te iter (tI g F H0 E k es)) (h3 : notSet iter = true)
    (h4 : ∀ (s : Shared) (H : Hp) (C : Addr) (cl : List (Str × Addr)) (fp : List Addr), Snd g T F H0 E0 (X.blk s H cs (compEnvC cs cl C X.env) fp) elt ee) (h5 : isBor elt = false)
    (h6 : ∀ (s : Shared) (H : Hp) (C : Addr) (cl : List (Str × Addr)) (fp : List Addr), PTs (X.blk s H cs (compEnvC cs cl C X.env) fp) ifs (tCnd g F H0 cond)) (ok : XOk g T F CX X) : Parts g F H0 E X elt tg k es cond ee te iter ifs cs := by
  cases ho : ownOf te tg with
  | none => rw [ho] at h1; cases h1
  | some own =>
    rw [ho] at h1
    simp only [Bool.and_eq_true, decide_eq_true_eq] at h1
    have B := blkOk_by h1.1.1
    refine ⟨⟨own, h1.1.2, B⟩, h2, fun s H C cl fp => ?_, h6, fun s H C cl fp => (h4 s H C cl fp).v h5, noSet_fold h3⟩
    exact (own_ok (X := X.blk s H cs (compEnvC cs cl C X.env) fp) ho (fun p hp => ⟨B.ix p hp, loc_mem h1.2 p hp⟩) ok.nd ok.calm).1
mutual
theorem sndE : ∀ (x : Ex) {X : Cx} {E : XK} {e : Expr}, XOk g T F CX X → Passes CX X E → chkE T X.N x X.env.scope e = true → Snd g T F H0 E X x e
  | .var i, X, E, e, ok, hx, h => by
    unfold chkE at h
    obtain ⟨n, p, rfl, hN, hv, hd, hc⟩ := nm_of h
    refine Snd.ofV (pew (pe_var hN hv hd hc) fun pins s σ H Q I ⟨ρ, Hs, re, h⟩ => ?_) rfl rfl rfl
    unfold evE getV at h
    split at h
    · rename_i d hd
      obtain ⟨v, h1, h2⟩ := re.sh i d hd
      exact ⟨v, h1, h v Hs H (Ext.refl re.sub) h2⟩
    · exact h.elim
  | .bor i, X, E, e, ok, hx, h => by
    unfold chkE at h
    obtain ⟨n, p, rfl, hN, hv, hd, hc⟩ := nm_of h
    refine ⟨fun z => (by cases z), pew (pe_var hN hv hd hc) fun pins s σ H Q I ⟨ρ, Hs, re, h⟩ => ?_, fun z => (by cases z), fun _ z => (by cases z), fun z => (by cases z)⟩
    unfold evE getB at h
    split at h
    · rename_i d hd
      obtain ⟨q, vs, h1, h2, h3, _, h4⟩ := re.ow i d hd
      exact ⟨_, h1, h _ Hs H (Ext.refl re.sub) (.inr ⟨q, vs, d, rfl, rfl, h2, h4⟩)⟩
    · exact h.elim
  | .con d, X, E, e, ok, hx, h => by
    unfold chkE at h
    split at h
    · rename_i c hc
      obtain ⟨j, p, rfl⟩ := asCon_eq hc
      have fin : ∀ v, PE X (.Constant c j p) (tC v) → (∀ H, Rep g H v d) → (∀ ds, d ≠ .lst ds) → Snd g T F H0 E X (.con d) (.Constant c j p) := fun v hp hr hn =>
        Snd.ofR (pew hp fun pins s σ H Q I ⟨ρ, Hs, re, h⟩ => by unfold evE at h; exact h v Hs H (Ext.refl re.sub) (.inl ⟨hr _, hn⟩)) rfl rfl
      cases d <;> cases c <;> simp only [conOk, Bool.false_eq_true, decide_eq_true_eq] at h
      · exact fin _ pe_non (fun _ => .non) (fun _ z => nomatch z)
      · subst h; exact fin _ pe_bl (fun _ => .bl _) (fun _ z => nomatch z)
      · subst h; exact fin _ pe_int (fun _ => .int _) (fun _ z => nomatch z)
      · subst h; exact fin _ pe_str (fun _ => .str _) (fun _ z => nomatch z)
    · cases h
  | .glb d, X, E, e, ok, hx, h => by
    unfold chkE at h
    split at h
    · rename_i n hn
      obtain ⟨p, rfl⟩ := asNm_eq hn
      simp only [Bool.and_eq_true, Bool.not_eq_true', List.any_eq_true, decide_eq_true_eq] at h
      obtain ⟨⟨h1, h2⟩, ⟨y, d'⟩, hm, h3, h4⟩ := h
      have e4 := sameD_eq _ _ h4
      simp only at h3 e4
      subst h3 e4
      obtain ⟨u, v, k1, k2, k3⟩ := ok.cons _ hm
      refine Snd.ofV (pew (pe_glob (Gl_of h1) k1 k2 h2) fun pins s σ H Q I ⟨ρ, Hs, re, h⟩ => ?_) rfl rfl rfl
      unfold evE at h
      exact h v Hs H (Ext.refl re.sub) (k3 _)
    · cases h
  | .bin op a b, X, E, e, ok, hx, h => by
    unfold chkE at h
    split at h
    · rename_i ea o eb hb
      obtain ⟨p, rfl⟩ := asBin_eq hb
      simp only [Bool.and_eq_true] at h
      obtain ⟨⟨h1, h2⟩, h3⟩ := h
      have A := sndE a ok hx h2
      have B := sndE b ok hx h3
      split at h1
      · rename_i hr
        rw [Bool.and_eq_true] at h1
        have ho : o = .Mult := by cases o <;> first | rfl | exact absurd h1.1 Bool.false_ne_true
        have hop : op = .rep := by cases op <;> first | rfl | exact absurd hr Bool.false_ne_true
        subst ho hop
        refine Snd.ofR (pew (pe_op op_rep (A.r h1.2) B.o) fun pins s σ H Q I ⟨ρ, Hs, re, h⟩ => ?_) rfl rfl
        unfold evE at h
        refine ⟨ρ, Hs, re, holds_mono (holds_bind h) (fun da _ h2 v Hs1 H1 e1 f1 => ⟨ρ, Hs1, re.ext e1, holds_mono (holds_bind h2) (fun db _ h3 w Hs2 H2 e2 b2 => ?_) fun _ z => z.ext e1⟩) fun _ z => z⟩
        unfold binD at h3
        split at h3 <;> first | exact h3.elim | contradiction | skip
        obtain ⟨hf, h3⟩ := holds_gd h3
        cases b2.rint
        simp only [Bool.and_eq_true, decide_eq_true_eq] at hf
        rcases f1 with ⟨_, z⟩ | ⟨q, vs, ds, rfl, z, k1, k2, k3, k4⟩
        · exact absurd rfl (z _)
        · cases z
          have hf2 := of_decide_eq_true hf.2
          refine ⟨q, _, vs, rfl, rfl, e2.all _ _ k3, by omega, by omega, by rw [k4.length]; exact hf2, ?_⟩
          exact (h3.ext (e1.trans e2)).list e2.sub ((k4.mono e2.view).rep _)
      · refine Snd.ofR (pew (pe_op (bin_ok (g := g) ok.K op o h1) A.o B.o) fun pins s σ H Q I ⟨ρ, Hs, re, h⟩ => ?_) rfl rfl
        unfold evE at h
        exact two re h
    · cases h
  | .neg a, X, E, e, ok, hx, h => by
    unfold chkE at h
    split at h
    · rename_i ea hb
      obtain ⟨p, rfl⟩ := asNeg_eq hb
      have A := sndE a ok hx h
      refine Snd.ofR (pew (pe_un un_neg A.o) fun pins s σ H Q I ⟨ρ, Hs, re, h⟩ => ?_) rfl rfl
      unfold evE at h
      refine ⟨ρ, Hs, re, holds_mono (holds_bind h) (fun da _ h2 v Hs1 H1 e1 b1 => ?_) fun _ z => z⟩
      cases da <;> first | exact h2.elim | skip
      cases b1.rint
      exact ⟨_, rfl, (PR.ext h2 e1).int e1.sub⟩
    · cases h
  | .nt a, X, E, e, ok, hx, h => by
    unfold chkE at h
    split at h
    · rename_i ea hb
      obtain ⟨p, rfl⟩ := asNot_eq hb
      simp only [Bool.and_eq_true, Bool.not_eq_true'] at h
      have A := sndE a ok hx h.1.1
      have hr : PE X (.UnaryOp .Not ea p) (tR g F H0 E (.nt a)) := by
        refine pew (pe_not A.o) fun pins s σ H Q I ⟨ρ, Hs, re, h⟩ => ?_
        unfold evE at h
        refine ⟨ρ, Hs, re, holds_mono (holds_bind h) (fun da _ h2 v Hs1 H1 e1 b1 => ?_) fun _ z => z⟩
        cases da <;> first | exact h2.elim | skip
        cases b1.rbl
        exact ⟨_, rfl, (PR.ext h2 e1).bool e1.sub⟩
      refine ⟨fun _ => pew hr fun _ _ _ _ _ _ => tM_mono (fun _ _ _ _ z => z.toR) _ _ _, pew hr fun _ _ _ _ _ _ => tM_mono (fun _ _ _ _ z => z.toR) _ _ _, fun _ => hr, fun _ _ => ?_, fun z => (by cases z)⟩
      refine ptw (pt_not (A.t h.1.2 h.2)) fun pins s σ H Q I ⟨ρ, Hs, re, h⟩ => ⟨ρ, Hs, re, ?_⟩
      unfold evE at h
      refine holds_mono (holds_bind h) (fun da _ h2 => ?_) fun _ z => z
      cases da <;> first | exact h2.elim | skip
      obtain ⟨b, e1, q⟩ := h2
      cases e1
      exact ⟨_, rfl, q⟩
    · cases h
  | .cmp op a b, X, E, e, ok, hx, h => by
    unfold chkE at h
    split at h
    · rename_i ea o eb hb
      obtain ⟨p, rfl⟩ := asCmp1_eq hb
      simp only [Bool.and_eq_true] at h
      obtain ⟨⟨⟨h1, h2⟩, h3⟩, h4⟩ := h
      have A := sndE a ok hx h3
      have B := sndE b ok hx h4
      have C := cmp_ok (g := g) ok.K ok.un op o h1
      have hr : PE X (.Compare ea [o] [eb] p) (tR g F H0 E (.cmp op a b)) := by
        refine pew (pe_cmpR C A.o B.o (noSet_marks h2)) fun pins s σ H Q I ⟨ρ, Hs, re, h⟩ => ?_
        unfold evE at h
        exact two re h
      refine ⟨fun _ => pew hr fun _ _ _ _ _ _ => tM_mono (fun _ _ _ _ z => z.toR) _ _ _, pew hr fun _ _ _ _ _ _ => tM_mono (fun _ _ _ _ z => z.toR) _ _ _, fun _ => hr, fun _ _ => ?_, fun z => (by cases z)⟩
      refine ptw (pt_cmpR C A.o B.o (noSet_marks h2)) fun pins s σ H Q I ⟨ρ, Hs, re, h⟩ => ?_
      unfold evE at h
      refine two (Q := fun x H' => ∃ k, x = .bl k ∧ Q k H') re (holds_mono h (fun d _ ⟨b, e1, q⟩ => ?_) fun _ z => z)
      subst e1
      intro v Hs' H' e2 f
      exact ⟨b, f.b.rbl, q Hs' H' e2⟩
    · cases h
  | .chain o q a b c, X, E, e, ok, hx, h => by
    unfold chkE at h
    split at h
    · rename_i ea oa eb ob ec hb
      obtain ⟨p, rfl⟩ := asCmp2_eq hb
      simp only [Bool.and_eq_true, Bool.not_eq_true'] at h
      obtain ⟨⟨⟨⟨⟨⟨h1, h2⟩, h3⟩, h4⟩, h5⟩, h6⟩, h7⟩ := h
      have A := sndE a ok hx h4
      have B := sndE b ok hx h5
      have C := sndE c ok hx h6
      have O1 := cmp_ok (g := g) ok.K ok.un o oa h1
      have O2 := cmp_ok (g := g) ok.K ok.un q ob h2
      have hm : lastMarks [oa, ob] [eb, ec] = false := noSet_marks h3
      have key : ∀ {ρ : List Sl} {σ : L2.St} {Hs H : Hp} {Q : VK}, RE g H0 Hs H ρ σ → holds (evE F (.chain o q a b c) ρ) (fun d => PR g Hs H d Q) (EXc g E Hs H) → tChain (rD2 g (cmpD o)) (rD2 g (cmpD q)) (tO g F H0 E a) (tO g F H0 E b) (tO g F H0 E c) σ H Q := by
        intro ρ σ Hs H Q re h
        unfold evE at h
        refine ⟨ρ, Hs, re, holds_mono (holds_bind h) (fun da _ h2 v Hs1 H1 e1 b1 => ⟨ρ, Hs1, re.ext e1, holds_mono (holds_bind h2) (fun db _ h3 w Hs2 H2 e2 b2 => ?_) fun _ z => z.ext e1⟩) fun _ z => z⟩
        refine ⟨Hs2, da, db, e2.sub, b1.ext e2, b2, holds_mono (holds_bind h3) (fun r _ h4 => ?_) fun _ _ => trivial⟩
        intro z Hs3 H3 e3 f3
        cases r <;> first | exact h4.elim | skip
        rename_i bb _
        cases f3.b.rbl
        refine ⟨bb, rfl, ?_⟩
        have e123 := e1.trans (e2.trans e3)
        cases bb with
        | false =>
          rw [if_neg Bool.false_ne_true]
          exact PR.bool (PR.ext h4 e123) e3.sub
        | true =>
          rw [if_pos rfl]
          refine ⟨ρ, Hs3, re.ext e123, holds_mono (holds_bind h4) (fun dc _ h5 u Hs4 H4 e4 b4 => ?_) fun _ z => z.ext e123⟩
          exact ⟨Hs4, db, dc, e4.sub, (b2.ext e3).ext e4, b4, holds_mono h5 (fun d _ z => z.ext (e123.trans e4)) fun _ _ => trivial⟩
      have hr : PE X (.Compare ea [oa, ob] [eb, ec] p) (tR g F H0 E (.chain o q a b c)) := pew (pe_chain O1 O2 A.o B.o C.o hm) fun pins s σ H Q I ⟨ρ, Hs, re, h⟩ => key re h
      refine ⟨fun _ => pew hr fun _ _ _ _ _ _ => tM_mono (fun _ _ _ _ z => z.toR) _ _ _, pew hr fun _ _ _ _ _ _ => tM_mono (fun _ _ _ _ z => z.toR) _ _ _, fun _ => hr, fun _ _ => ?_, fun z => (by cases z)⟩
      refine ptw (pt_chain O1 O2 A.o B.o C.o hm) fun pins s σ H Q I ⟨ρ, Hs, re, h⟩ => ?_
      refine key (Q := fun x H' => ∃ k, x = .bl k ∧ Q k H') re (holds_mono h (fun d _ ⟨b, e1, q⟩ => ?_) fun _ z => z)
      subst e1
      intro v Hs' H' e2 f
      exact ⟨b, f.b.rbl, q Hs' H' e2⟩
    · cases h
  | .and a b, X, E, e, ok, hx, h => by
    unfold chkE at h
    split at h
    · rename_i ea eb rest pos hb
      have he := asAnd_eq hb
      subst he
      simp only [Bool.and_eq_true, Bool.not_eq_true'] at h
      obtain ⟨⟨⟨⟨h1, h2⟩, h3⟩, h4⟩, h5⟩ := h
      have A := sndE a ok hx h1
      have key : PE X (.BoolOp .And (eb :: rest) pos) (tE g F H0 E b) ∧ PW X (.BoolOp .And (eb :: rest) pos) (tT g F H0 E b) := by
        cases rest with
        | nil =>
          rw [Bool.and_eq_true] at h5
          have B := sndE b ok hx h5.1
          exact ⟨pe_one (B.v h4), pw_and1 (B.t h5.2 h4)⟩
        | cons r rs =>
          have B := sndE b ok hx h5
          exact ⟨B.v h4, B.w rfl⟩
      have hv : PE X (.BoolOp .And (ea :: eb :: rest) pos) (tE g F H0 E (.and a b)) := by
        refine pew (pe_and A.o key.1) fun pins s σ H Q I ⟨ρ, Hs, re, h⟩ => ?_
        unfold evE at h
        refine ⟨ρ, Hs, re, holds_mono (holds_bind h) (fun da _ h2 v Hs1 H1 e1 b1 => ?_) fun _ z => z⟩
        cases da <;> first | exact h2.elim | skip
        rename_i bb _
        cases b1.rbl
        refine ⟨bb, rfl, ?_⟩
        cases bb with
        | true =>
          rw [if_pos rfl]
          exact ⟨ρ, Hs1, re.ext e1, holds_mono h2 (fun d _ z => z.ext e1) fun _ z => z.ext e1⟩
        | false =>
          rw [if_neg Bool.false_ne_true]
          exact h2 _ Hs1 H1 e1 (.bl false)
      have hw : PW X (.BoolOp .And (ea :: eb :: rest) pos) (tT g F H0 E (.and a b)) := by
        refine pww (pw_and (A.t h2 h3) key.2) fun pins s σ H Q I ⟨ρ, Hs, re, h⟩ => ?_
        unfold evE at h
        refine ⟨ρ, Hs, re, holds_mono (holds_bind h) (fun da _ h2 => ?_) fun _ z => z⟩
        cases da <;> first | exact h2.elim | skip
        rename_i bb _
        refine ⟨bb, rfl, fun Hs1 H1 e1 => ?_⟩
        cases bb with
        | true =>
          rw [if_pos rfl]
          exact ⟨ρ, Hs1, re.ext e1, holds_mono h2 (fun d _ ⟨b, z1, z⟩ => ⟨b, z1, fun Hs' H' e' => z Hs' H' (e1.trans e')⟩) fun _ z => z.ext e1⟩
        | false =>
          rw [if_neg Bool.false_ne_true]
          obtain ⟨b, z1, z⟩ := h2
          cases z1
          exact z Hs1 H1 e1
      exact ⟨fun _ => hv, pew hv fun _ _ _ _ _ _ => tM_mono (fun _ _ _ _ z => z.toV) _ _ _, fun z => (by cases z), fun _ _ => hw.pt, fun _ => hw⟩
    · cases h
  | .or a b, X, E, e, ok, hx, h => by
    unfold chkE at h
    split at h
    · rename_i ea eb rest pos hb
      have he := asOr_eq hb
      subst he
      simp only [Bool.and_eq_true, Bool.not_eq_true'] at h
      obtain ⟨⟨⟨⟨h1, h2⟩, h3⟩, h4⟩, h5⟩ := h
      have A := sndE a ok hx h1
      have key : PE X (.BoolOp .Or (eb :: rest) pos) (tE g F H0 E b) ∧ PW X (.BoolOp .Or (eb :: rest) pos) (tT g F H0 E b) := by
        cases rest with
        | nil =>
          rw [Bool.and_eq_true] at h5
          have B := sndE b ok hx h5.1
          exact ⟨pe_one (B.v h4), pw_or1 (B.t h5.2 h4)⟩
        | cons r rs =>
          have B := sndE b ok hx h5
          exact ⟨B.v h4, B.w rfl⟩
      have hv : PE X (.BoolOp .Or (ea :: eb :: rest) pos) (tE g F H0 E (.or a b)) := by
        refine pew (pe_or A.o key.1) fun pins s σ H Q I ⟨ρ, Hs, re, h⟩ => ?_
        unfold evE at h
        refine ⟨ρ, Hs, re, holds_mono (holds_bind h) (fun da _ h2 v Hs1 H1 e1 b1 => ?_) fun _ z => z⟩
        cases da <;> first | exact h2.elim | skip
        rename_i bb _
        cases b1.rbl
        refine ⟨bb, rfl, ?_⟩
        cases bb with
        | false =>
          rw [if_neg Bool.false_ne_true]
          exact ⟨ρ, Hs1, re.ext e1, holds_mono h2 (fun d _ z => z.ext e1) fun _ z => z.ext e1⟩
        | true =>
          rw [if_pos rfl]
          exact h2 _ Hs1 H1 e1 (.bl true)
      have hw : PW X (.BoolOp .Or (ea :: eb :: rest) pos) (tT g F H0 E (.or a b)) := by
        refine pww (pw_or (A.t h2 h3) key.2) fun pins s σ H Q I ⟨ρ, Hs, re, h⟩ => ?_
        unfold evE at h
        refine ⟨ρ, Hs, re, holds_mono (holds_bind h) (fun da _ h2 => ?_) fun _ z => z⟩
        cases da <;> first | exact h2.elim | skip
        rename_i bb _
        refine ⟨bb, rfl, fun Hs1 H1 e1 => ?_⟩
        cases bb with
        | false =>
          rw [if_neg Bool.false_ne_true]
          exact ⟨ρ, Hs1, re.ext e1, holds_mono h2 (fun d _ ⟨b, z1, z⟩ => ⟨b, z1, fun Hs' H' e' => z Hs' H' (e1.trans e')⟩) fun _ z => z.ext e1⟩
        | true =>
          rw [if_pos rfl]
          obtain ⟨b, z1, z⟩ := h2
          cases z1
          exact z Hs1 H1 e1
      exact ⟨fun _ => hv, pew hv fun _ _ _ _ _ _ => tM_mono (fun _ _ _ _ z => z.toV) _ _ _, fun z => (by cases z), fun _ _ => hw.pt, fun _ => hw⟩
    · cases h
  | .ite c a b, X, E, e, ok, hx, h => by
    unfold chkE at h
    split at h
    · rename_i ec ea eb hb
      obtain ⟨p, rfl⟩ := asIf_eq hb
      simp only [Bool.and_eq_true, Bool.not_eq_true'] at h
      obtain ⟨⟨⟨⟨⟨⟨h1, h2⟩, h3⟩, h4⟩, h5⟩, h6⟩, h7⟩ := h
      have C := sndE c ok hx h1
      have A := sndE a ok hx h4
      have B := sndE b ok hx h6
      have hv : PE X (.IfExp ec ea eb p) (tE g F H0 E (.ite c a b)) := by
        refine pew (pe_ifExp (C.t h2 h3) (A.v h5) (B.v h7)) fun pins s σ H Q I ⟨ρ, Hs, re, h⟩ => ?_
        unfold evE at h
        refine ⟨ρ, Hs, re, holds_mono (holds_bind h) (fun da _ h2 => ?_) fun _ z => z⟩
        cases da <;> first | exact h2.elim | skip
        rename_i bb _
        refine ⟨bb, rfl, fun Hs1 H1 e1 => ?_⟩
        cases bb with
        | true =>
          rw [if_pos rfl]
          exact ⟨ρ, Hs1, re.ext e1, holds_mono h2 (fun d _ z => z.ext e1) fun _ z => z.ext e1⟩
        | false =>
          rw [if_neg Bool.false_ne_true]
          exact ⟨ρ, Hs1, re.ext e1, holds_mono h2 (fun d _ z => z.ext e1) fun _ z => z.ext e1⟩
      exact ⟨fun _ => hv, pew hv fun _ _ _ _ _ _ => tM_mono (fun _ _ _ _ z => z.toV) _ _ _, fun z => (by cases z), fun z => (by cases z), fun z => (by cases z)⟩
    · cases h
  | .tup es, X, E, e, ok, hx, h => by
    unfold chkE at h
    split at h
    · rename_i xs hb
      obtain ⟨k, p, rfl⟩ := asTup_eq hb
      simp only [Bool.and_eq_true, Bool.not_eq_true', decide_eq_true_eq] at h
      obtain ⟨⟨h1, h2⟩, h3⟩ := h
      have A := sndL es ok hx h1
      refine Snd.ofR (pew (pe_tup A) fun pins s σ H Q I ⟨ρ, Hs, re, h⟩ => ?_) rfl rfl
      unfold evE at h
      refine ⟨ρ, Hs, re, holds_mono (holds_bind h) (fun ds hds q vs Hs1 H1 e1 b1 r1 => ?_) fun _ z => z⟩
      have r1 := r1 h2
      have hl : ds.length ≤ 1000 := by rw [len_evL hds h1]; exact h3
      refine ⟨?_, (PR.ext q e1).tuple e1.sub r1⟩
      rw [r1.length]
      exact Nat.le_of_lt (small1000 hl)
    · cases h
  | .lst es, X, E, e, ok, hx, h => by
    unfold chkE at h
    split at h
    · rename_i xs hb
      obtain ⟨p, rfl⟩ := asLst_eq hb
      simp only [Bool.and_eq_true, Bool.not_eq_true', decide_eq_true_eq] at h
      obtain ⟨⟨h1, h2⟩, h3⟩ := h
      have A := sndL es ok hx h1
      refine Snd.ofR (pew (pe_lst A) fun pins s σ H Q I ⟨ρ, Hs, re, h⟩ => ?_) rfl rfl
      unfold evE at h
      refine ⟨ρ, Hs, re, holds_mono (holds_bind h) (fun ds hds q vs Hs1 H1 e1 b1 r1 => ?_) fun _ z => z⟩
      have r1 := r1 h2
      have hl : ds.length ≤ 1000 := by rw [len_evL hds h1]; exact h3
      refine ⟨?_, (PR.ext q e1).list e1.sub r1⟩
      rw [r1.length]
      exact Nat.le_of_lt (small1000 hl)
    · cases h
  | .idx a b, X, E, e, ok, hx, h => by
    unfold chkE at h
    split at h
    · rename_i ea eb hb
      obtain ⟨p, rfl⟩ := asSub_eq hb
      simp only [Bool.and_eq_true] at h
      obtain ⟨⟨h1, h2⟩, h3⟩ := h
      have A := sndE a ok hx h1
      have B := sndE b ok hx h2
      refine Snd.ofV (pew (pe_ix (ix_ok (g := g) ok.K) A.o B.o (plain_ix h3)) fun pins s σ H Q I ⟨ρ, Hs, re, h⟩ => ?_) rfl rfl rfl
      unfold evE at h
      exact ⟨ρ, Hs, re, holds_mono (holds_bind h) (fun da _ h2 v Hs1 H1 e1 b1 => ⟨ρ, Hs1, re.ext e1, holds_mono (holds_bind h2) (fun db _ h3 w Hs2 H2 e2 b2 =>
        ⟨Hs2, da, db, e2.sub, b1.ext e2, b2, holds_mono h3 (fun d _ q => q.ext (e1.trans e2)) fun _ _ => trivial⟩) fun _ z => z.ext e1⟩) fun _ z => z⟩
    · cases h
  | .slc a lo hi, X, E, e, ok, hx, h => by
    unfold chkE at h
    split at h
    · rename_i ea eb hb
      obtain ⟨p, rfl⟩ := asSub_eq hb
      split at h
      · rename_i l u hb2
        obtain ⟨p2, rfl⟩ := asSlc_eq hb2
        simp only [Bool.and_eq_true] at h
        obtain ⟨⟨h1, h2⟩, h3⟩ := h
        have A := sndE a ok hx h1
        have B := sndO lo ok hx h2
        have C := sndO hi ok hx h3
        refine Snd.ofR (pew (pe_slice (sl_ok (g := g) ok.K) A.o B C) fun pins s σ H Q I ⟨ρ, Hs, re, h⟩ => ?_) rfl rfl
        unfold evE at h
        exact ⟨ρ, Hs, re, holds_mono (holds_bind h) (fun da _ h2 v Hs1 H1 e1 b1 => ⟨ρ, Hs1, re.ext e1, holds_mono (holds_bind h2) (fun l _ h3 Hs2 H2 e2 => ⟨ρ, Hs2, re.ext (e1.trans e2), holds_mono (holds_bind h3) (fun u _ h4 Hs3 H3 e3 =>
          ⟨Hs3, da, e3.sub, b1.ext (e2.trans e3), holds_mono h4 (fun d _ q => q.ext (e1.trans (e2.trans e3))) fun _ _ => trivial⟩) fun _ z => z.ext (e1.trans e2)⟩) fun _ z => z.ext e1⟩) fun _ z => z⟩
      · cases h
    · cases h
  | .rvs false a, X, E, e, ok, hx, h => by
    unfold chkE at h
    split at h
    · rename_i ea hb
      obtain ⟨k, p1, p2, p3, p, rfl⟩ := asRvs_eq hb
      have A := sndE a ok hx h
      refine Snd.ofR (pew (pe_revA A.o) fun pins s σ H Q I ⟨ρ, Hs, re, h⟩ => ?_) rfl rfl
      unfold evE at h
      refine ⟨ρ, Hs, re, holds_mono (holds_bind h) (fun da _ h2 v Hs1 H1 e1 b1 => ?_) fun _ z => z⟩
      cases da <;> first | exact h2.elim | skip
      · obtain ⟨q, vs, rfl, s1, r1⟩ := b1.tuple e1.sub
        exact ⟨q, vs, rfl, .inr ⟨by rw [ok.K]; exact s1, PR.tuple (PR.ext h2 e1) e1.sub r1.reverse⟩⟩
      · obtain ⟨q, vs, rfl, s1, r1⟩ := b1.list e1.sub
        exact ⟨q, vs, rfl, .inl ⟨by rw [ok.K]; exact s1, PR.list (PR.ext h2 e1) e1.sub r1.reverse⟩⟩
    · cases h
  | .rvs true a, X, E, e, ok, hx, h => by
    unfold chkE at h
    split at h
    · rename_i fe r hb
      obtain ⟨p, rfl⟩ := asCall_eq hb
      split at h
      · rename_i fr x hb2
        obtain ⟨p2, rfl⟩ := asCall_eq hb2
        simp only [Bool.and_eq_true] at h
        obtain ⟨⟨⟨h1, h2⟩, h3⟩, h4⟩ := h
        obtain ⟨q1, rfl, g1, g2, g3⟩ := gl_of h1
        obtain ⟨q2, rfl, k1, k2, k3⟩ := gl_of h2
        have A := sndE a ok hx h3
        refine Snd.ofR (pew (pe_lstRev ok.calm (Gl_of g1) (ok.blt _ (by decide +kernel)) (Gl_of k1) (ok.blt _ (by decide +kernel)) A.o (star_cons h4)) fun pins s σ H Q I ⟨ρ, Hs, re, h⟩ => ?_) rfl rfl
        unfold evE at h
        refine ⟨ρ, Hs, re, holds_mono (holds_bind h) (fun da _ h2 v Hs1 H1 e1 b1 => ?_) fun _ z => z⟩
        cases da <;> first | exact h2.elim | skip
        · obtain ⟨q, vs, rfl, s1, r1⟩ := b1.list e1.sub
          exact ⟨q, vs, rfl, by rw [ok.K]; exact s1, PR.list (PR.ext h2 e1) e1.sub r1.reverse⟩
      · cases h
    · cases h
  | .call f es dfl, X, E, e, ok, hx, h => by
    unfold chkE at h
    split at h
    · rename_i fe xs hb
      obtain ⟨p, rfl⟩ := asCall_eq hb
      simp only [Bool.and_eq_true, Bool.not_eq_true'] at h
      obtain ⟨⟨h1, h2⟩, h3⟩ := h
      cases hf : T.fn f with
      | none => rw [hf] at h1; cases h1
      | some fi =>
        rw [hf] at h1
        simp only [Bool.and_eq_true, decide_eq_true_eq] at h1
        obtain ⟨⟨⟨⟨k1, _⟩, k2⟩, k3⟩, k4⟩ := h1
        obtain ⟨p2, rfl, g1, g2, g3⟩ := gl_of k1
        obtain ⟨k, fa, fd, ps, m1, m2, m3, m4, m5⟩ := (ok.fns f fi hf).ex
        obtain ⟨dvs, dus, d1, d2, d3⟩ := m5 (fi.ds.length - dfl.length) (Nat.sub_le _ _)
        rw [sameDs_of k4] at d3
        have A := sndL es ok hx h3
        cases xs with
        | nil => cases h2
        | cons y ys =>
          have hst : notStar y = true := by
            cases es with
            | nil => simp [chkL] at h3
            | cons z zs => simp only [chkL, Bool.and_eq_true] at h3; exact h3.1.2
          have hpl : (backTo p (starEach ys X.env)).any (·.1) = false := by
            cases es with
            | nil => simp [chkL] at h3
            | cons z zs => simp only [chkL, Bool.and_eq_true] at h3; exact no_star zs ys h3.2
          have base := pe_call (pos := p) (p := p2) m4 m3 (Gl_of g1) m1 m2 d1 d2 hx A g2 (star_cons hst) hpl
          have key : ∀ {ρ : List Sl} {σ : L2.St} {Hs H : Hp} {Q : VK}, RE g H0 Hs H ρ σ → holds (evE F (.call f es dfl) ρ) (fun d => match fi.fr with | true => PR g Hs H d Q | false => PV g Hs H d Q) (EXc g E Hs H) → tCall (spF g F f fi.np fi.fr) dvs E (tA g F H0 E es) σ H Q := by
            intro ρ σ Hs H Q re h
            unfold evE at h
            refine ⟨ρ, Hs, re, holds_mono (holds_bind h) (fun ds hds h2 vs Hs1 H1 e1 b1 r1 => ?_) fun _ z => z⟩
            have l1 : vs.length = ds.length := (b1.reps e1.sub).length
            have l2 : ds.length = (y :: ys).length := len_evL hds h3
            have l3 : dvs.length = dfl.length := (d3 H).length
            refine callee e1.sub b1 r1 d3 (by rw [List.length_append]; omega) (holds_mono h2 (fun d _ z => ?_) fun _ z => z.ext e1)
            cases hfr : fi.fr with
            | true => rw [hfr] at z; exact PR.ext z e1
            | false => rw [hfr] at z; exact PV.ext z e1
          cases hfr : fi.fr with
          | true =>
            refine Snd.ofR (pew base fun pins s σ H Q I ⟨ρ, Hs, re, h⟩ => key re (holds_mono h (fun d _ z => ?_) fun _ z => z)) rfl rfl
            rw [hfr]; exact z
          | false =>
            refine Snd.ofV (pew base fun pins s σ H Q I ⟨ρ, Hs, re, h⟩ => key re (holds_mono h (fun d _ z => ?_) fun _ z => z)) rfl rfl ?_
            · rw [hfr]; exact z
            · simp only [isFr, hf]; exact hfr
    · cases h
  | .bi b es, X, E, e, ok, hx, h => by
    unfold chkE at h
    split at h
    · rename_i fe xs hb
      obtain ⟨p, rfl⟩ := asCall_eq hb
      simp only [Bool.and_eq_true, Bool.not_eq_true'] at h
      obtain ⟨⟨h1, h2⟩, h3⟩ := h
      obtain ⟨p2, rfl, g1, g2, g3⟩ := gl_of h1
      have A := sndL es ok hx h3
      cases xs with
      | nil => cases h2
      | cons y ys =>
        have hst : notStar y = true := by
          cases es with
          | nil => simp [chkL] at h3
          | cons z zs => simp only [chkL, Bool.and_eq_true] at h3; exact h3.1.2
        have hpl : (backTo p (starEach ys X.env)).any (·.1) = false := by
          cases es with
          | nil => simp [chkL] at h3
          | cons z zs => simp only [chkL, Bool.and_eq_true] at h3; exact no_star zs ys h3.2
        refine Snd.ofR (pew (pe_bi (bi_ok (g := g) ok.K ok.calm b) (Gl_of g1) (ok.blt _ (bi_in b)) A g2 g3 (star_cons hst) hpl) fun pins s σ H Q I ⟨ρ, Hs, re, h⟩ => ?_) rfl rfl
        unfold evE at h
        exact ⟨ρ, Hs, re, holds_mono (holds_bind h) (fun ds _ h2 vs Hs1 H1 e1 b1 r1 => ⟨Hs1, ds, e1.sub, b1, holds_mono h2 (fun d _ z => z.ext e1) fun _ _ => trivial⟩) fun _ z => z⟩
    · cases h
  | .isi a t, X, E, e, ok, hx, h => by
    unfold chkE at h
    split at h
    · rename_i fe xa ty hb
      obtain ⟨p, rfl⟩ := asCall_eq hb
      simp only [Bool.and_eq_true] at h
      obtain ⟨⟨⟨h1, h2⟩, h3⟩, h4⟩ := h
      obtain ⟨p2, rfl, g1, g2, g3⟩ := gl_of h1
      obtain ⟨p3, rfl, k1, k2, k3⟩ := gl_of h2
      have A := sndE a ok hx h3
      have hty : PE X (.Name (tyStr t) p3) (tC (.ty (tyName t))) := pe_bltn (Gl_of k1) (ok.blt _ (ty_in' t)) (boot_ty t) rfl k3 k2
      refine Snd.ofR (pew (pe_callB call_isi (Gl_of g1) (ok.blt _ (by decide +kernel)) (by decide +kernel) (pa_cons A.o (pa_cons hty pa_nil) (by rw [star_cons h4])) (by decide) g2 (star_cons h4) rfl) fun pins s σ H Q I ⟨ρ, Hs, re, h⟩ => ?_) rfl rfl
      unfold evE at h
      refine ⟨ρ, Hs, re, holds_mono (holds_bind h) (fun d _ h2 v Hs1 H1 e1 b1 => ?_) fun _ z => z⟩
      obtain ⟨hn, h2⟩ := holds_gd h2
      exact isi_ok ok.K t e1.sub b1 hn ((PR.ext h2 e1).bool e1.sub)
    · cases h
  | .comp elt tg k es cond, X, E, e, ok, hx, h => by
    unfold chkE at h
    split at h
    · rename_i ee te iter ifs cs hb
      obtain ⟨p, rfl⟩ := asComp_eq hb
      simp only [Bool.and_eq_true, Bool.not_eq_true'] at h
      obtain ⟨⟨⟨⟨⟨h1, h2⟩, h3⟩, h4⟩, h5⟩, h6⟩ := h
      exact Snd.ofR (Parts.pe (parts_of h1 (sndI k es ok hx h2) h3 (fun s H C cl fp => sndE elt (ok.blk s H cs (compEnvC cs cl C X.env) fp) (ok.px _ rfl rfl) h4) h5 (fun s H C cl fp => sndC cond (ok.blk s H cs (compEnvC cs cl C X.env) fp) (ok.px _ rfl rfl) h6) ok) ok) rfl rfl
    · cases h
theorem sndL : ∀ (es : List Ex) {X : Cx} {E : XK} {xs : List Expr}, XOk g T F CX X → Passes CX X E → chkL T X.N es X.env.scope xs = true → PA X xs (tA g F H0 E es)
  | [], X, E, xs, ok, hx, h => by
    cases xs with
    | nil => exact sargs_nil
    | cons y ys => simp [chkL] at h
  | e :: es, X, E, xs, ok, hx, h => by
    cases xs with
    | nil => simp [chkL] at h
    | cons y ys =>
      simp only [chkL, Bool.and_eq_true] at h
      exact sargs_cons (sndE e ok hx h.1.1) h.1.2 (sndL es ok hx h.2)
theorem sndO : ∀ (o : Option Ex) {X : Cx} {E : XK} {e : Option Expr}, XOk g T F CX X → Passes CX X E → chkO T X.N o X.env.scope e = true → PO X e (tOp' g F H0 E o)
  | none, X, E, e, ok, hx, h => by
    cases e with
    | none => exact pow po_none fun σ H Q ⟨ρ, Hs, re, h⟩ => by unfold evO at h; exact h Hs H (Ext.refl re.sub)
    | some e => simp [chkO] at h
  | some x, X, E, e, ok, hx, h => by
    cases e with
    | none => simp [chkO] at h
    | some e =>
      simp only [chkO, Bool.and_eq_true, Bool.not_eq_true'] at h
      have A := sndE x ok hx h.1
      refine pow (po_some A.o) fun σ H Q ⟨ρ, Hs, re, h⟩ => ?_
      unfold evO at h
      refine ⟨ρ, Hs, re, holds_mono (holds_bind h) (fun d _ h2 v Hs1 H1 e1 b1 => ?_) fun _ z => z⟩
      cases d <;> first | exact h2.elim | skip
      cases b1.rint
      exact ⟨_, rfl, h2 Hs1 H1 e1⟩
theorem sndC : ∀ (o : Option Ex) {X : Cx} {ifs : List Expr}, XOk g T F CX X → Passes CX X E0 → chkC T X.N o X.env.scope ifs = true → PTs X ifs (tCnd g F H0 o)
  | none, X, ifs, ok, hx, h => by
    cases ifs with
    | nil => exact pts_nil
    | cons y ys => simp [chkC] at h
  | some x, X, ifs, ok, hx, h => by
    cases ifs with
    | nil => simp [chkC] at h
    | cons y ys =>
      cases ys with
      | cons z zs => simp [chkC] at h
      | nil =>
        simp only [chkC, Bool.and_eq_true, Bool.not_eq_true'] at h
        exact pts_one ((sndE x ok hx h.1.1).t h.1.2 h.2)
theorem sndI : ∀ (k : Ik) (es : List Ex) {X : Cx} {E : XK} {tg e : Expr}, XOk g T F CX X → Passes CX X E → chkI T X.N k es X.env.scope tg e = true → PI X tg e (tI g F H0 E k es)
  | k, [], X, E, tg, e, ok, hx, h => by cases k <;> simp [chkI] at h
  | k, [x], X, E, tg, e, ok, hx, h => by
    cases k <;> simp only [chkI, Bool.false_eq_true] at h
    · simp only [Bool.and_eq_true, Bool.not_eq_true'] at h
      exact pi_seq ok.K ((sndE x ok hx h.1).v h.2)
    · split at h <;> first | cases h | skip
      rename_i fe a hb
      obtain ⟨p, rfl⟩ := asCall_eq hb
      simp only [Bool.and_eq_true, Bool.not_eq_true'] at h
      obtain ⟨⟨⟨h1, h2⟩, h3⟩, h4⟩ := h
      obtain ⟨p2, rfl, g1, g2, g3⟩ := gl_of h1
      exact pi_rng1 (Gl_of g1) (ok.blt _ (by decide +kernel)) (sargs_cons (sndE x ok hx h2) h3 sargs_nil) h3
    · split at h <;> first | cases h | skip
      rename_i fe a hb
      obtain ⟨p, rfl⟩ := asCall_eq hb
      simp only [Bool.and_eq_true, Bool.not_eq_true'] at h
      obtain ⟨⟨⟨⟨h0, h1⟩, h2⟩, h3⟩, h4⟩ := h
      obtain ⟨p2, rfl, g1, g2, g3⟩ := gl_of h1
      cases tg <;> simp only [isTupE, Bool.false_eq_true] at h0
      exact pi_en ok.K (Gl_of g1) (ok.blt _ (by decide +kernel)) (sargs_cons (sndE x ok hx h2) h3 sargs_nil) h3 h4
    · split at h <;> first | cases h | skip
      rename_i fe a hb
      obtain ⟨p, rfl⟩ := asCall_eq hb
      simp only [Bool.and_eq_true, Bool.not_eq_true'] at h
      obtain ⟨⟨⟨h1, h2⟩, h3⟩, h4⟩ := h
      obtain ⟨p2, rfl, g1, g2, g3⟩ := gl_of h1
      exact pi_rv ok.K (Gl_of g1) (ok.blt _ (by decide +kernel)) ((sndE x ok hx h2).v h4) h3
    · split at h <;> first | cases h | skip
      rename_i fe r hb
      obtain ⟨p, rfl⟩ := asCall_eq hb
      split at h <;> first | cases h | skip
      rename_i fr a hb2
      obtain ⟨p3, rfl⟩ := asCall_eq hb2
      simp only [Bool.and_eq_true, Bool.not_eq_true'] at h
      obtain ⟨⟨⟨⟨h1, h0⟩, h2⟩, h3⟩, h4⟩ := h
      obtain ⟨p2, rfl, g1, g2, g3⟩ := gl_of h1
      obtain ⟨p4, rfl, k1, k2, k3⟩ := gl_of h0
      exact pi_rr1 (Gl_of g1) (ok.blt _ (by decide +kernel)) (Gl_of k1) (ok.blt _ (by decide +kernel)) ((sndE x ok hx h2).v h4) h3
  | k, [x, y], X, E, tg, e, ok, hx, h => by
    cases k <;> simp only [chkI, Bool.false_eq_true] at h
    · split at h <;> first | cases h | skip
      rename_i fe a b hb
      obtain ⟨p, rfl⟩ := asCall_eq hb
      simp only [Bool.and_eq_true, Bool.not_eq_true'] at h
      obtain ⟨⟨⟨⟨⟨⟨h1, h2⟩, h3⟩, h4⟩, h5⟩, h6⟩, h7⟩ := h
      obtain ⟨p2, rfl, g1, g2, g3⟩ := gl_of h1
      exact pi_rng2 (Gl_of g1) (ok.blt _ (by decide +kernel)) (sargs_cons (sndE x ok hx h2) h3 (sargs_cons (sndE y ok hx h4) h5 sargs_nil)) h3 h5
    · split at h <;> first | cases h | skip
      rename_i fe a b hb
      obtain ⟨p, rfl⟩ := asCall_eq hb
      simp only [Bool.and_eq_true, Bool.not_eq_true'] at h
      obtain ⟨⟨⟨⟨⟨⟨⟨h0, h1⟩, h2⟩, h3⟩, h4⟩, h5⟩, h6⟩, h7⟩ := h
      obtain ⟨p2, rfl, g1, g2, g3⟩ := gl_of h1
      cases tg <;> simp only [isTupE, Bool.false_eq_true] at h0
      exact pi_zp ok.K (Gl_of g1) (ok.blt _ (by decide +kernel)) (sargs_cons (sndE x ok hx h2) h3 (sargs_cons (sndE y ok hx h4) h5 sargs_nil)) h3 h5 h6 h7 (by rw [star_cons h5]; rfl)
    · split at h <;> first | cases h | skip
      rename_i fe r hb
      obtain ⟨p, rfl⟩ := asCall_eq hb
      split at h <;> first | cases h | skip
      rename_i fr a b hb2
      obtain ⟨p3, rfl⟩ := asCall_eq hb2
      simp only [Bool.and_eq_true, Bool.not_eq_true'] at h
      obtain ⟨⟨⟨⟨⟨⟨⟨h1, h0⟩, h2⟩, h3⟩, h4⟩, h5⟩, h6⟩, h7⟩ := h
      obtain ⟨p2, rfl, g1, g2, g3⟩ := gl_of h1
      obtain ⟨p4, rfl, k1, k2, k3⟩ := gl_of h0
      exact pi_rr2 (Gl_of g1) (ok.blt _ (by decide +kernel)) (Gl_of k1) (ok.blt _ (by decide +kernel)) ((sndE x ok hx h2).v h6) h3 ((sndE y ok hx h4).v h7) h5 (by rw [star_cons h5]; rfl)
  | k, [x, y, z], X, E, tg, e, ok, hx, h => by
    cases k <;> simp only [chkI, Bool.false_eq_true] at h
    · split at h <;> first | cases h | skip
      rename_i fe a b c hb
      obtain ⟨p, rfl⟩ := asCall_eq hb
      simp only [Bool.and_eq_true, Bool.not_eq_true'] at h
      obtain ⟨⟨⟨⟨⟨⟨⟨⟨⟨h1, h2⟩, h3⟩, h4⟩, h5⟩, h6⟩, h7⟩, h8⟩, h9⟩, h10⟩ := h
      obtain ⟨p2, rfl, g1, g2, g3⟩ := gl_of h1
      exact pi_rng3 (Gl_of g1) (ok.blt _ (by decide +kernel)) (sargs_cons (sndE x ok hx h2) h3 (sargs_cons (sndE y ok hx h4) h5 (sargs_cons (sndE z ok hx h6) h7 sargs_nil))) h3 h5 h7
  | k, _ :: _ :: _ :: _ :: _, X, E, tg, e, ok, hx, h => by cases k <;> simp [chkI] at h
end
end
end Dw

/-! Statements: how they run, how they are checked. -/
namespace Dw
open PySem PySem.Spec PyProof.Rows L2

/-- more turns than any loop here takes -/
def FUEL : Nat := 2 ^ 2000
inductive Sx where
  | asg (i : Nat) (e : Ex)
  | own (i : Nat) (e : Ex)
  | unp (is : List Nat) (e : Ex)
  | aug (i : Nat) (op : Bop) (e : Ex)
  | put (i : Nat) (ix e : Ex)
  | app (i : Nat) (e : Ex)
  | ext (i : Nat) (e : Ex)
  | pop (is : List Nat) (i : Nat)
  | ite (c : Ex) (a b : List Sx)
  | for_ (tg : List Nat) (k : Ik) (es : List Ex) (body : List Sx)
  | while_ (fuel : Nat) (c : Ex) (body : List Sx)
  | ret (e : Ex)
  | retR (e : Ex)
  | retN
  | brk
  | cnt
  | pas
  | frz (i : Nat)
  | del (is : List Nat)
/-- where a statement leads to -/
inductive O where
  | nx (ρ : List Sl)
  | bk (ρ : List Sl)
  | ct (ρ : List Sl)
  | rt (d : D)
def isLst : D → Bool
  | .lst _ => true
  | _ => false
def forD (f : D → List Sl → M O) : List D → List Sl → M O
  | [], ρ => .ok (.nx ρ)
  | x :: xs, ρ => (f x ρ).bind fun o => match o with
    | .nx ρ' => forD f xs ρ'
    | .ct ρ' => forD f xs ρ'
    | .bk ρ' => .ok (.nx ρ')
    | .rt d => .ok (.rt d)
def whlD (c : List Sl → M D) (f : List Sl → M O) : Nat → List Sl → M O
  | 0, _ => .no
  | n + 1, ρ => (c ρ).bind fun b => match b with
    | .bl true => (f ρ).bind fun o => match o with
      | .nx ρ' => whlD c f n ρ'
      | .ct ρ' => whlD c f n ρ'
      | .bk ρ' => .ok (.nx ρ')
      | .rt d => .ok (.rt d)
    | .bl false => .ok (.nx ρ)
    | _ => .no
def getO (ρ : List Sl) (i : Nat) : M (List D) := match ρ[i]? with
  | some (.ow ds) => .ok ds
  | _ => .no
def frzD (ρ : List Sl) (i : Nat) : List Sl := match ρ[i]? with
  | some (.ow ds) => ρ.set i (.sh (.lst ds))
  | _ => ρ
/-- x op= y, of whole numbers -/
def augD : Bop → D → D → M D
  | .add, .int i, .int j => .ok (.int (i + j))
  | .sub, .int i, .int j => .ok (.int (i - j))
  | _, _, _ => .no
mutual
def exS (F : Fs) (fr : Bool) : Sx → List Sl → M O
  | .asg i e, ρ => (evE F e ρ).bind fun d => .ok (.nx (setV ρ i d))
  | .own i e, ρ => (evE F e ρ).bind fun d => match d with
    | .lst ds => .ok (.nx (ρ.set i (.ow ds)))
    | _ => .no
  | .unp is e, ρ => (evE F e ρ).bind fun d => (tgD ρ is d).bind fun ρ' => .ok (.nx ρ')
  | .aug i op e, ρ => (getV ρ i).bind fun x => (evE F e ρ).bind fun y => (augD op x y).bind fun d => .ok (.nx (setV ρ i d))
  | .put i ix e, ρ => (evE F e ρ).bind fun d => (getO ρ i).bind fun ds => (evE F ix ρ).bind fun k => match k with
    | .int k => match ixN ds.length k with
      | some j => .ok (.nx (ρ.set i (.ow (ds.set j d))))
      | none => .no
    | _ => .no
  | .app i e, ρ => (getO ρ i).bind fun ds => (evE F e ρ).bind fun d => gd (decide (ds.length < sizeLine)) (.nx (ρ.set i (.ow (ds ++ [d]))))
  | .ext i e, ρ => (getO ρ i).bind fun ds => (evE F e ρ).bind fun d => match seqOf d with
    | some es => gd (fits (ds.length + es.length)) (.nx (ρ.set i (.ow (ds ++ es))))
    | none => .no
  | .pop is i, ρ => (getO ρ i).bind fun ds => match ds[ds.length - 1]? with
    | some d => (tgD (ρ.set i (.ow ds.dropLast)) is d).bind fun ρ' => .ok (.nx ρ')
    | none => .no
  | .ite c a b, ρ => (evE F c ρ).bind fun d => match d with
    | .bl true => exB F fr a ρ
    | .bl false => exB F fr b ρ
    | _ => .no
  | .for_ tg k es body, ρ => ((evL F es ρ).bind fun ds => itD k ds).bind fun its => forD (fun d ρ => (tgD ρ tg d).bind fun ρ' => exB F fr body ρ') its ρ
  | .while_ fuel c body, ρ => whlD (evE F c) (exB F fr body) fuel ρ
  | .ret e, ρ => (evE F e ρ).bind fun d => gd (!fr || !isLst d) (.rt d)
  | .retR e, ρ => (evE F e ρ).bind fun d => .ok (.rt d)
  | .retN, _ => .ok (.rt .non)
  | .brk, ρ => .ok (.bk ρ)
  | .cnt, ρ => .ok (.ct ρ)
  | .pas, ρ => .ok (.nx ρ)
  | .del is, ρ => .ok (.nx (wipeD ρ is))
  | .frz i, ρ => .ok (.nx (frzD ρ i))
def exB (F : Fs) (fr : Bool) : List Sx → List Sl → M O
  | [], ρ => .ok (.nx ρ)
  | s :: ss, ρ => (exS F fr s ρ).bind fun o => match o with
    | .nx ρ' => exB F fr ss ρ'
    | .bk ρ' => .ok (.bk ρ')
    | .ct ρ' => .ok (.ct ρ')
    | .rt d => .ok (.rt d)
end
/-- a def: how many slots, its body -/
structure Df where
  n : Nat
  fr : Bool
  body : List Sx
def runD (F : Fs) (d : Df) (args : List D) : M D := match exB F d.fr d.body (args.map Sl.sh ++ List.replicate (d.n - args.length) .no) with
  | .ok (.rt r) => .ok r
  | .ok (.nx _) => .ok .non
  | .ex c => .ex c
  | _ => .no
/-- the defs, called to a depth -/
def callN (P : Nat → Option Df) : Nat → Fs
  | 0, _, _ => .no
  | n + 1, f, args => match P f with
    | some d => runD (callN P n) d args
    | none => .no

/-! ### checks -/
def locB (sc : Scope) (x : Str) : Bool := match sc.names.lookup x with
  | some .local => true
  | some .cell => true
  | _ => false
def isLocal (sc : Scope) (x : Str) : Bool := match sc.names.lookup x with
  | some .local => true
  | _ => false
def nmSt (N : List Str) (sc : Scope) (i : Nat) (x : Str) : Bool := decide (N[i]? = some x) && locB sc x
/-- a comprehension goes to a local name on its own line, or it is none -/
def swOk (sc : Scope) (x : Str) (p : Pos) : Expr → Bool
  | .ListComp _ _ cs q => !isLocal sc x || ((p.line == q.line) && !(cs.names.any fun (n, k) => n == x && (k == .local || k == .cell)))
  | .SetComp _ _ _ _ => false
  | .DictComp _ _ _ _ _ => false
  | _ => true
def notComp : Expr → Bool
  | .ListComp _ _ _ _ => false
  | .SetComp _ _ _ _ => false
  | .DictComp _ _ _ _ _ => false
  | _ => true
def asAsg : Stmt → Option (Expr × Expr × Pos)
  | .Assign [t] e p => some (t, e, p)
  | _ => none
def asNmP : Expr → Option (Str × Pos)
  | .Name x p => some (x, p)
  | _ => none
def asAug : Stmt → Option (Str × Operator × Expr)
  | .AugAssign (.Name x _) o e _ => some (x, o, e)
  | _ => none
def asSEx : Stmt → Option (Expr × Pos)
  | .Expr e p => some (e, p)
  | _ => none
/-- o.m(args) on one line -/
def asMeth : Expr → Option (Expr × Str × List Expr)
  | .Call (.Attribute o m ap) xs [] cp => if (ap.endLine == cp.line) = true then some (o, m, xs) else none
  | _ => none
def asSIf : Stmt → Option (Expr × List Stmt × List Stmt)
  | .If c a b _ => some (c, a, b)
  | _ => none
def asFor : Stmt → Option (Expr × Expr × List Stmt)
  | .For t i b [] _ => some (t, i, b)
  | _ => none
def asWhl : Stmt → Option (Expr × List Stmt)
  | .While c b [] _ => some (c, b)
  | _ => none
def asRet : Stmt → Option (Option Expr)
  | .Return e _ => some e
  | _ => none
def augOk : Bop → Operator → Bool
  | .add, .Add => true
  | .sub, .Sub => true
  | _, _ => false
def locAllF (sc : Scope) : List (Str × Nat) → Bool
  | [] => true
  | (x, _) :: r => locB sc x && locAllF sc r
def nmAll (N : List Str) : List (Str × Nat) → Bool
  | [] => true
  | (x, i) :: r => decide (N[i]? = some x) && nmAll N r
def chkTg (N : List Str) (sc : Scope) (t : Expr) (is : List Nat) : Bool := match ownOf t is with
  | some own => locAllF sc own && nmAll N own
  | none => false
mutual
def chkS (T : Tab) (N : List Str) (fr : Bool) (sc : Scope) : Sx → Stmt → Bool
  | .asg i e, st => match asAsg st with
    | some (t, v, _) => match asNmP t with
      | some (x, p) => nmSt N sc i x && swOk sc x p v && chkE T N e sc v && !isBor e
      | none => false
    | none => false
  | .own i e, st => match asAsg st with
    | some (t, v, _) => match asNmP t with
      | some (x, p) => nmSt N sc i x && swOk sc x p v && chkE T N e sc v && isFr T e
      | none => false
    | none => false
  | .unp is e, st => match asAsg st with
    | some (t, v, _) => isTupE t && chkTg N sc t is && notComp v && !isTupE v && chkE T N e sc v && !isBor e
    | none => false
  | .aug i op e, st => match asAug st with
    | some (x, o, v) => nmSt N sc i x && augOk op o && chkE T N e sc v
    | none => false
  | .put i ix e, st => match asAsg st with
    | some (t, v, _) => match asSub t with
      | some (o, k) => nmOk N sc i o && chkE T N e sc v && !isBor e && chkE T N ix sc k && notComp v && notSlice k
      | none => false
    | none => false
  | .app i e, st => match asSEx st with
    | some (m, _) => match asMeth m with
      | some (o, nm, [v]) => decide (nm = "append") && nmOk N sc i o && chkE T N e sc v && notStar v && !isBor e
      | _ => false
    | none => false
  | .ext i e, st => match asSEx st with
    | some (m, _) => match asMeth m with
      | some (o, nm, [v]) => decide (nm = "extend") && nmOk N sc i o && chkE T N e sc v && notStar v
      | _ => false
    | none => false
  | .pop is i, st => match asAsg st with
    | some (t, v, _) => match asMeth v with
      | some (o, nm, []) => decide (nm = "pop") && nmOk N sc i o && chkTg N sc t is && !is.contains i
      | _ => false
    | none => false
  | .ite c a b, st => match asSIf st with
    | some (ec, sa, sb) => chkE T N c sc ec && notIf ec && !isBor c && chkB T N fr sc a sa && chkB T N fr sc b sb
    | none => false
  | .for_ tg k es body, st => match asFor st with
    | some (t, i, b) => chkTg N sc t tg && chkI T N k es sc t i && notSet i && chkB T N fr sc body b
    | none => false
  | .while_ _ c body, st => match asWhl st with
    | some (ec, b) => chkE T N c sc ec && notIf ec && !isBor c && chkB T N fr sc body b
    | none => false
  | .ret e, st => match asRet st with
    | some (some v) => chkE T N e sc v && !isBor e
    | _ => false
  | .retR e, st => match asRet st with
    | some (some v) => chkE T N e sc v && (isFr T e || (isBor e && fr))
    | _ => false
  | .retN, st => match asRet st with
    | some none => true
    | _ => false
  | .brk, st => match st with
    | .Break _ => true
    | _ => false
  | .cnt, st => match st with
    | .Continue _ => true
    | _ => false
  | .pas, st => match st with
    | .Pass _ => true
    | _ => false
  | .frz _, _ => false
  | .del _, _ => false
def chkB (T : Tab) (N : List Str) (fr : Bool) (sc : Scope) : List Sx → List Stmt → Bool
  | [], [] => true
  | .frz _ :: ss, ts => chkB T N fr sc ss ts
  | .del _ :: ss, ts => chkB T N fr sc ss ts
  | s :: ss, t :: ts => chkS T N fr sc s t && chkB T N fr sc ss ts
  | _, _ => false
end
end Dw

namespace Dw
open PySem PySem.Spec PyProof.Rows L2
section
variable {g : G} {T : Tab} {F : Fs} {H0 : Hp} {CX : CXT}
/-- what is wanted of a handed back value -/
def RT (g : G) (fr : Bool) (Hs0 H0 : Hp) (d : D) (R : VK) : Prop := match fr with
  | true => PR g Hs0 H0 d R
  | false => PV g Hs0 H0 d R
def oPost (g : G) (H0 Hs0 : Hp) (fr : Bool) (Hs : Hp) (Dn : Ends) : O → Prop
  | .nx ρ' => ∀ σ' Hs' H', RE g H0 Hs' H' ρ' σ' → Ext Hs0 H0 Hs' H' → Same Hs Hs' → Dn.nx σ' H'
  | .bk ρ' => ∀ σ' Hs' H', RE g H0 Hs' H' ρ' σ' → Ext Hs0 H0 Hs' H' → Same Hs Hs' → Dn.bk σ' H'
  | .ct ρ' => ∀ σ' Hs' H', RE g H0 Hs' H' ρ' σ' → Ext Hs0 H0 Hs' H' → Same Hs Hs' → Dn.ct σ' H'
  | .rt d => RT g fr Hs0 H0 d Dn.rt
def tS (g : G) (H0 : Hp) (E : XK) (Hs0 : Hp) (fr : Bool) (run : List Sl → M O) : TS := fun Dn σ H => ∃ ρ Hs, RE g H0 Hs H ρ σ ∧ Ext Hs0 H0 Hs H ∧ holds (run ρ) (oPost g H0 Hs0 fr Hs Dn) (EXc g E Hs0 H0)
theorem psw {X : Cx} {st : Stmt} {t t' : TS} (h : PS X st t) (w : ∀ D σ H, t' D σ H → t D σ H) : PS X st t' := ⟨fun pins s σ H D I q => h.run pins s σ H D I (w D σ H q)⟩
theorem pssw {X : Cx} {st : List Stmt} {t t' : TS} (h : PSs X st t) (w : ∀ D σ H, t' D σ H → t D σ H) : PSs X st t' := ⟨fun pins s σ H D I q => h.run pins s σ H D I (w D σ H q)⟩
theorem oPost_same {Hs0 Hs Hs1 : Hp} {fr : Bool} {Dn : Ends} {o : O} (h : oPost g H0 Hs0 fr Hs Dn o) (e : Same Hs Hs1) : oPost g H0 Hs0 fr Hs1 Dn o := by
  cases o with
  | nx ρ => exact fun σ' Hs' H' r x s => h σ' Hs' H' r x (e.trans s)
  | bk ρ => exact fun σ' Hs' H' r x s => h σ' Hs' H' r x (e.trans s)
  | ct ρ => exact fun σ' Hs' H' r x s => h σ' Hs' H' r x (e.trans s)
  | rt d => exact h

/-! ### slots with lists of one's own -/
theorem RE.own {Hs H : Hp} {ρ : List Sl} {σ : L2.St} (r : RE g H0 Hs H ρ σ) (i : Nat) {p : Addr} {vs : List V} {ds : List D} (h1 : H p = some (.lst vs)) (h2 : Hs p = none) (h3 : H0 p = none) (h4 : Reps g Hs vs ds)
    (h5 : ∀ j es q, j ≠ i → ρ[j]? = some (.ow es) → σ[j]? = some (some (.ref q)) → q ≠ p) : RE g H0 Hs H (ρ.set i (.ow ds)) (σ.set i (some (.ref p))) where
  sub := r.sub
  len := by rw [List.length_set, List.length_set, r.len]
  sh := fun j e h => by
    rcases set_get h with ⟨rfl, z⟩ | ⟨hn, z⟩
    · cases z
    · obtain ⟨w, k1, k2⟩ := r.sh j e z
      exact ⟨w, by rw [List.getElem?_set_ne hn]; exact k1, k2⟩
  ow := fun j es h => by
    rcases set_get h with ⟨rfl, z⟩ | ⟨hn, z⟩
    · cases z
      have hl : i < σ.length := by
        rw [← r.len]
        by_cases z : i < ρ.length
        · exact z
        · rw [List.getElem?_eq_none (by rw [List.length_set]; omega)] at h; cases h
      exact ⟨p, vs, List.getElem?_set_self hl, h1, h2, h3, h4⟩
    · obtain ⟨q, ws, k1, k2⟩ := r.ow j es z
      exact ⟨q, ws, by rw [List.getElem?_set_ne hn]; exact k1, k2⟩
  ap := fun a b es fs q hab k1 k2 k3 k4 => by
    rcases set_get k1 with ⟨rfl, z⟩ | ⟨n1, z1⟩
    · rcases set_get k2 with ⟨rfl, z⟩ | ⟨n2, z2⟩
      · exact hab rfl
      · rw [List.getElem?_set_ne n2] at k4
        have hl : i < σ.length := by
          by_cases z : i < σ.length
          · exact z
          · rw [List.getElem?_eq_none (by rw [List.length_set]; omega)] at k3; cases k3
        rw [List.getElem?_set_self hl] at k3
        cases k3
        exact h5 b fs _ (Ne.symm n2) z2 k4 rfl
    · rw [List.getElem?_set_ne n1] at k3
      rcases set_get k2 with ⟨rfl, z⟩ | ⟨n2, z2⟩
      · have hl : i < σ.length := by
          by_cases z : i < σ.length
          · exact z
          · rw [List.getElem?_eq_none (by rw [List.length_set]; omega)] at k4; cases k4
        rw [List.getElem?_set_self hl] at k4
        cases k4
        exact h5 a es _ (Ne.symm n1) z1 k3 rfl
      · rw [List.getElem?_set_ne n2] at k4
        exact r.ap a b es fs q hab z1 z2 k3 k4
/-- a list of one's own is changed -/
theorem RE.mut {Hs H : Hp} {ρ : List Sl} {σ : L2.St} (r : RE g H0 Hs H ρ σ) {i : Nat} {ds ds' : List D} {p : Addr} {vs' : List V} (h : ρ[i]? = some (.ow ds)) (h1 : σ[i]? = some (some (.ref p))) (h2 : Hs p = none) (h3 : H0 p = none) (h4 : Reps g Hs vs' ds') : RE g H0 Hs (upd H p (.lst vs')) (ρ.set i (.ow ds')) σ where
  sub := fun a o q => by rw [upd_ne (ne_of_none q h2)]; exact r.sub a o q
  len := by rw [List.length_set, r.len]
  sh := fun j e k => by
    rcases set_get k with ⟨rfl, z⟩ | ⟨hn, z⟩
    · cases z
    · exact r.sh j e z
  ow := fun j es k => by
    rcases set_get k with ⟨rfl, z⟩ | ⟨hn, z⟩
    · cases z
      exact ⟨p, vs', h1, upd_same, h2, h3, h4⟩
    · obtain ⟨q, ws, k1, k2, k3, k4, k5⟩ := r.ow j es z
      refine ⟨q, ws, k1, ?_, k3, k4, k5⟩
      have hq : q ≠ p := fun e => by
        subst e
        exact r.ap i j ds es q hn h z h1 k1
      rw [upd_ne hq]
      exact k2
  ap := fun a b es fs q hab k1 k2 k3 k4 => by
    rcases set_get k1 with ⟨rfl, z⟩ | ⟨n1, z1⟩
    · rcases set_get k2 with ⟨rfl, z⟩ | ⟨n2, z2⟩
      · exact hab rfl
      · exact r.ap i b ds fs q hab h z2 k3 k4
    · rcases set_get k2 with ⟨rfl, z⟩ | ⟨n2, z2⟩
      · exact r.ap a i es ds q hab z1 h k3 k4
      · exact r.ap a b es fs q hab z1 z2 k3 k4
theorem Ext.mut {Hs0 Hs H : Hp} (e : Ext Hs0 H0 Hs H) {p : Addr} {o : HO} (h2 : Hs p = none) (h3 : H0 p = none) : Ext Hs0 H0 Hs (upd H p o) :=
  ⟨fun a x q => by rw [upd_ne (ne_of_none q h3)]; exact e.all a x q, e.view, fun a x q => by rw [upd_ne (ne_of_none q h2)]; exact e.sub a x q, e.out⟩
/-- a list of one's own becomes a shared one -/
theorem RE.frz {Hs H : Hp} {ρ : List Sl} {σ : L2.St} (r : RE g H0 Hs H ρ σ) {i : Nat} {ds : List D} (h : ρ[i]? = some (.ow ds)) : ∃ Hs', RE g H0 Hs' H (ρ.set i (.sh (.lst ds))) σ ∧ Same Hs Hs' ∧ ∀ Hs0, Ext Hs0 H0 Hs H → Ext Hs0 H0 Hs' H := by
  obtain ⟨p, vs, h1, h2, h3, h4, h5⟩ := r.ow i ds h
  have sm : Same Hs (upd Hs p (.lst vs)) := same_upd h3
  refine ⟨upd Hs p (.lst vs), ?_, sm, fun Hs0 e => e.show_ h2 h4 h3⟩
  refine ⟨fun a o q => ?_, by rw [List.length_set, r.len], fun j e k => ?_, fun j es k => ?_, fun a b es fs q hab k1 k2 k3 k4 => ?_⟩
  · by_cases ha : a = p
    · subst ha; rw [upd_same] at q; cases q; exact h2
    · rw [upd_ne ha] at q; exact r.sub a o q
  · rcases set_get k with ⟨rfl, z⟩ | ⟨hn, z⟩
    · cases z
      exact ⟨_, h1, .lst (.inl (.inl upd_same)) (h5.mono sm)⟩
    · obtain ⟨w, k1, k2⟩ := r.sh j e z
      exact ⟨w, k1, k2.mono sm⟩
  · rcases set_get k with ⟨rfl, z⟩ | ⟨hn, z⟩
    · cases z
    · obtain ⟨q, ws, k1, k2, k3, k4, k5⟩ := r.ow j es z
      have hq : q ≠ p := fun e => by
        subst e
        exact r.ap i j ds es q hn h z h1 k1
      exact ⟨q, ws, k1, k2, by rw [upd_ne hq]; exact k3, k4, k5.mono sm⟩
  · rcases set_get k1 with ⟨rfl, z⟩ | ⟨n1, z1⟩
    · cases z
    · rcases set_get k2 with ⟨rfl, z⟩ | ⟨n2, z2⟩
      · cases z
      · exact r.ap a b es fs q hab z1 z2 k3 k4
theorem RE.forget1 {Hs H : Hp} {ρ : List Sl} {σ : L2.St} (r : RE g H0 Hs H ρ σ) (i : Nat) : RE g H0 Hs H (ρ.set i .no) σ where
  sub := r.sub
  len := by rw [List.length_set, r.len]
  sh := fun j e h => by
    rcases set_get h with ⟨rfl, z⟩ | ⟨_, z⟩
    · cases z
    · exact r.sh j e z
  ow := fun j es h => by
    rcases set_get h with ⟨rfl, z⟩ | ⟨_, z⟩
    · cases z
    · exact r.ow j es z
  ap := fun a b es fs q hab k1 k2 k3 k4 => by
    rcases set_get k1 with ⟨rfl, z⟩ | ⟨_, z1⟩
    · cases z
    · rcases set_get k2 with ⟨rfl, z⟩ | ⟨_, z2⟩
      · cases z
      · exact r.ap a b es fs q hab z1 z2 k3 k4
theorem RE.forget {Hs H : Hp} {ρ : List Sl} {σ : L2.St} (r : RE g H0 Hs H ρ σ) : ∀ is : List Nat, RE g H0 Hs H (wipeD ρ is) σ
  | [] => r
  | i :: is => (RE.forget r is).forget1 i
theorem list_extW (l : Addr) (items : Array Value) (n : Nat) (b : Addr) (items2 : Array Value) (n2 : Nat) (dd2 : Option Addr) (sl2 : Array (Option Value)) (hc0 : ¬(!items.isEmpty && Builtin.List.listTooLong (items.size + items2.size)) = true) (hc1 : items.size ≤ sizeLine) (hs2 : items.size + items2.size ≤ sizeLine + 1) :
    Meets (Builtin.«list.extend» ⟨[.ref l, .ref b], []⟩) (fun _ R s => s.heap.get? l = some { cls := .type "list", dict := none, data := .seq items n, slots := #[] } ∧ s.heap.get? b = some { cls := .type "list", dict := dd2, data := .seq items2 n2, slots := sl2 } ∧ R (.ok (.ret Value.none)) { s with heap := s.heap.update l (Obj.mapSeq fun x => x ++ items2), toks := s.toks }) :=
  .of_wp fun prog w A R s h => by
    obtain ⟨hp, g, d, tk, os⟩ := s; obtain ⟨hl, hb, h⟩ := h; have f1 := AutoSeq1.idx_int; have f2 := AutoSeq1.sub_tuple_tuple; have f3 := AutoSeq1.sub_list_list; have f4 := AutoSeq1.sub_tuple_list; have f5 := AutoSeq1.sub_list_tuple;
    have hz' : (items ++ items2).size ≤ sizeLine + 1 := by rw [Array.size_append]; exact hs2
    wp_walk using (wpAny_updateSeq hl rfl (hz := hc1) (_hz' := hz')), wpAny_loadPart' hl, wpAny_loadPart' hb; exact ⟨_, rfl, h⟩
theorem list_extT (l : Addr) (items : Array Value) (n : Nat) (b : Addr) (items2 : Array Value) (n2 : Nat) (dd2 : Option Addr) (sl2 : Array (Option Value)) (hc0 : ¬(!items.isEmpty && Builtin.List.listTooLong (items.size + items2.size)) = true) (hc1 : items.size ≤ sizeLine) (hs2 : items.size + items2.size ≤ sizeLine + 1) :
    Meets (Builtin.«list.extend» ⟨[.ref l, .ref b], []⟩) (fun _ R s => s.heap.get? l = some { cls := .type "list", dict := none, data := .seq items n, slots := #[] } ∧ s.heap.get? b = some { cls := .type "tuple", dict := dd2, data := .seq items2 n2, slots := sl2 } ∧ R (.ok (.ret Value.none)) { s with heap := s.heap.update l (Obj.mapSeq fun x => x ++ items2), toks := s.toks }) :=
  .of_wp fun prog w A R s h => by
    obtain ⟨hp, g, d, tk, os⟩ := s; obtain ⟨hl, hb, h⟩ := h; have f1 := AutoSeq1.idx_int; have f2 := AutoSeq1.sub_tuple_tuple; have f3 := AutoSeq1.sub_list_list; have f4 := AutoSeq1.sub_tuple_list; have f5 := AutoSeq1.sub_list_tuple;
    have hz' : (items ++ items2).size ≤ sizeLine + 1 := by rw [Array.size_append]; exact hs2
    wp_walk using (wpAny_updateSeq hl rfl (hz := hc1) (_hz' := hz')), wpAny_loadPart' hl, wpAny_loadPart' hb; exact ⟨_, rfl, h⟩
def rExtendQ (K : PySem.W.Frag) : V → List V → Hp → VK → Prop := fun x vs H Q => ∃ l b xs zs, x = .ref l ∧ vs = [.ref b] ∧ H l = some (.lst xs) ∧ (SqL K H b zs ∨ SqT K H b zs) ∧ xs.length + zs.length ≤ sizeLine ∧ Q .non (upd H l (.lst (xs ++ zs)))
theorem mt_extendQ {X : Cx} : MtR X "list.extend" (rExtendQ X.K) := by
  intro pins s σ H x vs v us Q I rx rv h
  obtain ⟨l, b, xs, zs, rfl, rfl, hH, hB, hz, q⟩ := h
  cases rx
  obtain ⟨u, rfl, ru⟩ := rv.one
  cases ru
  obtain ⟨z, its, n, r, hl, e⟩ := I.lstM hH
  rcases hB with hB | hB
  · obtain ⟨its2, r2, hl2, _⟩ := I.list hB
    obtain ⟨⟨cls2, dd2, data2, sl2⟩, ho2, hc2, n2, hd2⟩ := id hl2.isList
    simp only at hc2 hd2
    subst hc2 hd2
    have z2 := r2.length
    have hsz : its.toArray.size + its2.toArray.size ≤ sizeLine := by rw [List.size_toArray, List.size_toArray]; omega
    have hlong : ¬ (!its.toArray.isEmpty && Builtin.List.listTooLong (its.toArray.size + its2.toArray.size)) = true := by
      rw [notLongL hsz, Bool.and_false]
      exact Bool.false_ne_true
    refine call_meets F.slot_list_extend ⟨_, e, rfl⟩ F.entry_list_extend (F.args_list_extend_2 _ _)
      (list_extW l its.toArray n b its2.toArray n2 dd2 sl2 hlong (by rw [List.size_toArray]; omega) (by omega)) ⟨e, ho2, ?_⟩
    refine ⟨.non, _, I.lset (its' := its ++ its2) hH e (by simp) (r.append r2) ?_, rfl, q⟩
    rw [List.length_append]
    omega
  · obtain ⟨its2, r2, hl2, _⟩ := I.tuple hB
    obtain ⟨⟨cls2, dd2, data2, sl2⟩, ho2, hc2, n2, hd2⟩ := id hl2
    simp only at hc2 hd2
    subst hc2 hd2
    have z2 := r2.length
    have hsz : its.toArray.size + its2.toArray.size ≤ sizeLine := by rw [List.size_toArray, List.size_toArray]; omega
    have hlong : ¬ (!its.toArray.isEmpty && Builtin.List.listTooLong (its.toArray.size + its2.toArray.size)) = true := by
      rw [notLongL hsz, Bool.and_false]
      exact Bool.false_ne_true
    refine call_meets F.slot_list_extend ⟨_, e, rfl⟩ F.entry_list_extend (F.args_list_extend_2 _ _)
      (list_extT l its.toArray n b its2.toArray n2 dd2 sl2 hlong (by rw [List.size_toArray]; omega) (by omega)) ⟨e, ho2, ?_⟩
    refine ⟨.non, _, I.lset (its' := its ++ its2) hH e (by simp) (r.append r2) ?_, rfl, q⟩
    rw [List.length_append]
    omega
theorem getO_ok {ρ : List Sl} {i : Nat} {α : Type} {f : List D → M α} {ok : α → Prop} {ex : Nat → Prop} (h : holds ((getO ρ i).bind f) ok ex) : ∃ ds, ρ[i]? = some (.ow ds) ∧ holds (f ds) ok ex := by
  unfold getO at h
  split at h
  · rename_i ds e
    exact ⟨ds, e, h⟩
  · exact h.elim

/-! ### names, targets -/
theorem nmSt_of {N : List Str} {sc : Scope} {i : Nat} {x : Str} (h : nmSt N sc i x = true) : N[i]? = some x ∧ Loc sc x := by
  unfold nmSt at h
  simp only [Bool.and_eq_true, decide_eq_true_eq] at h
  refine ⟨h.1, ?_⟩
  have h2 := h.2
  unfold locB at h2
  unfold L2.Loc
  split at h2 <;> simp_all
theorem loc_memF {sc : Scope} : ∀ {own : List (Str × Nat)}, locAllF sc own = true → ∀ p ∈ own, Loc sc p.1
  | [], _, _, hp => nomatch hp
  | (x, i) :: r, h, p, hp => by
    simp only [locAllF, Bool.and_eq_true] at h
    rcases List.mem_cons.mp hp with rfl | hp
    · have h1 := h.1
      unfold locB at h1
      unfold L2.Loc
      split at h1 <;> simp_all
    · exact loc_memF h.2 p hp
theorem nm_mem {N : List Str} : ∀ {own : List (Str × Nat)}, nmAll N own = true → ∀ p ∈ own, N[p.2]? = some p.1
  | [], _, _, hp => nomatch hp
  | (x, i) :: r, h, p, hp => by
    simp only [nmAll, Bool.and_eq_true, decide_eq_true_eq] at h
    rcases List.mem_cons.mp hp with rfl | hp
    · exact h.1
    · exact nm_mem h.2 p hp
theorem owns_okF {X : Cx} (hfn : ∀ x, X.fn x = true) : ∀ {es : List Expr} {is : List Nat} {own : List (Str × Nat)}, ownOf.ownsOf es is = some own → (∀ p ∈ own, X.N[p.2]? = some p.1 ∧ Loc X.env.scope p.1) → X.N.Nodup → PGs X es (gsD is)
  | [], [], own, h, _, _ => pgs_nil
  | [], _ :: _, _, h, _, _ => by simp [ownOf.ownsOf] at h
  | e :: es, [], _, h, _, _ => by cases e <;> simp [ownOf.ownsOf] at h
  | e :: es, i :: is, own, h, k, nd => by
    cases e <;> simp only [ownOf.ownsOf, reduceCtorEq] at h
    cases q : ownOf.ownsOf es is with
    | none => rw [q] at h; cases h
    | some r =>
      rw [q] at h
      cases h
      have z := k _ List.mem_cons_self
      exact pgs_cons (pg_name nd z.1 z.2 (.inl (hfn _))) (owns_okF hfn q (fun p hp => k p (List.mem_cons_of_mem _ hp)) nd)
theorem tg_ok {X : Cx} (hfn : ∀ x, X.fn x = true) {e : Expr} {is : List Nat} (h : chkTg X.N X.env.scope e is = true) (nd : X.N.Nodup) (hc : X.calm = true) : PG X e (gD X.K is) := by
  unfold chkTg at h
  cases ho : ownOf e is with
  | none => rw [ho] at h; cases h
  | some own =>
    rw [ho] at h
    rw [Bool.and_eq_true] at h
    have k : ∀ p ∈ own, X.N[p.2]? = some p.1 ∧ Loc X.env.scope p.1 := fun p hp => ⟨nm_mem h.2 p hp, loc_memF h.1 p hp⟩
    unfold ownOf at ho
    split at ho
    · cases ho
      have z := k _ List.mem_cons_self
      exact pg_name nd z.1 z.2 (.inl (hfn _))
    · have h1 := owns_okF hfn ho k nd
      obtain ⟨z1, z2⟩ := owns_each (X := X) ho
      exact pg_tup (X := X) hc h1 z1 z2
    · cases ho
theorem sw_false {v : Expr} {t : Option Expr} {l : Nat} {env : Env} (h : notComp v = true) : swapsWith v t l env = pure false := by
  cases v <;> first | rfl | (simp only [notComp, Bool.false_eq_true] at h)
theorem sw_cell {X : Cx} {elt : Expr} {gs : List Comprehension} {cs : Scope} {q p : Pos} {x : Str} {l : Nat} (h : isLocal X.env.scope x = false) : swapsWith (.ListComp elt gs cs q) (some (.Name x p)) l X.env = pure false := by
  unfold swapsWith
  have hk : (X.env.kindOf x == some NameKind.local) = false := by
    unfold isLocal at h
    show (X.env.scope.names.lookup x == some NameKind.local) = false
    split at h
    · cases h
    · rename_i hn
      cases e : X.env.scope.names.lookup x with
      | none => rfl
      | some k => cases k <;> first | rfl | exact absurd e hn
  simp only [hk, Bool.and_false, Bool.false_and]
theorem sole_sub {v t : Expr} {l : Nat} {env : Env} (h : notComp v = true) : swapsWithSole [t] v l env = pure false := by
  unfold swapsWithSole
  exact sw_false h
theorem noSwap {t v : Expr} {env : Env} (h : isTupE v = false ∨ isTupE t = false) (h2 : ∀ ts p, t ≠ .List ts p) : swappedStores [t] v env = pure none := by
  unfold swappedStores
  cases t <;> first | rfl | skip
  all_goals (cases v <;> first | rfl | skip)
  all_goals (first | (exact absurd rfl (h2 _ _)) | (rcases h with h | h <;> simp only [isTupE, Bool.true_eq_false, reduceCtorEq] at h))
/-- a comprehension that stands for itself -/
theorem comp_inv {X : Cx} {E : XK} {e : Ex} {ee : Expr} {gs : List Comprehension} {cs : Scope} {q : Pos} (ok : XOk g T F CX X) (hx : Passes CX X E) (h : chkE T X.N e X.env.scope (.ListComp ee gs cs q) = true) :
    ∃ elt tg k es cond te iter ifs, e = .comp elt tg k es cond ∧ gs = [⟨te, iter, ifs, 0⟩] ∧ Parts g F H0 E X elt tg k es cond ee te iter ifs cs := by
  cases e with
  | comp elt tg k es cond =>
    unfold chkE at h
    split at h
    · rename_i ee' te iter ifs cs' hb
      obtain ⟨p, hp⟩ := asComp_eq hb
      cases hp
      simp only [Bool.and_eq_true, Bool.not_eq_true'] at h
      obtain ⟨⟨⟨⟨⟨h1, h2⟩, h3⟩, h4⟩, h5⟩, h6⟩ := h
      exact ⟨elt, tg, k, es, cond, te, iter, ifs, rfl, rfl, parts_of h1 (sndI k es ok hx h2) h3 (fun s H C cl fp => sndE elt (ok.blk s H cs (compEnvC cs cl C X.env) fp) (ok.px _ rfl rfl) h4) h5 (fun s H C cl fp => sndC cond (ok.blk s H cs (compEnvC cs cl C X.env) fp) (ok.px _ rfl rfl) h6) ok⟩
    · cases h
  | slc a b c => unfold chkE asSub at h; cases h
  | rvs l a => cases l <;> (unfold chkE at h; first | cases h | (simp only [asRvs, asCall] at h; cases h))
  | _ => unfold chkE at h; first | cases h | (simp only [nmOk, asCon, asNm, asBin, asNeg, asNot, asCmp1, asCmp2, asAnd, asOr, asIf, asTup, asLst, asSub, asCall] at h; cases h)
/-- name = value -/
theorem asg_ps {X : Cx} {E : XK} {e : Ex} {v : Expr} {x : Str} {p pos : Pos} {i : Nat} (hfn : ∀ x, X.fn x = true) (ok : XOk g T F CX X) (hx : Passes CX X E) (hn : nmSt X.N X.env.scope i x = true) (hs : swOk X.env.scope x p v = true) (hk : X.env.scope.kind = .function) (h : chkE T X.N e X.env.scope v = true) :
    (isFr T e = true → PS X (.Assign [.Name x p] v pos) (tAsg (tR g F H0 E e) (gName i))) ∧ (isBor e = false → PS X (.Assign [.Name x p] v pos) (tAsg (tE g F H0 E e) (gName i))) := by
  obtain ⟨hN, hl⟩ := nmSt_of hn
  have plain : swapsWith v (some (.Name x p)) pos.line X.env = pure false → (isFr T e = true → PS X (.Assign [.Name x p] v pos) (tAsg (tR g F H0 E e) (gName i))) ∧ (isBor e = false → PS X (.Assign [.Name x p] v pos) (tAsg (tE g F H0 E e) (gName i))) := fun hsw =>
    have A := sndE e ok hx h
    ⟨fun hf => ps_set ok.nd hN hl (A.r hf) hsw (.inl (hfn _)), fun hb => ps_set ok.nd hN hl (A.v hb) hsw (.inl (hfn _))⟩
  cases v with
  | ListComp ee gs cs q =>
    unfold swOk at hs
    cases hloc : isLocal X.env.scope x with
    | false => exact plain (sw_cell hloc)
    | true =>
      rw [hloc] at hs
      simp only [Bool.not_true, Bool.false_or, Bool.and_eq_true, Bool.not_eq_true'] at hs
      obtain ⟨elt, tg, k, es, cond, te, iter, ifs, rfl, rfl, P⟩ := comp_inv (H0 := H0) ok hx h
      obtain ⟨own, h1, h2⟩ := P.ex
      have hy : X.env.scope.names.lookup x = some .local := by
        unfold isLocal at hloc
        split at hloc <;> simp_all
      have base := ps_setLc (spos := pos) ok.calm ok.nd hN hy (sw_true hk hy hs.1 hs.2) P.it h2 P.pg P.pt P.pe' P.fs
      rw [h1] at base
      have hr : PS X (.Assign [.Name x p] (.ListComp ee [⟨te, iter, ifs, 0⟩] cs q) pos) (tAsg (tR g F H0 E (.comp elt tg k es cond)) (gName i)) := psw base fun Dn σ H h => lc_read ok.K h
      exact ⟨fun _ => hr, fun _ => psw hr fun Dn σ H h => tM_mono (fun _ _ _ _ z => z.toR) _ _ _ h⟩
  | _ => first | exact plain (sw_false rfl) | (unfold swOk at hs; cases hs)
end
end Dw

namespace Dw
open PySem PySem.Spec PyProof.Rows L2
section
variable {g : G} {T : Tab} {F : Fs} {H0 : Hp} {CX : CXT}
theorem asAsg_eq {st : Stmt} {t e : Expr} {p : Pos} (h : asAsg st = some (t, e, p)) : st = .Assign [t] e p := by
  unfold asAsg at h; split at h <;> first | (cases h; rfl) | cases h
theorem asNmP_eq {e : Expr} {x : Str} {p : Pos} (h : asNmP e = some (x, p)) : e = .Name x p := by
  unfold asNmP at h; split at h <;> first | (cases h; rfl) | cases h
theorem asAug_eq {st : Stmt} {x : Str} {o : Operator} {e : Expr} (h : asAug st = some (x, o, e)) : ∃ q p, st = .AugAssign (.Name x q) o e p := by
  unfold asAug at h; split at h <;> first | (cases h; exact ⟨_, _, rfl⟩) | cases h
theorem asSEx_eq {st : Stmt} {e : Expr} {p : Pos} (h : asSEx st = some (e, p)) : st = .Expr e p := by
  unfold asSEx at h; split at h <;> first | (cases h; rfl) | cases h
theorem asMeth_eq {e o : Expr} {m : Str} {xs : List Expr} (h : asMeth e = some (o, m, xs)) : ∃ ap cp, e = .Call (.Attribute o m ap) xs [] cp ∧ (ap.endLine == cp.line) = true := by
  unfold asMeth at h
  split at h
  · split at h
    · cases h; exact ⟨_, _, rfl, by assumption⟩
    · cases h
  · cases h
theorem asSIf_eq {st : Stmt} {c : Expr} {a b : List Stmt} (h : asSIf st = some (c, a, b)) : ∃ p, st = .If c a b p := by
  unfold asSIf at h; split at h <;> first | (cases h; exact ⟨_, rfl⟩) | cases h
theorem asFor_eq {st : Stmt} {t i : Expr} {b : List Stmt} (h : asFor st = some (t, i, b)) : ∃ p, st = .For t i b [] p := by
  unfold asFor at h; split at h <;> first | (cases h; exact ⟨_, rfl⟩) | cases h
theorem asWhl_eq {st : Stmt} {c : Expr} {b : List Stmt} (h : asWhl st = some (c, b)) : ∃ p, st = .While c b [] p := by
  unfold asWhl at h; split at h <;> first | (cases h; exact ⟨_, rfl⟩) | cases h
theorem asRet_eq {st : Stmt} {e : Option Expr} (h : asRet st = some e) : ∃ p, st = .Return e p := by
  unfold asRet at h; split at h <;> first | (cases h; exact ⟨_, rfl⟩) | cases h
theorem augD_ok {op : Bop} {o : Operator} {X : Cx} (h : augOk op o = true) : PIp X o (fun x y H Q => ∃ Hs a b, Same Hs H ∧ BRep g Hs H x a ∧ BRep g Hs H y b ∧ holds (augD op a b) (fun d => PR g Hs H d Q) fun _ => True) := by
  intro pins s σ H x y v u Q I rx ry h
  obtain ⟨Hs, a, b, sub, ba, bb, h⟩ := h
  cases op <;> cases o <;> simp only [augOk, Bool.false_eq_true] at *
  · cases a <;> cases b <;> first | exact False.elim h | skip
    cases ba.rint; cases bb.rint
    exact ip_add pins s σ H _ _ v u Q I rx ry ⟨_, _, rfl, rfl, PR.int h sub⟩
  · cases a <;> cases b <;> first | exact False.elim h | skip
    cases ba.rint; cases bb.rint
    exact ip_sub pins s σ H _ _ v u Q I rx ry ⟨_, _, rfl, rfl, PR.int h sub⟩
theorem tgD_holds {is : List Nat} {ρ : List Sl} {d : D} {α : Type} {f : List Sl → M α} {ok : α → Prop} {ex : Nat → Prop} (h : holds ((tgD ρ is d).bind f) ok ex) : ∃ ρ', tgD ρ is d = .ok ρ' ∧ holds (f ρ') ok ex := by
  cases q : tgD ρ is d with
  | no => rw [q] at h; exact h.elim
  | ok ρ' => rw [q] at h; exact ⟨ρ', rfl, h⟩
  | ex c =>
    exfalso
    have key : ∀ (is : List Nat) (ρ : List Sl) (ds : List D), setVs ρ is ds ≠ .ex c := by
      intro is
      induction is with
      | nil => intro ρ ds; cases ds <;> simp [setVs]
      | cons k ks ih => intro ρ ds; cases ds <;> simp [setVs]; exact ih _ _
    unfold tgD at q
    split at q <;> first | cases q | exact key _ _ _ q
/-- what a statement's soundness leans on -/
structure SOk (g : G) (T : Tab) (F : Fs) (CX : CXT) (E : XK) (X : Cx) : Prop where
  ok : XOk g T F CX X
  px : Passes CX X E
  fn : ∀ x, X.fn x = true
  kd : X.env.scope.kind = .function
  po : PassesOwn (model X.prog X.w) X.A X.env X.xe

mutual
theorem sndS {X : Cx} {E : XK} {Hs0 : Hp} {fr : Bool} (so : SOk g T F CX E X) : ∀ (x : Sx) {st : Stmt}, chkS T X.N fr X.env.scope x st = true → PS X st (tS g H0 E Hs0 fr (exS F fr x))
  | .asg i e, st, h => by
    unfold chkS at h
    split at h <;> first | cases h | skip
    rename_i t v p hb
    have := asAsg_eq hb; subst this
    split at h <;> first | cases h | skip
    rename_i x q hb2
    have := asNmP_eq hb2; subst this
    simp only [Bool.and_eq_true, Bool.not_eq_true'] at h
    obtain ⟨⟨⟨h1, h2⟩, h3⟩, h4⟩ := h
    refine psw ((asg_ps (H0 := H0) so.fn so.ok so.px h1 h2 so.kd h3).2 h4) fun Dn σ H ⟨ρ, Hs, re, ext, h⟩ => ?_
    unfold exS at h
    refine ⟨ρ, Hs, re, holds_mono (holds_bind h) (fun d _ q v Hs1 H1 e1 r1 => ?_) fun _ z => z.ext ext⟩
    exact q _ Hs1 H1 ((re.ext e1).set i r1) (ext.trans e1) e1.view
  | .own i e, st, h => by
    unfold chkS at h
    split at h <;> first | cases h | skip
    rename_i t v p hb
    have := asAsg_eq hb; subst this
    split at h <;> first | cases h | skip
    rename_i x q hb2
    have := asNmP_eq hb2; subst this
    simp only [Bool.and_eq_true] at h
    obtain ⟨⟨⟨h1, h2⟩, h3⟩, h4⟩ := h
    refine psw ((asg_ps (H0 := H0) so.fn so.ok so.px h1 h2 so.kd h3).1 h4) fun Dn σ H ⟨ρ, Hs, re, ext, h⟩ => ?_
    unfold exS at h
    refine ⟨ρ, Hs, re, holds_mono (holds_bind h) (fun d _ q v Hs1 H1 e1 r1 => ?_) fun _ z => z.ext ext⟩
    cases d <;> first | exact q.elim | skip
    rcases r1 with ⟨_, z⟩ | ⟨pp, vs, ds, rfl, z, k1, k2, k3, k4⟩
    · exact absurd rfl (z _)
    · cases z
      refine q _ Hs1 H1 ((re.ext e1).own i k3 k2 (ext.all.free k1) k4 fun j es q' hj hρ hσ => ?_) (ext.trans e1) e1.view
      obtain ⟨q2, ws, m1, m2, _⟩ := re.ow j es hρ
      rw [hσ] at m1; cases m1
      exact ne_of_none m2 k1
  | .unp is e, st, h => by
    unfold chkS at h
    split at h <;> first | cases h | skip
    rename_i t v p hb
    have := asAsg_eq hb; subst this
    simp only [Bool.and_eq_true, Bool.not_eq_true'] at h
    obtain ⟨⟨⟨⟨⟨h1, h2⟩, h3⟩, h4⟩, h5⟩, h6⟩ := h
    have A := sndE (H0 := H0) e so.ok so.px h5
    have B := tg_ok so.fn h2 so.ok.nd so.ok.calm
    refine psw (ps_asg (A.v h6) B (sole_sub h3) (noSwap (.inl h4) (fun ts p z => by subst z; cases h1)) (by cases t <;> first | rfl | cases h1)) fun Dn σ H ⟨ρ, Hs, re, ext, h⟩ => ?_
    unfold exS at h
    refine ⟨ρ, Hs, re, holds_mono (holds_bind h) (fun d _ q v Hs1 H1 e1 r1 => ?_) fun _ z => z.ext ext⟩
    obtain ⟨ρ', ht, q⟩ := tgD_holds q
    exact gD_ok so.ok.K is (re.ext e1) r1 ht fun σ' re' _ => q σ' Hs1 H1 re' (ext.trans e1) e1.view
  | .aug i op e, st, h => by
    unfold chkS at h
    split at h <;> first | cases h | skip
    rename_i x o v hb
    obtain ⟨q, p, rfl⟩ := asAug_eq hb
    simp only [Bool.and_eq_true] at h
    obtain ⟨⟨h1, h2⟩, h3⟩ := h
    have A := sndE (H0 := H0) e so.ok so.px h3
    obtain ⟨hN, hl⟩ := nmSt_of h1
    refine psw (ps_aug so.ok.nd hN hl A.o (augD_ok (g := g) h2) (.inl (so.fn _))) fun Dn σ H ⟨ρ, Hs, re, ext, h⟩ => ?_
    unfold exS getV at h
    split at h
    · rename_i d hd
      obtain ⟨v0, m1, m2⟩ := re.sh i d hd
      refine ⟨v0, m1, ρ, Hs, re, holds_mono (holds_bind (show holds ((evE F e ρ).bind _) _ _ from h)) (fun y _ q w Hs1 H1 e1 b1 => ?_) fun _ z => z.ext ext⟩
      refine ⟨Hs1, d, y, e1.sub, .inl (m2.mono e1.view), b1, holds_mono (holds_bind q) (fun r hr z u Hs2 H2 e2 f2 => ?_) fun _ _ => trivial⟩
      have hrep : Rep g Hs2 u r := by
        rcases f2 with ⟨f2, _⟩ | ⟨_, _, _, _, zz, _⟩
        · exact f2
        · subst zz
          cases op <;> cases d <;> cases y <;> simp [augD] at hr
      exact z _ Hs2 H2 (((re.ext e1).ext e2).set i hrep) (ext.trans (e1.trans e2)) (e1.view.trans e2.view)
    · exact h.elim
  | .put i ix e, st, h => by
    unfold chkS at h
    split at h <;> first | cases h | skip
    rename_i t v p hb
    have := asAsg_eq hb; subst this
    split at h <;> first | cases h | skip
    rename_i o k hb2
    obtain ⟨p2, rfl⟩ := asSub_eq hb2
    simp only [Bool.and_eq_true, Bool.not_eq_true'] at h
    obtain ⟨⟨⟨⟨⟨h1, h2⟩, h3⟩, h4⟩, h5⟩, h6⟩ := h
    obtain ⟨n, p3, rfl, hN, hv, hd, hc⟩ := nm_of h1
    have A := sndE (H0 := H0) e so.ok so.px h2
    have B := sndE (H0 := H0) ix so.ok so.px h4
    refine psw (ps_asg (A.v h3) (pg_sub (pe_var hN hv hd hc) B.o set_list (by intros; cases k <;> first | rfl | cases h6)) (sole_sub h5) (noSwap (.inr rfl) (fun ts p z => by cases z)) rfl) fun Dn σ H ⟨ρ, Hs, re, ext, h⟩ => ?_
    unfold exS at h
    refine ⟨ρ, Hs, re, holds_mono (holds_bind h) (fun d _ q v Hs1 H1 e1 r1 => ?_) fun _ z => z.ext ext⟩
    obtain ⟨ds, hρ, q⟩ := getO_ok q
    obtain ⟨pp, vs, m1, m2, m3, m4, m5⟩ := (re.ext e1).ow i ds hρ
    refine ⟨.ref pp, m1, ρ, Hs1, re.ext e1, holds_mono (holds_bind q) (fun kd _ q kv Hs2 H2 e2 b2 => ?_) fun _ z => z.ext (ext.trans e1)⟩
    cases kd <;> first | exact q.elim | skip
    cases b2.rint
    simp only at q
    split at q <;> first | exact q.elim | skip
    rename_i j hj
    have hL : H2 pp = some (.lst vs) := e2.all _ _ m2
    refine ⟨pp, vs, _, j, rfl, rfl, hL, by rw [m5.length]; exact hj, ?_⟩
    have n2 : Hs2 pp = none := e2.out _ _ m2 m3
    exact q _ Hs2 _ (((re.ext e1).ext e2).mut hρ m1 n2 m4 ((m5.mono e2.view).set j (r1.mono e2.view))) ((ext.trans (e1.trans e2)).mut n2 m4) (e1.view.trans e2.view)
  | .app i e, st, h => by
    unfold chkS at h
    split at h <;> first | cases h | skip
    rename_i m p hb
    have := asSEx_eq hb; subst this
    split at h <;> first | cases h | skip
    rename_i o nm v hb2
    obtain ⟨ap, cp, rfl, hline⟩ := asMeth_eq hb2
    simp only [Bool.and_eq_true, Bool.not_eq_true', decide_eq_true_eq] at h
    obtain ⟨⟨⟨⟨h0, h1⟩, h2⟩, h3⟩, h4⟩ := h
    subst h0
    obtain ⟨n, p3, rfl, hN, hv, hd, hc⟩ := nm_of h1
    have A := sndE (H0 := H0) e so.ok so.px h2
    refine psw (ps_expr (pe_bm PySem.F.plainAttrs_list PySem.F.slot_list_append PySem.F.type_list_append mt_append (pe_var hN hv hd hc) (sargs_cons A h3 sargs_nil) rfl (by rw [star_cons h3]; rfl) hline (star_cons h3) rfl) rfl) fun Dn σ H ⟨ρ, Hs, re, ext, h⟩ => ?_
    unfold exS at h
    obtain ⟨ds, hρ, q⟩ := getO_ok h
    obtain ⟨pp, vs, m1, m2, m3, m4, m5⟩ := re.ow i ds hρ
    refine ⟨.ref pp, m1, .inl ⟨rfl, _, .inl (.inl m2)⟩, ρ, Hs, re, ?_⟩
    unfold evL evL
    cases hk : evE F e ρ with
    | no => rw [hk] at q; exact q.elim
    | ex c => rw [hk] at q; exact EXc.ext q ext
    | ok d =>
      rw [hk] at q
      obtain ⟨hlt, q⟩ := holds_gd (show holds (gd (decide (ds.length < sizeLine)) _) _ _ from q)
      have hlt := of_decide_eq_true hlt
      intro ws Hs1 H1 e1 b1 r1
      obtain ⟨w, rfl, rw_⟩ := reps_one (r1 (nolend1 h4))
      have hL : H1 pp = some (.lst vs) := e1.all _ _ m2
      have n2 : Hs1 pp = none := e1.out _ _ m2 m3
      refine ⟨pp, vs, w, rfl, rfl, hL, by rw [m5.length]; exact hlt, ?_⟩
      exact q _ Hs1 _ ((re.ext e1).mut hρ m1 n2 m4 ((m5.mono e1.view).append (.cons rw_ .nil))) ((ext.trans e1).mut n2 m4) e1.view
  | .ext i e, st, h => by
    unfold chkS at h
    split at h <;> first | cases h | skip
    rename_i m p hb
    have := asSEx_eq hb; subst this
    split at h <;> first | cases h | skip
    rename_i o nm v hb2
    obtain ⟨ap, cp, rfl, hline⟩ := asMeth_eq hb2
    simp only [Bool.and_eq_true, Bool.not_eq_true', decide_eq_true_eq] at h
    obtain ⟨⟨⟨h0, h1⟩, h2⟩, h3⟩ := h
    subst h0
    obtain ⟨n, p3, rfl, hN, hv, hd, hc⟩ := nm_of h1
    have A := sndE (H0 := H0) e so.ok so.px h2
    refine psw (ps_expr (pe_bm PySem.F.plainAttrs_list PySem.F.slot_list_extend PySem.F.type_list_extend mt_extendQ (pe_var hN hv hd hc) (sargs_cons A h3 sargs_nil) rfl (by rw [star_cons h3]; rfl) hline (star_cons h3) rfl) rfl) fun Dn σ H ⟨ρ, Hs, re, ext, h⟩ => ?_
    unfold exS at h
    obtain ⟨ds, hρ, q⟩ := getO_ok h
    obtain ⟨pp, vs, m1, m2, m3, m4, m5⟩ := re.ow i ds hρ
    refine ⟨.ref pp, m1, .inl ⟨rfl, _, .inl (.inl m2)⟩, ρ, Hs, re, ?_⟩
    unfold evL evL
    cases hk : evE F e ρ with
    | no => rw [hk] at q; exact q.elim
    | ex c => rw [hk] at q; exact EXc.ext q ext
    | ok d =>
      rw [hk] at q
      have q : holds (match seqOf d with | some es => gd (fits (ds.length + es.length)) (O.nx (ρ.set i (.ow (ds ++ es)))) | none => .no) _ _ := q
      cases hs : seqOf d with
      | none => rw [hs] at q; exact q.elim
      | some es =>
        rw [hs] at q
        obtain ⟨hlt, q⟩ := holds_gd q
        have hlt : ds.length + es.length ≤ sizeLine := of_decide_eq_true hlt
        intro ws Hs1 H1 e1 b1 r1
        obtain ⟨w, rfl, bw⟩ := b1.one
        have hL : H1 pp = some (.lst vs) := e1.all _ _ m2
        have n2 : Hs1 pp = none := e1.out _ _ m2 m3
        obtain ⟨b, us, rfl, sq, rr⟩ := bw.seq e1.sub hs
        refine ⟨pp, b, vs, us, rfl, rfl, hL, by rw [so.ok.K]; exact sq, by rw [m5.length, rr.length]; exact hlt, ?_⟩
        exact q _ Hs1 _ ((re.ext e1).mut hρ m1 n2 m4 ((m5.mono e1.view).append rr)) ((ext.trans e1).mut n2 m4) e1.view
  | .pop is i, st, h => by
    unfold chkS at h
    split at h <;> first | cases h | skip
    rename_i t v p hb
    have := asAsg_eq hb; subst this
    split at h <;> first | cases h | skip
    rename_i o nm hb2
    obtain ⟨ap, cp, rfl, hline⟩ := asMeth_eq hb2
    simp only [Bool.and_eq_true, Bool.not_eq_true', decide_eq_true_eq] at h
    obtain ⟨⟨⟨h0, h1⟩, h2⟩, h3⟩ := h
    subst h0
    obtain ⟨n, p3, rfl, hN, hv, hd, hc⟩ := nm_of h1
    have B := tg_ok so.fn h2 so.ok.nd so.ok.calm
    have hl : ∀ ts q, t ≠ .List ts q := fun ts q z => by
      subst z
      unfold chkTg ownOf at h2
      cases h2
    have hst : notStar t = true := by
      cases t <;> first | rfl | skip
      unfold chkTg ownOf at h2
      cases h2
    refine psw (ps_asg (pe_bm0 PySem.F.plainAttrs_list PySem.F.slot_list_pop PySem.F.type_list_pop mt_pop (pe_var hN hv hd hc) rfl hline) B (sole_sub rfl) (noSwap (.inl rfl) hl) (by cases t <;> first | rfl | cases hst)) fun Dn σ H ⟨ρ, Hs, re, ext, h⟩ => ?_
    unfold exS at h
    obtain ⟨ds, hρ, q⟩ := getO_ok h
    split at q <;> first | exact q.elim | skip
    rename_i d hd2
    obtain ⟨ρ', ht, q⟩ := tgD_holds q
    obtain ⟨pp, vs, m1, m2, m3, m4, m5⟩ := re.ow i ds hρ
    obtain ⟨y, k1, k2⟩ := m5.get hd2
    refine ⟨.ref pp, m1, .inl ⟨rfl, _, .inl (.inl m2)⟩, pp, vs, y, rfl, rfl, m2, by rw [m5.length]; exact k1, ?_⟩
    exact gD_ok so.ok.K is (re.mut hρ m1 m3 m4 m5.dropLast) k2 ht fun σ' re' _ => q σ' Hs _ re' (ext.mut m3 m4) (Same.refl _)
  | .ite c a b, st, h => by
    unfold chkS at h
    split at h <;> first | cases h | skip
    rename_i ec sa sb hb
    obtain ⟨p, rfl⟩ := asSIf_eq hb
    simp only [Bool.and_eq_true, Bool.not_eq_true'] at h
    obtain ⟨⟨⟨⟨h1, h2⟩, h3⟩, h4⟩, h5⟩ := h
    have C := sndE (H0 := H0) c so.ok so.px h1
    have A := sndB (Hs0 := Hs0) so a (st := sa) h4
    have B := sndB (Hs0 := Hs0) so b (st := sb) h5
    refine psw (ps_if (C.t h2 h3) A B) fun Dn σ H ⟨ρ, Hs, re, ext, h⟩ => ?_
    unfold exS at h
    refine ⟨ρ, Hs, re, holds_mono (holds_bind h) (fun d _ q => ?_) fun _ z => z.ext ext⟩
    cases d <;> first | exact q.elim | skip
    rename_i bb _
    refine ⟨bb, rfl, fun Hs1 H1 e1 => ?_⟩
    cases bb with
    | true =>
      rw [if_pos rfl]
      exact ⟨ρ, Hs1, re.ext e1, ext.trans e1, holds_mono q (fun o _ z => oPost_same z e1.view) fun _ z => z⟩
    | false =>
      rw [if_neg Bool.false_ne_true]
      exact ⟨ρ, Hs1, re.ext e1, ext.trans e1, holds_mono q (fun o _ z => oPost_same z e1.view) fun _ z => z⟩
  | .for_ tg k es body, st, h => by
    unfold chkS at h
    split at h <;> first | cases h | skip
    rename_i t it sb hb
    obtain ⟨p, rfl⟩ := asFor_eq hb
    simp only [Bool.and_eq_true] at h
    obtain ⟨⟨⟨h1, h2⟩, h3⟩, h4⟩ := h
    have A := sndI (H0 := H0) k es so.ok so.px h2
    have B := tg_ok so.fn h1 so.ok.nd so.ok.calm
    have C := sndB (Hs0 := Hs0) so body (st := sb) h4
    refine psw (ps_for so.po so.ok.calm A B C (noSet_fold h3)) fun Dn σ H ⟨ρ, Hs, re, ext, h⟩ => ?_
    unfold exS at h
    refine ⟨ρ, Hs, re, holds_mono (holds_bind h) (fun its _ q J Hs1 H1 e1 w => ?_) fun _ z => z.ext ext⟩
    obtain ⟨Gd, Y, W, hG, hY⟩ := w
    refine for_it W (fun i σ Hc => ∃ ρi Hv, RE g H0 Hv Hc ρi σ ∧ Ext Hs0 H0 Hv Hc ∧ Same Hs1 Hv ∧ holds (forD (fun d ρ => (tgD ρ tg d).bind fun ρ' => exB F fr body ρ') (its.drop i) ρi) (oPost g H0 Hs0 fr Hs Dn) (EXc g E Hs0 H0)) ?_ ?_ ?_ ?_
    · exact ⟨ρ, Hs1, re.ext e1, ext.trans e1, Same.refl _, by simpa using q⟩
    · rintro i σ Hc hi ⟨ρi, Hv, r, _, s, _⟩
      exact hG Hc (s.trans r.sub)
    · rintro i x σ Hc H' hi ⟨ρi, Hv, r, ex, s, q⟩ y
      obtain ⟨Hv', d, hd, e2, rd⟩ := hY i Hv Hc x H' hi s r.sub y
      have hdrop : its.drop i = d :: its.drop (i + 1) := by
        obtain ⟨hlt, e⟩ := List.getElem?_eq_some_iff.mp hd
        rw [List.drop_eq_getElem_cons hlt, e]
      rw [hdrop] at q
      unfold forD at q
      obtain ⟨ρ', ht, q⟩ := tgD_holds (show holds ((tgD ρi tg d).bind fun ρ' => (exB F fr body ρ').bind _) _ _ from by
        cases z : tgD ρi tg d <;> rw [z] at q <;> exact q)
      refine gD_ok so.ok.K tg (r.ext e2) rd ht fun σ2 re3 _ => ⟨ρ', Hv', re3, ex.trans e2, holds_mono (holds_bind q) (fun o _ z => ?_) fun _ z => z⟩
      have ss : Same Hs Hv' := e1.view.trans (s.trans e2.view)
      cases o with
      | nx ρ'' => exact fun σ' Hs' H' r' x' s' => ⟨ρ'', Hs', r', x', (s.trans e2.view).trans s', z⟩
      | ct ρ'' => exact fun σ' Hs' H' r' x' s' => ⟨ρ'', Hs', r', x', (s.trans e2.view).trans s', z⟩
      | bk ρ'' => exact fun σ' Hs' H' r' x' s' => z σ' Hs' H' r' x' (ss.trans s')
      | rt d => exact z
    · rintro σ Hc ⟨ρi, Hv, r, ex, s, q⟩
      rw [List.drop_length] at q
      exact q σ Hv Hc r ex (e1.view.trans s)
  | .while_ fuel c body, st, h => by
    unfold chkS at h
    split at h <;> first | cases h | skip
    rename_i ec sb hb
    obtain ⟨p, rfl⟩ := asWhl_eq hb
    simp only [Bool.and_eq_true, Bool.not_eq_true'] at h
    obtain ⟨⟨⟨h1, h2⟩, h3⟩, h4⟩ := h
    have C := sndE (H0 := H0) c so.ok so.px h1
    have B := sndB (Hs0 := Hs0) so body (st := sb) h4
    refine psw (ps_while so.po (C.t h2 h3) B) fun Dn σ H ⟨ρ, Hs, re, ext, h⟩ => ?_
    unfold exS at h
    refine ⟨fun m σ Hc => ∃ ρi Hv, RE g H0 Hv Hc ρi σ ∧ Ext Hs0 H0 Hv Hc ∧ Same Hs Hv ∧ holds (whlD (evE F c) (exB F fr body) m ρi) (oPost g H0 Hs0 fr Hs Dn) (EXc g E Hs0 H0), ⟨fuel, ρ, Hs, re, ext, Same.refl _, h⟩, ?_⟩
    rintro m σ Hc ⟨ρi, Hv, r, ex, s, q⟩
    cases m with
    | zero => exact q.elim
    | succ m =>
      unfold whlD at q
      refine ⟨ρi, Hv, r, holds_mono (holds_bind q) (fun d _ q => ?_) fun _ z => z.ext ex⟩
      cases d <;> first | exact q.elim | skip
      rename_i bb _
      refine ⟨bb, rfl, fun Hs1 H1 e1 => ?_⟩
      cases bb with
      | true =>
        rw [if_pos rfl]
        refine ⟨fun σ' H' => ∃ ρi Hv, RE g H0 Hv H' ρi σ' ∧ Ext Hs0 H0 Hv H' ∧ Same Hs Hv ∧ holds (whlD (evE F c) (exB F fr body) m ρi) (oPost g H0 Hs0 fr Hs Dn) (EXc g E Hs0 H0), fun σ' H' z => ⟨m, Nat.lt_succ_self _, z⟩, ?_⟩
        refine ⟨ρi, Hs1, r.ext e1, ex.trans e1, holds_mono (holds_bind q) (fun o _ z => ?_) fun _ z => z⟩
        have ss : Same Hs Hs1 := s.trans e1.view
        cases o with
        | nx ρ'' => exact fun σ' Hs' H' r' x' s' => ⟨ρ'', Hs', r', x', ss.trans s', z⟩
        | ct ρ'' => exact fun σ' Hs' H' r' x' s' => ⟨ρ'', Hs', r', x', ss.trans s', z⟩
        | bk ρ'' => exact fun σ' Hs' H' r' x' s' => z σ' Hs' H' r' x' (ss.trans s')
        | rt d => exact z
      | false =>
        rw [if_neg Bool.false_ne_true]
        exact q σ Hs1 H1 (r.ext e1) (ex.trans e1) (s.trans e1.view)
  | .ret e, st, h => by
    unfold chkS at h
    split at h <;> first | cases h | skip
    rename_i v hb
    obtain ⟨p, rfl⟩ := asRet_eq hb
    simp only [Bool.and_eq_true, Bool.not_eq_true'] at h
    have A := sndE (H0 := H0) e so.ok so.px h.1
    refine psw (ps_ret (A.v h.2)) fun Dn σ H ⟨ρ, Hs, re, ext, h⟩ => ?_
    unfold exS at h
    refine ⟨ρ, Hs, re, holds_mono (holds_bind h) (fun d _ q v Hs1 H1 e1 r1 => ?_) fun _ z => z.ext ext⟩
    obtain ⟨hf, q⟩ := holds_gd q
    cases fr with
    | false => exact q v Hs1 H1 (ext.trans e1) r1
    | true =>
      have hd : isLst d = false := by
        simp only [Bool.not_true, Bool.false_or, Bool.not_eq_true'] at hf
        exact hf
      exact q v Hs1 H1 (ext.trans e1) (.inl ⟨r1, fun ds z => by subst z; cases hd⟩)
  | .retR e, st, h => by
    unfold chkS at h
    split at h <;> first | cases h | skip
    rename_i v hb
    obtain ⟨p, rfl⟩ := asRet_eq hb
    rw [Bool.and_eq_true] at h
    have A := sndE (H0 := H0) e so.ok so.px h.1
    rcases Bool.or_eq_true_iff.mp h.2 with h2 | h2
    · refine psw (ps_ret (A.r h2)) fun Dn σ H ⟨ρ, Hs, re, ext, h⟩ => ?_
      unfold exS at h
      refine ⟨ρ, Hs, re, holds_mono (holds_bind h) (fun d _ q v Hs1 H1 e1 r1 => ?_) fun _ z => z.ext ext⟩
      have r0 : FRep g H0 Hs1 H1 v d := by
        rcases r1 with r1 | ⟨pp, vs, ds, k1, k2, k3, k4⟩
        · exact .inl r1
        · exact .inr ⟨pp, vs, ds, k1, k2, ext.all.free k3, k4⟩
      cases fr with
      | true => exact q v Hs1 H1 (ext.trans e1) r0
      | false => exact PV.toR q v Hs1 H1 (ext.trans e1) r0
    · rw [Bool.and_eq_true] at h2
      obtain ⟨hb2, rfl⟩ := h2
      cases e <;> first | cases hb2 | skip
      rename_i i
      have h1 := h.1
      unfold chkE at h1
      obtain ⟨n, p3, rfl, hN, hv, hd, hc⟩ := nm_of h1
      refine psw (ps_ret (pe_var hN hv hd hc)) fun Dn σ H ⟨ρ, Hs, re, ext, h⟩ => ?_
      unfold exS evE getB at h
      split at h
      · rename_i ds hρ
        obtain ⟨pp, vs, m1, m2, m3, m4, m5⟩ := re.ow i ds hρ
        exact ⟨_, m1, h _ Hs H ext (.inr ⟨pp, vs, ds, rfl, rfl, m4, m3, m2, m5⟩)⟩
      · exact h.elim
  | .retN, st, h => by
    unfold chkS at h
    split at h <;> first | cases h | skip
    rename_i hb
    obtain ⟨p, rfl⟩ := asRet_eq hb
    refine psw ps_retN fun Dn σ H ⟨ρ, Hs, re, ext, h⟩ => ?_
    unfold exS at h
    cases fr with
    | true => exact h .non Hs H ext (.inl ⟨.non, fun _ z => nomatch z⟩)
    | false => exact h .non Hs H ext .non
  | .brk, st, h => by
    unfold chkS at h
    split at h <;> first | cases h | skip
    refine psw ps_break fun Dn σ H ⟨ρ, Hs, re, ext, h⟩ => ?_
    unfold exS at h
    exact h σ Hs H re ext (Same.refl _)
  | .cnt, st, h => by
    unfold chkS at h
    split at h <;> first | cases h | skip
    refine psw ps_continue fun Dn σ H ⟨ρ, Hs, re, ext, h⟩ => ?_
    unfold exS at h
    exact h σ Hs H re ext (Same.refl _)
  | .pas, st, h => by
    unfold chkS at h
    split at h <;> first | cases h | skip
    refine psw ps_pass fun Dn σ H ⟨ρ, Hs, re, ext, h⟩ => ?_
    unfold exS at h
    exact h σ Hs H re ext (Same.refl _)
  | .frz i, st, h => by
    unfold chkS at h
    cases h
  | .del is, st, h => by
    unfold chkS at h
    cases h
theorem sndB {X : Cx} {E : XK} {Hs0 : Hp} {fr : Bool} (so : SOk g T F CX E X) : ∀ (xs : List Sx) {st : List Stmt}, chkB T X.N fr X.env.scope xs st = true → PSs X st (tS g H0 E Hs0 fr (exB F fr xs))
  | [], st, h => by
    cases st with
    | cons t ts => simp [chkB] at h
    | nil =>
      refine pssw pss_nil fun Dn σ H ⟨ρ, Hs, re, ext, h⟩ => ?_
      unfold exB at h
      exact h σ Hs H re ext (Same.refl _)
  | s :: ss, st, h => by
    have hnf : ((∀ i, s ≠ .frz i) ∧ ∀ is, s ≠ .del is) ∨ (∃ i, s = .frz i) ∨ ∃ is, s = .del is := by
      cases s <;> first | exact .inr (.inl ⟨_, rfl⟩) | exact .inr (.inr ⟨_, rfl⟩) | exact .inl ⟨(fun _ z => nomatch z), (fun _ z => nomatch z)⟩
    rcases hnf with hnf | ⟨i, rfl⟩ | ⟨is, rfl⟩
    case inr.inr =>
      unfold chkB at h
      have A := sndB (Hs0 := Hs0) so ss (st := st) h
      refine pssw A fun Dn σ H ⟨ρ, Hs, re, ext, h⟩ => ?_
      unfold exB exS at h
      exact ⟨_, Hs, re.forget is, ext, h⟩
    case inr.inl =>
      unfold chkB at h
      have A := sndB (Hs0 := Hs0) so ss (st := st) h
      refine pssw A fun Dn σ H ⟨ρ, Hs, re, ext, h⟩ => ?_
      unfold exB exS at h
      have q : holds (exB F fr ss (frzD ρ i)) _ _ := h
      unfold frzD at q
      split at q
      · rename_i ds hρ
        obtain ⟨Hs', r', s', x'⟩ := re.frz hρ
        exact ⟨_, Hs', r', x' _ ext, holds_mono q (fun o _ z => oPost_same z s') fun _ z => z⟩
      · exact ⟨ρ, Hs, re, ext, q⟩
    cases st with
    | nil => (cases s <;> first | (simp [chkB] at h; done) | exact absurd rfl (hnf.1 _) | exact absurd rfl (hnf.2 _))
    | cons t ts =>
      have h : chkS T X.N fr X.env.scope s t = true ∧ chkB T X.N fr X.env.scope ss ts = true := by
        cases s <;> first | (simpa only [chkB, Bool.and_eq_true] using h) | exact absurd rfl (hnf.1 _) | exact absurd rfl (hnf.2 _)
      have A := sndS (Hs0 := Hs0) so s (st := t) h.1
      have B := sndB (Hs0 := Hs0) so ss (st := ts) h.2
      refine pssw (pss_cons A B) fun Dn σ H ⟨ρ, Hs, re, ext, h⟩ => ?_
      unfold exB at h
      refine ⟨ρ, Hs, re, ext, holds_mono (holds_bind h) (fun o _ z => ?_) fun _ z => z⟩
      cases o with
      | nx ρ' => exact fun σ' Hs' H' r' x' s' => ⟨ρ', Hs', r', x', holds_mono z (fun o _ z => oPost_same z s') fun _ z => z⟩
      | bk ρ' => exact z
      | ct ρ' => exact z
      | rt d => exact z
end
end
end Dw

/-! The defs of a program, and a law's end. -/
namespace Dw
open PySem PySem.Spec PyProof.Rows L2
theorem lookup_mem {β : Type} {i : Nat} {b : β} : ∀ {l : List (Nat × β)}, l.lookup i = some b → (i, b) ∈ l
  | [], h => by cases h
  | (j, c) :: l, h => by
    rw [List.lookup_cons] at h
    cases e : i == j with
    | true => rw [e] at h; cases h; rw [beq_iff_eq] at e; subst e; exact List.mem_cons_self
    | false => rw [e] at h; exact List.mem_cons_of_mem _ (lookup_mem h)
/-- a def of the text, by its statement -/
structure DOk (K : PySem.W.Frag) (mg : Str → Option Value) (T : Tab) (P : Nat → Option Df) (i : Nat) (fi : FI) : Prop where
  ex : ∃ (d : Df) (qual : Str) (st : Stmt) (f : Addr) (fd : FuncData) (N ps : List Str), P i = some d ∧ Fun K fi.name qual st f fd ∧ mg fi.name = some (.ref f) ∧ FnScope N ps (defScope st) ∧ ps.length = fi.np ∧ N.length = d.n ∧ d.fr = fi.fr ∧
    chkB T N d.fr (defScope st) d.body (defBody st) = true ∧ ∀ j, j ≤ fi.ds.length → ∃ dvs dus, Binds K fd ps dus ∧ Vals dvs dus ∧ ∀ g H, Reps g H dvs (fi.ds.drop j)
section
variable {Pr : Program} {w : World} {K : PySem.W.Frag} {mg : Str → Option Value} {base : Heap} {g : G} {T : Tab} {P : Nat → Option Df}
theorem start_re {H0 Hs H : Hp} {N : List Str} {vs : List V} {ds : List D} {n : Nat} (r : Reps g Hs vs ds) (sub : Same Hs H) (hn : N.length = n) : RE g H0 Hs H (ds.map Sl.sh ++ List.replicate (n - ds.length) .no) (L2.start N vs) := by
  have hl := r.length
  refine ⟨sub, by unfold L2.start; simp [hl, hn], fun i d h => ?_, fun i es h => ?_, fun a b es fs q hab k1 k2 => ?_⟩
  · by_cases hi : i < ds.length
    · rw [List.getElem?_append_left (by simpa using hi), List.getElem?_map] at h
      cases q : ds[i]? with
      | none => rw [q] at h; cases h
      | some d' =>
        rw [q] at h
        cases h
        obtain ⟨v, k1, k2⟩ := r.get q
        refine ⟨v, ?_, k2⟩
        unfold L2.start
        rw [List.getElem?_append_left (by simp; omega), List.getElem?_map, k1]
        rfl
    · rw [List.getElem?_append_right (by simpa using hi), List.getElem?_replicate] at h
      split at h <;> cases h
  · by_cases hi : i < ds.length
    · rw [List.getElem?_append_left (by simpa using hi), List.getElem?_map] at h
      cases q : ds[i]? <;> rw [q] at h <;> cases h
    · rw [List.getElem?_append_right (by simpa using hi), List.getElem?_replicate] at h
      split at h <;> cases h
  · exfalso
    by_cases hi : a < ds.length
    · rw [List.getElem?_append_left (by simpa using hi), List.getElem?_map] at k1
      cases q : ds[a]? <;> rw [q] at k1 <;> cases k1
    · rw [List.getElem?_append_right (by simpa using hi), List.getElem?_replicate] at k1
      split at k1 <;> cases k1
theorem prog_ok (hK : K = g.K) (hb : ∀ n ∈ biNames, mg n = none) (hc : ∀ p ∈ T.cons, ∃ u v, mg p.1 = some u ∧ RelV v u ∧ ∀ H, Rep g H v p.2) (hd : ∀ i fi, T.fn i = some fi → DOk K mg T P i fi) :
    ∀ (n i : Nat) (fi : FI) (d : Df) (qual : Str) (st : Stmt) (f : Addr) (fd : FuncData) (N ps : List Str), P i = some d → Fun K fi.name qual st f fd → FnScope N ps (defScope st) → ps.length = fi.np → N.length = d.n → d.fr = fi.fr →
      chkB T N d.fr (defScope st) d.body (defBody st) = true → FnOk Pr w K mg base (L2.CX Pr w) n f fd ps (spF g (callN P n) i fi.np fi.fr) := by
  intro n
  induction n with
  | zero =>
    intro i fi d qual st f fd N ps h1 h2 h3 h4 h5 h6 h7
    refine ⟨fun vs H Q E h => ?_, fun A outer s H args us vs Q E _ _ _ _ h => ?_⟩
    · obtain ⟨Hs, ds, _, _, _, h⟩ := h
      exact h.elim
    · obtain ⟨Hs, ds, _, _, _, h⟩ := h
      exact h.elim
  | succ n ih =>
    intro i fi d qual st f fd N ps h1 h2 h3 h4 h5 h6 h7
    refine h2.okX h3 (fun vs H Q E h => ?_) fun cdv A outer s H vs Q E hr h => ?_
    · obtain ⟨Hs, ds, _, _, h, _⟩ := h
      rw [h, h4]
    · obtain ⟨Hs, ds, sub, r, hl, h⟩ := h
      have so : SOk g T (callN P n) (L2.CX Pr w) E (cxOf (L2.CX Pr w) Pr w K mg base N qual (defScope st) f cdv A outer s H E) := by
        refine ⟨⟨hK, h3.nd, rfl, hr.units, hb, fun j fj hj => ?_, hc, fun X' e1 e2 => ?_⟩, passes_call (takes_of rfl rfl rfl rfl) (fun _ _ _ _ h => h), fun _ => rfl, h3.kind, passes_of rfl⟩
        · obtain ⟨d', q', st', f', fd', N', ps', k1, k2, k3, k4, k5, k6, k7, k8, k9⟩ := (hd j fj hj).ex
          exact ⟨n, f', fd', ps', k3, k2.kp, hr, ih j fj d' q' st' f' fd' N' ps' k1 k2 k4 k5 k6 k7 k8, fun m hm => let ⟨dvs, dus, z1, z2, z3⟩ := k9 m hm; ⟨dvs, dus, z1, z2, z3 g⟩⟩
        · have e1 : X'.prog = Pr := e1
          have e2 : X'.w = w := e2
          rw [← e1, ← e2]
          exact passL
      have hB := sndB (H0 := H) (Hs0 := Hs) so d.body (st := defBody st) h7
      refine ⟨_, hB, ds.map Sl.sh ++ List.replicate (d.n - ds.length) .no, Hs, start_re r sub h5, Ext.refl sub, ?_⟩
      unfold callN at h
      rw [h1] at h
      simp only [runD] at h
      cases q : exB (callN P n) d.fr d.body (ds.map Sl.sh ++ List.replicate (d.n - ds.length) .no) with
      | no => rw [q] at h; exact h.elim
      | ex c => rw [q] at h; exact h
      | ok o =>
        rw [q] at h
        cases o with
        | nx ρ =>
          intro σ' Hs' H' r' x' s'
          have h : (match fi.fr with | true => PR g Hs H .non Q | false => PV g Hs H .non Q) := h
          cases hf : fi.fr with
          | true => rw [hf] at h; exact h .non Hs' H' x' (.inl ⟨.non, fun _ z => nomatch z⟩)
          | false => rw [hf] at h; exact h .non Hs' H' x' .non
        | bk ρ => exact h.elim
        | ct ρ => exact h.elim
        | rt r =>
          show RT g d.fr Hs H r Q
          unfold RT
          rw [h6]
          exact h
/-- what a law's def promises -/
def spLaw (K : PySem.W.Frag) (m : Nat) : Sp := fun vs H Q _ => ∃ (a : Addr) (ns : List Int), vs = [.ref a] ∧ SqL K H a (ns.map V.int) ∧ ns.length ≤ m ∧ ∀ H', Q (.bl true) H'
theorem law_ok (hK : K = g.K) (hb : ∀ n ∈ biNames, mg n = none) (hc : ∀ p ∈ T.cons, ∃ u v, mg p.1 = some u ∧ RelV v u ∧ ∀ H, Rep g H v p.2) (hd : ∀ i fi, T.fn i = some fi → DOk K mg T P i fi)
    {n i m : Nat} {fi : FI} {d : Df} {qual : Str} {st : Stmt} {f : Addr} {fd : FuncData} {N ps : List Str} (h1 : P i = some d) (h2 : Fun K fi.name qual st f fd) (h3 : FnScope N ps (defScope st)) (h4 : ps.length = fi.np) (h5 : N.length = d.n) (h6 : d.fr = fi.fr)
    (h7 : chkB T N d.fr (defScope st) d.body (defBody st) = true) (h8 : fi.np = 1) (h9 : fi.fr = false) (law : ∀ ns : List Int, ns.length ≤ m → callN P n i [.lst (ns.map D.int)] = .ok (.bl true)) : FnOk Pr w K mg base (L2.CX Pr w) n f fd ps (spLaw K m) := by
  refine (prog_ok (Pr := Pr) (w := w) (base := base) hK hb hc hd n i fi d qual st f fd N ps h1 h2 h3 h4 h5 h6 h7).imp fun vs H Q E h => ?_
  obtain ⟨a, ns, rfl, hS, hl, q⟩ := h
  rw [hK] at hS
  refine ⟨H, [.lst (ns.map D.int)], Same.refl _, .cons (.lst hS (reps_ints ns)) .nil, h8.symm, ?_⟩
  rw [law ns hl, h9]
  intro v Hs' H' x r
  cases r
  exact q H'
theorem law_cx {Pr : Program} {w : World} {H : Hp} {s : Shared} {e : Value} {s' : Shared} (h : L2.CX Pr w [] H s (fun _ _ _ => False) e s') : False := by
  obtain ⟨_, _, _, _, _, _, _, _, _, _, _, _, z⟩ := h
  exact z
end
end Dw

/-! Evaluation by rewriting. -/
namespace Dw
open PySem
/-- keeps rewriting by steps -/
theorem nr {α : Sort u} {a b : α} (h : a = b) : a = b := h
/-! ### the ways of an evaluation -/
theorem bind_ok {α β : Type} (a : α) (f : α → M β) : M.bind (.ok a) f = f a := nr rfl
theorem bind_no {α β : Type} (f : α → M β) : M.bind .no f = .no := nr rfl
theorem bind_ex {α β : Type} (c : Nat) (f : α → M β) : M.bind (.ex c) f = .ex c := nr rfl
theorem bind_ite {α β : Type} (p : Prop) [Decidable p] (x y : M α) (f : α → M β) : M.bind (if p then x else y) f = if p then M.bind x f else M.bind y f := by split <;> rfl
theorem gd_true {α : Type} (a : α) : gd true a = .ok a := nr rfl
theorem gd_of {α : Type} {b : Bool} (h : b = true) (a : α) : gd b a = .ok a := by rw [h]; rfl
def getS : List Sl → Nat → Sl
  | [], _ => .no
  | x :: _, 0 => x
  | _ :: xs, n + 1 => getS xs n
theorem getS_0 (x : Sl) (xs : List Sl) : getS (x :: xs) 0 = x := nr rfl
theorem getS_s (x : Sl) (xs : List Sl) (n : Nat) : getS (x :: xs) (n + 1) = getS xs n := nr rfl
theorem getS_eq : ∀ (ρ : List Sl) (i : Nat), getS ρ i = (ρ[i]?).getD .no
  | [], i => by cases i <;> rfl
  | x :: xs, 0 => rfl
  | x :: xs, n + 1 => by rw [getS_s, List.getElem?_cons_succ]; exact getS_eq xs n
def slV : Sl → M D
  | .sh d => .ok d
  | _ => .no
def slB : Sl → M D
  | .ow ds => .ok (.lst ds)
  | _ => .no
def slO : Sl → M (List D)
  | .ow ds => .ok ds
  | _ => .no
theorem slV_sh (d : D) : slV (.sh d) = .ok d := nr rfl
theorem slB_ow (d : List D) : slB (.ow d) = .ok (.lst d) := nr rfl
theorem slO_ow (d : List D) : slO (.ow d) = .ok d := nr rfl
theorem getV_eq (ρ : List Sl) (i : Nat) : getV ρ i = slV (getS ρ i) := by
  rw [getS_eq]
  unfold getV
  cases h : ρ[i]? with
  | none => rfl
  | some s => cases s <;> rfl
theorem getB_eq (ρ : List Sl) (i : Nat) : getB ρ i = slB (getS ρ i) := by
  rw [getS_eq]
  unfold getB
  cases h : ρ[i]? with
  | none => rfl
  | some s => cases s <;> rfl
theorem getO_eq (ρ : List Sl) (i : Nat) : getO ρ i = slO (getS ρ i) := by
  rw [getS_eq]
  unfold getO
  cases h : ρ[i]? with
  | none => rfl
  | some s => cases s <;> rfl
def setS : List Sl → Nat → Sl → List Sl
  | [], _, _ => []
  | _ :: xs, 0, s => s :: xs
  | x :: xs, n + 1, s => x :: setS xs n s
theorem setS_0 (x s : Sl) (xs : List Sl) : setS (x :: xs) 0 s = s :: xs := nr rfl
theorem setS_s (x s : Sl) (xs : List Sl) (n : Nat) : setS (x :: xs) (n + 1) s = x :: setS xs n s := nr rfl
theorem setS_eq : ∀ (ρ : List Sl) (i : Nat) (s : Sl), ρ.set i s = setS ρ i s
  | [], i, s => rfl
  | x :: xs, 0, s => rfl
  | x :: xs, n + 1, s => by rw [List.set_cons_succ, setS_s, setS_eq xs n s]
theorem setV_eq (ρ : List Sl) (i : Nat) (d : D) : setV ρ i d = setS ρ i (.sh d) := setS_eq ρ i _
theorem wipe_nil (ρ : List Sl) : wipeD ρ [] = ρ := nr rfl
theorem wipe_cons (ρ : List Sl) (v : Nat) (vs : List Nat) : wipeD ρ (v :: vs) = setS (wipeD ρ vs) v .no := setS_eq _ _ _
def frS : Sl → Sl
  | .ow ds => .sh (.lst ds)
  | s => s
theorem frS_ow (ds : List D) : frS (.ow ds) = .sh (.lst ds) := nr rfl
theorem frS_sh (d : D) : frS (.sh d) = .sh d := nr rfl
theorem frS_no : frS .no = .no := nr rfl
theorem setS_get : ∀ (ρ : List Sl) (i : Nat), setS ρ i (getS ρ i) = ρ
  | [], i => rfl
  | x :: xs, 0 => rfl
  | x :: xs, n + 1 => by rw [setS_s, getS_s, setS_get xs n]
theorem frz_eq (ρ : List Sl) (i : Nat) : frzD ρ i = setS ρ i (frS (getS ρ i)) := by
  have e := getS_eq ρ i
  unfold frzD
  cases h : ρ[i]? with
  | none => rw [h] at e; rw [e]; have := setS_get ρ i; rw [e] at this; exact this.symm
  | some s =>
    rw [h] at e
    have e : getS ρ i = s := e
    cases s with
    | ow ds => rw [e]; show ρ.set i _ = _; rw [setS_eq]; rfl
    | sh d => rw [e, frS_sh]; have := setS_get ρ i; rw [e] at this; exact this.symm
    | no => rw [e, frS_no]; have := setS_get ρ i; rw [e] at this; exact this.symm
theorem tg_one (ρ : List Sl) (i : Nat) (d : D) : tgD ρ [i] d = .ok (setS ρ i (.sh d)) := by show M.ok (setV ρ i d) = _; rw [setV_eq]
theorem tg_tup (ρ : List Sl) (i j : Nat) (is : List Nat) (ds : List D) : tgD ρ (i :: j :: is) (.tup ds) = setVs ρ (i :: j :: is) ds := nr rfl
theorem setVs_nil (ρ : List Sl) : setVs ρ [] [] = .ok ρ := nr rfl
theorem setVs_cons (ρ : List Sl) (i : Nat) (is : List Nat) (d : D) (ds : List D) : setVs ρ (i :: is) (d :: ds) = setVs (setS ρ i (.sh d)) is ds := by rw [setVs, setV_eq]
def iteD {α : Type} (d : D) (x y : M α) : M α := match d with
  | .bl b => if b = true then x else y
  | _ => .no
theorem iteD_bl {α : Type} (b : Bool) (x y : M α) : iteD (.bl b) x y = if b = true then x else y := nr rfl
theorem ite_okn (p : Prop) [Decidable p] (a b : List Sl) : (if p then M.ok (O.nx a) else M.ok (O.nx b)) = M.ok (O.nx (if p then a else b)) := by split <;> rfl
theorem ite_okr (p : Prop) [Decidable p] (a b : D) : (if p then M.ok (O.rt a) else M.ok (O.rt b)) = M.ok (O.rt (if p then a else b)) := by split <;> rfl
theorem ite_oki (p : Prop) [Decidable p] (a b : Int) : (if p then M.ok (D.int a) else M.ok (D.int b)) = M.ok (D.int (if p then a else b)) := by split <;> rfl
theorem ite_okd (p : Prop) [Decidable p] (a b : D) : (if p then M.ok a else M.ok b) = M.ok (if p then a else b) := by split <;> rfl
theorem ite_cons {α : Type} (p : Prop) [Decidable p] (x y : α) (xs ys : List α) : (if p then x :: xs else y :: ys) = (if p then x else y) :: (if p then xs else ys) := by split <;> rfl
theorem ite_sh (p : Prop) [Decidable p] (a b : D) : (if p then Sl.sh a else Sl.sh b) = Sl.sh (if p then a else b) := by split <;> rfl
theorem ite_ow (p : Prop) [Decidable p] (a b : List D) : (if p then Sl.ow a else Sl.ow b) = Sl.ow (if p then a else b) := by split <;> rfl
theorem ite_int (p : Prop) [Decidable p] (a b : Int) : (if p then D.int a else D.int b) = D.int (if p then a else b) := by split <;> rfl
theorem ite_bl (p : Prop) [Decidable p] (a b : Bool) : (if p then D.bl a else D.bl b) = D.bl (if p then a else b) := by split <;> rfl
theorem ite_tup (p : Prop) [Decidable p] (a b : List D) : (if p then D.tup a else D.tup b) = D.tup (if p then a else b) := by split <;> rfl
theorem and_bl (p q : Bool) : (if p = true then M.ok (D.bl q) else M.ok (D.bl false)) = M.ok (D.bl (p && q)) := by cases p <;> rfl
theorem or_bl (p q : Bool) : (if p = true then M.ok (D.bl true) else M.ok (D.bl q)) = M.ok (D.bl (p || q)) := by cases p <;> rfl
theorem and_blp (p : Prop) [Decidable p] (q : Bool) : (if p then M.ok (D.bl q) else M.ok (D.bl false)) = M.ok (D.bl (decide p && q)) := by split <;> simp_all
theorem nand_blp (p : Prop) [Decidable p] (q : Bool) : (if p then M.ok (D.bl false) else M.ok (D.bl q)) = M.ok (D.bl (!decide p && q)) := by split <;> simp_all
theorem nor_blp (p : Prop) [Decidable p] (q : Bool) : (if p then M.ok (D.bl q) else M.ok (D.bl true)) = M.ok (D.bl (!decide p || q)) := by split <;> simp_all
theorem or_blp (p : Prop) [Decidable p] (q : Bool) : (if p then M.ok (D.bl true) else M.ok (D.bl q)) = M.ok (D.bl (decide p || q)) := by split <;> simp_all
/-! ### expressions -/
section
variable {F : Fs} {fr : Bool} {ρ : List Sl}
theorem ev_var (i : Nat) : evE F (.var i) ρ = slV (getS ρ i) := getV_eq ρ i
theorem ev_bor (i : Nat) : evE F (.bor i) ρ = slB (getS ρ i) := getB_eq ρ i
theorem ev_con (d : D) : evE F (.con d) ρ = .ok d := nr rfl
theorem ev_glb (d : D) : evE F (.glb d) ρ = .ok d := nr rfl
theorem ev_bin (op : Bop) (a b : Ex) : evE F (.bin op a b) ρ = (evE F a ρ).bind fun x => (evE F b ρ).bind fun y => binD op x y := nr rfl
def negD : D → M D
  | .int i => .ok (.int (-i))
  | _ => .no
theorem ev_neg (a : Ex) : evE F (.neg a) ρ = (evE F a ρ).bind negD := nr rfl
theorem negD_int (i : Int) : negD (.int i) = .ok (.int (-i)) := nr rfl
def notD : D → M D
  | .bl b => .ok (.bl (!b))
  | _ => .no
theorem ev_nt (a : Ex) : evE F (.nt a) ρ = (evE F a ρ).bind notD := nr rfl
theorem notD_bl (b : Bool) : notD (.bl b) = .ok (.bl (!b)) := nr rfl
theorem ev_cmp (op : Cop) (a b : Ex) : evE F (.cmp op a b) ρ = (evE F a ρ).bind fun x => (evE F b ρ).bind fun y => cmpD op x y := nr rfl
theorem iteD_and (x : D) (m : M D) : (match x with | .bl true => m | .bl false => .ok (.bl false) | _ => .no) = iteD x m (.ok (.bl false)) := by
  cases x <;> first | rfl | skip
  rename_i b
  cases b <;> rfl
theorem ev_chain (o p : Cop) (a b c : Ex) : evE F (.chain o p a b c) ρ = (evE F a ρ).bind fun x => (evE F b ρ).bind fun y => (cmpD o x y).bind fun r => iteD r ((evE F c ρ).bind fun z => cmpD p y z) (.ok (.bl false)) := by
  rw [evE]
  congr 1; funext x; congr 1; funext y; congr 1; funext r
  exact iteD_and r _
theorem ev_and (a b : Ex) : evE F (.and a b) ρ = (evE F a ρ).bind fun x => iteD x (evE F b ρ) (.ok (.bl false)) := by
  rw [evE]; congr 1; funext x; exact iteD_and x _
theorem ev_or (a b : Ex) : evE F (.or a b) ρ = (evE F a ρ).bind fun x => iteD x (.ok (.bl true)) (evE F b ρ) := by
  rw [evE]; congr 1; funext x
  cases x <;> first | rfl | skip
  rename_i b
  cases b <;> rfl
theorem ev_ite (c a b : Ex) : evE F (.ite c a b) ρ = (evE F c ρ).bind fun x => iteD x (evE F a ρ) (evE F b ρ) := by
  rw [evE]; congr 1; funext x
  cases x <;> first | rfl | skip
  rename_i b
  cases b <;> rfl
theorem ev_tup (es : List Ex) : evE F (.tup es) ρ = (evL F es ρ).bind fun ds => .ok (.tup ds) := nr rfl
theorem ev_lst (es : List Ex) : evE F (.lst es) ρ = (evL F es ρ).bind fun ds => .ok (.lst ds) := nr rfl
theorem ev_idx (a b : Ex) : evE F (.idx a b) ρ = (evE F a ρ).bind fun x => (evE F b ρ).bind fun y => idxD x y := nr rfl
theorem ev_rvs (l : Bool) (a : Ex) : evE F (.rvs l a) ρ = (evE F a ρ).bind fun x => rvsD l x := by rw [evE]
theorem ev_slc (a : Ex) (lo hi : Option Ex) : evE F (.slc a lo hi) ρ = (evE F a ρ).bind fun x => (evO F lo ρ).bind fun l => (evO F hi ρ).bind fun h => slcD x l h := nr rfl
theorem ev_bi (b : Bi) (es : List Ex) : evE F (.bi b es) ρ = (evL F es ρ).bind fun ds => biD b ds := nr rfl
theorem ev_isi (a : Ex) (t : Ty) : evE F (.isi a t) ρ = (evE F a ρ).bind fun x => gd (noIns x) (.bl (tyD t x)) := nr rfl
def isBorE : Ex → Bool
  | .bor _ => true
  | _ => false
theorem lends_nil : lends [] = false := nr rfl
theorem lent_false (m : M D) : lent false m = m := by
  cases m <;> rfl
theorem lent_true (d : D) : lent true (.ok d) = gd (noLst d) d := nr rfl
theorem ev_call (f : Nat) (es : List Ex) (dfl : List D) : evE F (.call f es dfl) ρ = (evL F es ρ).bind fun ds => lent (lends es) (F f (ds ++ dfl)) := nr rfl
theorem ev_nil : evL F [] ρ = .ok [] := nr rfl
theorem ev_cons (e : Ex) (es : List Ex) : evL F (e :: es) ρ = (evE F e ρ).bind fun d => (evL F es ρ).bind fun ds => .ok (d :: ds) := nr rfl
theorem ev_none : evO F none ρ = .ok none := nr rfl
def intD : D → M (Option Int)
  | .int i => .ok (some i)
  | _ => .no
theorem ev_some (e : Ex) : evO F (some e) ρ = (evE F e ρ).bind intD := nr rfl
theorem intD_int (i : Int) : intD (.int i) = .ok (some i) := nr rfl
/-- a comprehension's turn -/
def cmpT (F : Fs) (ρ : List Sl) (tg : List Nat) (cond : Option Ex) (elt : Ex) (d : D) : M (Option D) := (tgD (wipeD ρ tg) tg d).bind fun ρ' => match cond with
  | none => (evE F elt ρ').bind fun y => .ok (some y)
  | some c => (evE F c ρ').bind fun b => iteD b ((evE F elt ρ').bind fun y => .ok (some y)) (.ok none)
theorem evE_comp (elt : Ex) (tg : List Nat) (k : Ik) (es : List Ex) (cond : Option Ex) : evE F (.comp elt tg k es cond) ρ = ((evL F es ρ).bind fun ds => itD k ds).bind fun its => (gd (fits its.length) its).bind fun its => (compD (cmpT F ρ tg cond elt) its).bind fun r => .ok (.lst r) := by
  rw [evE]
  congr 1; funext its; congr 1; funext its; congr 2; funext d
  unfold cmpT
  congr 1; funext ρ'
  cases cond with
  | none => rfl
  | some c =>
    show M.bind _ _ = M.bind _ _
    congr 1; funext b
    cases b <;> first | rfl | skip
    rename_i b
    cases b <;> rfl
theorem cmpT_none (tg : List Nat) (elt : Ex) (d : D) : cmpT F ρ tg none elt d = (tgD (wipeD ρ tg) tg d).bind fun ρ' => (evE F elt ρ').bind fun y => .ok (some y) := nr rfl
theorem cmpT_some (tg : List Nat) (c elt : Ex) (d : D) : cmpT F ρ tg (some c) elt d = (tgD (wipeD ρ tg) tg d).bind fun ρ' => (evE F c ρ').bind fun b => iteD b ((evE F elt ρ').bind fun y => .ok (some y)) (.ok none) := nr rfl
end
/-! ### comprehensions -/
def compA {α : Type} (f : α → M (Option D)) (l : List α) : M (List D) := match l with
  | [] => .ok []
  | x :: xs => match f x with
    | .ok (some y) => (compA f xs).bind fun ys => .ok (y :: ys)
    | .ok none => compA f xs
    | _ => .no
theorem compD_map {α : Type} (f : D → M (Option D)) (enc : α → D) : ∀ l : List α, compD f (l.map enc) = compA (fun x => f (enc x)) l
  | [] => rfl
  | x :: xs => by
    rw [List.map_cons, compD, compA, compD_map f enc xs]
    try (rcases f (enc x) with _ | (_ | y) | _ <;> rfl)
theorem compD_A (f : D → M (Option D)) (l : List D) : compD f l = compA f l := by
  have := compD_map f id l
  rwa [List.map_id] at this
def cmpC (o : M (Option D)) (r : M (List D)) : M (List D) := match o with
  | .ok (some y) => r.bind fun ys => .ok (y :: ys)
  | .ok none => r
  | _ => .no
theorem compA_nil {α : Type} (f : α → M (Option D)) : compA f [] = .ok [] := nr rfl
theorem compA_cons {α : Type} (f : α → M (Option D)) (x : α) (xs : List α) : compA f (x :: xs) = cmpC (f x) (compA f xs) := nr rfl
theorem cmpC_some (y : D) (r : M (List D)) : cmpC (.ok (some y)) r = r.bind fun ys => .ok (y :: ys) := nr rfl
theorem cmpC_none (r : M (List D)) : cmpC (.ok none) r = r := nr rfl
theorem compA_mem {α : Type} {f : α → M (Option D)} {G : α → D} : ∀ {l : List α}, (∀ x ∈ l, f x = .ok (some (G x))) → compA f l = .ok (l.map G)
  | [], _ => rfl
  | x :: xs, h => by
    rw [compA_cons, h x List.mem_cons_self, compA_mem (fun y hy => h y (List.mem_cons_of_mem _ hy))]
    rfl
theorem compA_ok {α : Type} (G : α → D) (l : List α) : compA (fun x => .ok (some (G x))) l = .ok (l.map G) := compA_mem fun _ _ => rfl
theorem compA_memF {α : Type} {f : α → M (Option D)} {G : α → D} {p : α → Bool} : ∀ {l : List α}, (∀ x ∈ l, f x = if p x = true then .ok (some (G x)) else .ok none) → compA f l = .ok ((l.filter p).map G)
  | [], _ => rfl
  | x :: xs, h => by
    rw [compA_cons, h x List.mem_cons_self, compA_memF (fun y hy => h y (List.mem_cons_of_mem _ hy)), List.filter_cons]
    cases p x <;> rfl
theorem compA_if {α : Type} (p : α → Bool) (G : α → D) (l : List α) : compA (fun x => if p x = true then .ok (some (G x)) else .ok none) l = .ok ((l.filter p).map G) := compA_memF fun _ _ => rfl
theorem compA_int {α : Type} (G : α → Int) (l : List α) : compA (fun x => .ok (some (.int (G x)))) l = .ok ((l.map G).map D.int) := by rw [compA_ok, List.map_map]; rfl
/-! ### statements -/
section
variable {F : Fs} {fr : Bool} {ρ : List Sl}
/-- what follows a statement -/
def goB (F : Fs) (fr : Bool) (m : M O) (ss : List Sx) : M O := m.bind fun o => match o with
  | .nx ρ => exB F fr ss ρ
  | .bk ρ => .ok (.bk ρ)
  | .ct ρ => .ok (.ct ρ)
  | .rt d => .ok (.rt d)
theorem goB_nx (ρ : List Sl) (ss : List Sx) : goB F fr (.ok (.nx ρ)) ss = exB F fr ss ρ := nr rfl
theorem goB_bk (ρ : List Sl) (ss : List Sx) : goB F fr (.ok (.bk ρ)) ss = .ok (.bk ρ) := nr rfl
theorem goB_ct (ρ : List Sl) (ss : List Sx) : goB F fr (.ok (.ct ρ)) ss = .ok (.ct ρ) := nr rfl
theorem goB_rt (d : D) (ss : List Sx) : goB F fr (.ok (.rt d)) ss = .ok (.rt d) := nr rfl
theorem goB_ex (c : Nat) (ss : List Sx) : goB F fr (.ex c) ss = .ex c := nr rfl
theorem goB_ite (p : Prop) [Decidable p] (x y : M O) (ss : List Sx) : goB F fr (if p then x else y) ss = if p then goB F fr x ss else goB F fr y ss := by split <;> rfl
theorem xB_nil : exB F fr [] ρ = .ok (.nx ρ) := nr rfl
theorem xB_cons (s : Sx) (ss : List Sx) : exB F fr (s :: ss) ρ = goB F fr (exS F fr s ρ) ss := by
  rw [exB]; unfold goB; congr 1
theorem xB_app : ∀ (a b : List Sx) (ρ : List Sl), exB F fr (a ++ b) ρ = goB F fr (exB F fr a ρ) b
  | [], b, ρ => nr rfl
  | s :: ss, b, ρ => by
    rw [List.cons_append, xB_cons, xB_cons]
    rcases exS F fr s ρ with _ | o | c
    · rfl
    · cases o with
      | nx ρ' => rw [goB_nx, goB_nx]; exact xB_app ss b ρ'
      | bk ρ' => rfl
      | ct ρ' => rfl
      | rt d => rfl
    · rfl
def seg (b : List Sx) (i k : Nat) : List Sx := (b.drop i).take k
theorem seg_eq (b : List Sx) (i k : Nat) : seg b i k = (b.drop i).take k := nr rfl
/-- the next k statements by themselves -/
theorem xB_seg (b : List Sx) (i k : Nat) : exB F fr (b.drop i) ρ = goB F fr (exB F fr (seg b i k) ρ) (b.drop (i + k)) := by
  rw [← xB_app, seg_eq, ← List.drop_drop, List.take_append_drop]
theorem xB_seg0 (b : List Sx) (k : Nat) : exB F fr b ρ = goB F fr (exB F fr (seg b 0 k) ρ) (b.drop k) := by
  have := xB_seg (F := F) (fr := fr) (ρ := ρ) b 0 k
  rwa [Nat.zero_add] at this
def getX : List Sx → Nat → Sx
  | [], _ => .pas
  | x :: _, 0 => x
  | _ :: xs, n + 1 => getX xs n
theorem getX_0 (x : Sx) (xs : List Sx) : getX (x :: xs) 0 = x := nr rfl
theorem getX_s (x : Sx) (xs : List Sx) (n : Nat) : getX (x :: xs) (n + 1) = getX xs n := nr rfl
def bodyOf : Sx → List Sx
  | .for_ _ _ _ b => b
  | .while_ _ _ b => b
  | _ => []
theorem bodyOf_for (tg : List Nat) (k : Ik) (es : List Ex) (b : List Sx) : bodyOf (.for_ tg k es b) = b := nr rfl
theorem bodyOf_while (n : Nat) (c : Ex) (b : List Sx) : bodyOf (.while_ n c b) = b := nr rfl
/-- the body of the loop at a place -/
def loopB (b : List Sx) (i : Nat) : List Sx := bodyOf (getX b i)
theorem loopB_eq (b : List Sx) (i : Nat) : loopB b i = bodyOf (getX b i) := nr rfl
def condOf : Sx → Ex
  | .while_ _ c _ => c
  | .ite c _ _ => c
  | _ => .con .non
theorem condOf_while (n : Nat) (c : Ex) (b : List Sx) : condOf (.while_ n c b) = c := nr rfl
def thenOf : Sx → List Sx
  | .ite _ a _ => a
  | _ => []
def elseOf : Sx → List Sx
  | .ite _ _ b => b
  | _ => []
theorem thenOf_ite (c : Ex) (a b : List Sx) : thenOf (.ite c a b) = a := nr rfl
theorem elseOf_ite (c : Ex) (a b : List Sx) : elseOf (.ite c a b) = b := nr rfl
theorem x_asg (i : Nat) (e : Ex) : exS F fr (.asg i e) ρ = (evE F e ρ).bind fun d => .ok (.nx (setS ρ i (.sh d))) := by
  rw [exS]; congr 1; funext d; rw [setV_eq]
def ownD (ρ : List Sl) (i : Nat) : D → M O
  | .lst ds => .ok (.nx (setS ρ i (.ow ds)))
  | _ => .no
theorem ownD_lst (i : Nat) (ds : List D) : ownD ρ i (.lst ds) = .ok (.nx (setS ρ i (.ow ds))) := nr rfl
theorem x_own (i : Nat) (e : Ex) : exS F fr (.own i e) ρ = (evE F e ρ).bind (ownD ρ i) := by
  rw [exS]; congr 1; funext d
  cases d <;> first | rfl | skip
  rename_i ds; show M.ok (O.nx (ρ.set i _)) = M.ok (O.nx (setS ρ i _)); rw [setS_eq]
theorem x_unp (is : List Nat) (e : Ex) : exS F fr (.unp is e) ρ = (evE F e ρ).bind fun d => (tgD ρ is d).bind fun ρ' => .ok (.nx ρ') := nr rfl
theorem x_aug (i : Nat) (op : Bop) (e : Ex) : exS F fr (.aug i op e) ρ = (slV (getS ρ i)).bind fun x => (evE F e ρ).bind fun y => (augD op x y).bind fun d => .ok (.nx (setS ρ i (.sh d))) := by
  rw [exS, getV_eq]; congr 1; funext x; congr 1; funext y; congr 1; funext d; rw [setV_eq]
def putD (ρ : List Sl) (i : Nat) (ds : List D) (d : D) : D → M O
  | .int k => match L2.ixN ds.length k with
    | some j => .ok (.nx (setS ρ i (.ow (ds.set j d))))
    | none => .no
  | _ => .no
theorem x_put (i : Nat) (ix e : Ex) : exS F fr (.put i ix e) ρ = (evE F e ρ).bind fun d => (slO (getS ρ i)).bind fun ds => (evE F ix ρ).bind fun k => putD ρ i ds d k := by
  rw [exS]; congr 1; funext d; rw [getO_eq]; congr 1; funext ds; congr 1; funext k
  cases k <;> first | rfl | skip
  rename_i k
  show (match L2.ixN ds.length k with | some j => M.ok (O.nx (ρ.set i (.ow (ds.set j d)))) | none => .no) = (match L2.ixN ds.length k with | some j => M.ok (O.nx (setS ρ i (.ow (ds.set j d)))) | none => .no)
  cases L2.ixN ds.length k with
  | none => rfl
  | some j => show M.ok (O.nx (ρ.set i _)) = M.ok (O.nx (setS ρ i _)); rw [setS_eq]
theorem x_app (i : Nat) (e : Ex) : exS F fr (.app i e) ρ = (slO (getS ρ i)).bind fun ds => (evE F e ρ).bind fun d => gd (decide (ds.length < PySem.sizeLine)) (.nx (setS ρ i (.ow (ds ++ [d])))) := by
  rw [exS, getO_eq]; congr 1; funext ds; congr 1; funext d; rw [setS_eq]
theorem x_ext (i : Nat) (e : Ex) : exS F fr (.ext i e) ρ = (slO (getS ρ i)).bind fun ds => (evE F e ρ).bind fun d => match seqOf d with
    | some es => gd (fits (ds.length + es.length)) (.nx (setS ρ i (.ow (ds ++ es))))
    | none => .no := by
  rw [exS, getO_eq]; congr 1; funext ds; congr 1; funext d
  cases seqOf d with
  | none => rfl
  | some es => show gd _ (O.nx (ρ.set i _)) = _; rw [setS_eq]
def popM (ρ : List Sl) (is : List Nat) (i : Nat) (ds : List D) : M O := match ds[ds.length - 1]? with
  | some d => (tgD (setS ρ i (.ow ds.dropLast)) is d).bind fun ρ' => .ok (.nx ρ')
  | none => .no
theorem x_pop (is : List Nat) (i : Nat) : exS F fr (.pop is i) ρ = (slO (getS ρ i)).bind (popM ρ is i) := by
  rw [exS, getO_eq]; congr 1; funext ds
  unfold popM
  cases ds[ds.length - 1]? with
  | none => rfl
  | some d => show M.bind (tgD (ρ.set i _) is d) _ = _; rw [setS_eq]
theorem popM_app (is : List Nat) (i : Nat) (xs : List D) (x : D) : popM ρ is i (xs ++ [x]) = (tgD (setS ρ i (.ow xs)) is x).bind fun ρ' => .ok (.nx ρ') := by
  unfold popM
  rw [List.length_append, List.length_singleton, Nat.add_sub_cancel, List.getElem?_concat_length, List.dropLast_concat]
theorem popM_one (is : List Nat) (i : Nat) (x : D) : popM ρ is i [x] = (tgD (setS ρ i (.ow [])) is x).bind fun ρ' => .ok (.nx ρ') := popM_app is i [] x
theorem x_ite (c : Ex) (a b : List Sx) : exS F fr (.ite c a b) ρ = (evE F c ρ).bind fun d => iteD d (exB F fr a ρ) (exB F fr b ρ) := by
  rw [exS]; congr 1; funext x
  cases x <;> first | rfl | skip
  rename_i b
  cases b <;> rfl
def forT (F : Fs) (fr : Bool) (tg : List Nat) (body : List Sx) (d : D) (ρ : List Sl) : M O := (tgD ρ tg d).bind fun ρ' => exB F fr body ρ'
theorem x_for (tg : List Nat) (k : Ik) (es : List Ex) (body : List Sx) : exS F fr (.for_ tg k es body) ρ = ((evL F es ρ).bind fun ds => itD k ds).bind fun its => forD (forT F fr tg body) its ρ := nr rfl
theorem forT_eq (tg : List Nat) (body : List Sx) (d : D) : forT F fr tg body d ρ = (tgD ρ tg d).bind fun ρ' => exB F fr body ρ' := nr rfl
theorem x_while (fuel : Nat) (c : Ex) (body : List Sx) : exS F fr (.while_ fuel c body) ρ = whlD (evE F c) (exB F fr body) fuel ρ := nr rfl
def retD (fr : Bool) (d : D) : M O := gd (!fr || !isLst d) (.rt d)
theorem x_ret (e : Ex) : exS F fr (.ret e) ρ = (evE F e ρ).bind fun d => retD fr d := nr rfl
theorem ret_false (d : D) : retD false d = .ok (.rt d) := nr rfl
theorem ret_int (fr : Bool) (i : Int) : retD fr (.int i) = .ok (.rt (.int i)) := by cases fr <;> rfl
theorem ret_bl (fr : Bool) (i : Bool) : retD fr (.bl i) = .ok (.rt (.bl i)) := by cases fr <;> rfl
theorem ret_non (fr : Bool) : retD fr .non = .ok (.rt .non) := by cases fr <;> rfl
theorem ret_tup (fr : Bool) (ds : List D) : retD fr (.tup ds) = .ok (.rt (.tup ds)) := by cases fr <;> rfl
theorem x_retR (e : Ex) : exS F fr (.retR e) ρ = (evE F e ρ).bind fun d => .ok (.rt d) := nr rfl
theorem x_retN : exS F fr .retN ρ = .ok (.rt .non) := nr rfl
theorem x_brk : exS F fr .brk ρ = .ok (.bk ρ) := nr rfl
theorem x_cnt : exS F fr .cnt ρ = .ok (.ct ρ) := nr rfl
theorem x_pas : exS F fr .pas ρ = .ok (.nx ρ) := nr rfl
theorem x_frz (i : Nat) : exS F fr (.frz i) ρ = .ok (.nx (setS ρ i (frS (getS ρ i)))) := by rw [exS, frz_eq]
theorem x_del (is : List Nat) : exS F fr (.del is) ρ = .ok (.nx (wipeD ρ is)) := nr rfl
/-- how a call ends -/
def endD : M O → M D
  | .ok (.rt r) => .ok r
  | .ok (.nx _) => .ok .non
  | .ex c => .ex c
  | _ => .no
theorem endD_rt (d : D) : endD (.ok (.rt d)) = .ok d := nr rfl
theorem endD_nx (ρ : List Sl) : endD (.ok (.nx ρ)) = .ok .non := nr rfl
theorem endD_ex (c : Nat) : endD (.ex c) = .ex c := nr rfl
theorem endD_ite (p : Prop) [Decidable p] (x y : M O) : endD (if p then x else y) = if p then endD x else endD y := by split <;> rfl
def iniS : Nat → List D → List Sl
  | 0, _ => []
  | n + 1, [] => .no :: iniS n []
  | n + 1, d :: ds => .sh d :: iniS n ds
theorem iniS_0 (ds : List D) : iniS 0 ds = [] := nr rfl
theorem iniS_n (n : Nat) : iniS (n + 1) [] = .no :: iniS n [] := nr rfl
theorem iniS_c (n : Nat) (d : D) (ds : List D) : iniS (n + 1) (d :: ds) = .sh d :: iniS n ds := nr rfl
theorem iniS_eq : ∀ (nn : Nat) (args : List D), args.length ≤ nn → args.map Sl.sh ++ List.replicate (nn - args.length) .no = iniS nn args
  | 0, [], _ => rfl
  | 0, _ :: _, h => by simp at h
  | n + 1, [], _ => by
    have := iniS_eq n [] (by simp)
    simp only [List.map_nil, List.nil_append, List.length_nil, Nat.sub_zero] at this ⊢
    rw [List.replicate_succ, this]; rfl
  | n + 1, d :: ds, h => by
    have := iniS_eq n ds (by simpa using h)
    rw [List.map_cons, List.cons_append, List.length_cons, Nat.add_sub_add_right, this]; rfl
theorem callN_eq {P : Nat → Option Df} {n i : Nat} {nn : Nat} {fr : Bool} {body : List Sx} (h : P i = some ⟨nn, fr, body⟩) (args : List D) (hl : args.length ≤ nn) : callN P (n + 1) i args = endD (exB (callN P n) fr body (iniS nn args)) := by
  rw [← iniS_eq nn args hl]
  unfold callN
  rw [h]
  show runD _ _ _ = _
  unfold runD endD
  rfl
end
/-! ### loops -/
def iterO (o : O) (k : List Sl → M O) : M O := match o with
  | .nx ρ => k ρ
  | .ct ρ => k ρ
  | .bk ρ => .ok (.nx ρ)
  | .rt d => .ok (.rt d)
theorem forD_nil (f : D → List Sl → M O) (ρ : List Sl) : forD f [] ρ = .ok (.nx ρ) := nr rfl
theorem forD_cons (f : D → List Sl → M O) (x : D) (xs : List D) (ρ : List Sl) : forD f (x :: xs) ρ = (f x ρ).bind fun o => iterO o (forD f xs) := by
  rw [forD]; congr 1
theorem iterO_nx (ρ : List Sl) (k : List Sl → M O) : iterO (.nx ρ) k = k ρ := nr rfl
theorem iterO_ct (ρ : List Sl) (k : List Sl → M O) : iterO (.ct ρ) k = k ρ := nr rfl
theorem iterO_bk (ρ : List Sl) (k : List Sl → M O) : iterO (.bk ρ) k = .ok (.nx ρ) := nr rfl
theorem iterO_rt (d : D) (k : List Sl → M O) : iterO (.rt d) k = .ok (.rt d) := nr rfl
/-- each turn goes on, by an invariant over places: the part ahead, the slots -/
theorem forD_inv {f : D → List Sl → M O} {α : Type} {enc : α → D} (I : List α → List Sl → Prop) : ∀ (xs pre : List α) {ρ : List Sl}, I pre ρ →
    (∀ pre' x post ρ, pre ++ xs = pre' ++ x :: post → I pre' ρ → ∃ ρ', f (enc x) ρ = .ok (.nx ρ') ∧ I (pre' ++ [x]) ρ') → ∃ ρ', forD f (xs.map enc) ρ = .ok (.nx ρ') ∧ I (pre ++ xs) ρ'
  | [], pre, ρ, h0, _ => ⟨ρ, rfl, by rw [List.append_nil]; exact h0⟩
  | x :: xs, pre, ρ, h0, h => by
    obtain ⟨ρ1, e1, h1⟩ := h pre x xs ρ rfl h0
    obtain ⟨ρ2, e2, h2⟩ := forD_inv I xs (pre ++ [x]) h1 fun pre' y post ρ e k => h pre' y post ρ (by rw [← e]; simp) k
    refine ⟨ρ2, ?_, by simpa using h2⟩
    rw [List.map_cons, forD_cons, e1, bind_ok, iterO_nx, e2]
theorem forD_idx {f : D → List Sl → M O} {α : Type} {enc : α → D} (I : Nat → List Sl → Prop) : ∀ (xs : List α) (i : Nat) {ρ : List Sl}, I i ρ →
    (∀ k x ρ, xs[k]? = some x → I (i + k) ρ → ∃ ρ', f (enc x) ρ = .ok (.nx ρ') ∧ I (i + k + 1) ρ') → ∃ ρ', forD f (xs.map enc) ρ = .ok (.nx ρ') ∧ I (i + xs.length) ρ'
  | [], i, ρ, h0, _ => ⟨ρ, rfl, h0⟩
  | x :: xs, i, ρ, h0, h => by
    obtain ⟨ρ1, e1, h1⟩ := h 0 x ρ rfl h0
    obtain ⟨ρ2, e2, h2⟩ := forD_idx I xs (i + 1) h1 fun k y ρ e z => by
      have := h (k + 1) y ρ (by simpa using e) (by rw [show i + (k + 1) = i + 1 + k by omega]; exact z)
      rw [show i + (k + 1) + 1 = i + 1 + k + 1 by omega] at this
      exact this
    refine ⟨ρ2, ?_, by rw [List.length_cons, show i + (xs.length + 1) = i + 1 + xs.length by omega]; exact h2⟩
    rw [List.map_cons, forD_cons, e1, bind_ok, iterO_nx, e2]
/-- a loop over a list: place, item, slots -/
theorem for_list {f : D → List Sl → M O} {α : Type} {enc : α → D} (I : Nat → List Sl → Prop) (xs : List α) {ρ : List Sl} (h0 : I 0 ρ)
    (h : ∀ k x ρ, xs[k]? = some x → I k ρ → ∃ ρ', f (enc x) ρ = .ok (.nx ρ') ∧ I (k + 1) ρ') : ∃ ρ', forD f (xs.map enc) ρ = .ok (.nx ρ') ∧ I xs.length ρ' := by
  have := forD_idx I xs 0 h0 fun k x ρ e z => by
    rw [Nat.zero_add] at z ⊢; exact h k x ρ e z
  rwa [Nat.zero_add] at this
theorem forD_any {f : D → List Sl → M O} {α : Type} {enc : α → D} (I : Nat → List Sl → Prop) (Z : List Sl → Prop) (R : D → Prop) : ∀ (xs : List α) (i : Nat) {ρ : List Sl}, I i ρ →
    (∀ k x ρ, xs[k]? = some x → I (i + k) ρ → (∃ ρ', (f (enc x) ρ = .ok (.nx ρ') ∨ f (enc x) ρ = .ok (.ct ρ')) ∧ I (i + k + 1) ρ') ∨ (∃ ρ', f (enc x) ρ = .ok (.bk ρ') ∧ Z ρ') ∨ ∃ d, f (enc x) ρ = .ok (.rt d) ∧ R d) →
    (∃ ρ', forD f (xs.map enc) ρ = .ok (.nx ρ') ∧ (I (i + xs.length) ρ' ∨ Z ρ')) ∨ ∃ d, forD f (xs.map enc) ρ = .ok (.rt d) ∧ R d
  | [], i, ρ, h0, _ => .inl ⟨ρ, rfl, .inl h0⟩
  | x :: xs, i, ρ, h0, h => by
    rw [List.map_cons, forD_cons]
    rcases h 0 x ρ rfl h0 with ⟨ρ1, e1, h1⟩ | ⟨ρ1, e1, h1⟩ | ⟨d, e1, h1⟩
    · have := forD_any I Z R xs (i + 1) h1 fun k y ρ e z => by
        have := h (k + 1) y ρ (by simpa using e) (by rw [show i + (k + 1) = i + 1 + k by omega]; exact z)
        rw [show i + (k + 1) + 1 = i + 1 + k + 1 by omega] at this
        exact this
      rw [List.length_cons, show i + (xs.length + 1) = i + 1 + xs.length by omega]
      rcases e1 with e1 | e1 <;> rw [e1, bind_ok] <;> exact this
    · exact .inl ⟨ρ1, by rw [e1]; rfl, .inr h1⟩
    · exact .inr ⟨d, by rw [e1]; rfl, h1⟩
/-- a loop over a list that may be left -/
theorem for_list_any {f : D → List Sl → M O} {α : Type} {enc : α → D} (I : Nat → List Sl → Prop) (Z : List Sl → Prop) (R : D → Prop) (xs : List α) {ρ : List Sl} (h0 : I 0 ρ)
    (h : ∀ k x ρ, xs[k]? = some x → I k ρ → (∃ ρ', (f (enc x) ρ = .ok (.nx ρ') ∨ f (enc x) ρ = .ok (.ct ρ')) ∧ I (k + 1) ρ') ∨ (∃ ρ', f (enc x) ρ = .ok (.bk ρ') ∧ Z ρ') ∨ ∃ d, f (enc x) ρ = .ok (.rt d) ∧ R d) :
    (∃ ρ', forD f (xs.map enc) ρ = .ok (.nx ρ') ∧ (I xs.length ρ' ∨ Z ρ')) ∨ ∃ d, forD f (xs.map enc) ρ = .ok (.rt d) ∧ R d := by
  have := forD_any (f := f) (enc := enc) I Z R xs 0 h0 fun k x ρ e z => by
    rw [Nat.zero_add] at z ⊢; exact h k x ρ e z
  rwa [Nat.zero_add] at this
/-- a loop over a range from nought -/
theorem for_rng {f : D → List Sl → M O} {g : Nat → D} (I : Nat → List Sl → Prop) (m : Nat) {ρ : List Sl} (h0 : I 0 ρ)
    (h : ∀ k ρ, k < m → I k ρ → ∃ ρ', f (g k) ρ = .ok (.nx ρ') ∧ I (k + 1) ρ') : ∃ ρ', forD f ((List.range m).map g) ρ = .ok (.nx ρ') ∧ I m ρ' := by
  have := for_list (f := f) (enc := g) I (List.range m) h0 fun k x ρ e z => by
    have hk : k < m := by
      by_cases q : k < m
      · exact q
      · rw [List.getElem?_eq_none (by simp; omega)] at e; cases e
    rw [List.getElem?_range hk] at e
    cases e
    exact h _ ρ hk z
  rwa [List.length_range] at this
/-- each turn makes a step of a state -/
theorem forD_fold {f : D → List Sl → M O} {α σ : Type} {enc : α → D} (env : σ → List Sl) (step : σ → α → σ) : ∀ (xs : List α) (s : σ), (∀ x ∈ xs, ∀ s, f (enc x) (env s) = .ok (.nx (env (step s x)))) → forD f (xs.map enc) (env s) = .ok (.nx (env (xs.foldl step s)))
  | [], s, _ => rfl
  | x :: xs, s, h => by
    rw [List.map_cons, forD_cons, h x List.mem_cons_self s, bind_ok, iterO_nx, forD_fold env step xs (step s x) (fun y hy s => h y (List.mem_cons_of_mem _ hy) s)]
    rfl
/-- a loop that keeps its slots, by turns that go on -/
theorem forD_all {f : D → List Sl → M O} {α : Type} {enc : α → D} {ρ : List Sl} : ∀ (xs : List α), (∀ x ∈ xs, f (enc x) ρ = .ok (.nx ρ)) → forD f (xs.map enc) ρ = .ok (.nx ρ)
  | [], _ => rfl
  | x :: xs, h => by
    rw [List.map_cons, forD_cons, h x List.mem_cons_self, bind_ok, iterO_nx, forD_all xs (fun y hy => h y (List.mem_cons_of_mem _ hy))]
/-- a loop that looks for the first item that ends it -/
theorem forD_find {f : D → List Sl → M O} {α : Type} {enc : α → D} {ρ : List Sl} {p : α → Bool} {r : D} : ∀ (xs : List α), (∀ x ∈ xs, f (enc x) ρ = if p x = true then .ok (.rt r) else .ok (.nx ρ)) → forD f (xs.map enc) ρ = if xs.any p = true then .ok (.rt r) else .ok (.nx ρ)
  | [], _ => rfl
  | x :: xs, h => by
    rw [List.map_cons, forD_cons, h x List.mem_cons_self, bind_ite, bind_ok, bind_ok, iterO_rt, iterO_nx, forD_find xs (fun y hy => h y (List.mem_cons_of_mem _ hy)), List.any_cons]
    cases p x <;> simp
theorem whl_0 (c : List Sl → M D) (f : List Sl → M O) (ρ : List Sl) : whlD c f 0 ρ = .no := nr rfl
theorem whl_s (c : List Sl → M D) (f : List Sl → M O) (n : Nat) (ρ : List Sl) : whlD c f (n + 1) ρ = (c ρ).bind fun b => iteD b ((f ρ).bind fun o => iterO o (whlD c f n)) (.ok (.nx ρ)) := by
  rw [whlD]; congr 1; funext b
  cases b <;> first | rfl | skip
  rename_i b
  cases b <;> rfl
/-- a while, by an invariant and a number that falls -/
theorem whl_inv {c : List Sl → M D} {f : List Sl → M O} (I : Nat → List Sl → Prop) {Z : List Sl → Prop} : ∀ (n m : Nat) {ρ : List Sl}, m < n → I m ρ →
    (∀ m ρ, I m ρ → (c ρ = .ok (.bl false) ∧ Z ρ) ∨ (c ρ = .ok (.bl true) ∧ ∃ m' ρ', m' < m ∧ (f ρ = .ok (.nx ρ') ∨ f ρ = .ok (.ct ρ')) ∧ I m' ρ') ∨ (c ρ = .ok (.bl true) ∧ ∃ ρ', f ρ = .ok (.bk ρ') ∧ Z ρ')) → ∃ ρ', whlD c f n ρ = .ok (.nx ρ') ∧ Z ρ'
  | 0, m, ρ, hm, _, _ => by omega
  | n + 1, m, ρ, hm, h0, h => by
    rw [whl_s]
    rcases h m ρ h0 with ⟨e, z⟩ | ⟨e, m', ρ', hlt, e2, h1⟩ | ⟨e, ρ', e2, z⟩
    · exact ⟨ρ, by rw [e]; rfl, z⟩
    · obtain ⟨ρ2, e3, z⟩ := whl_inv I n m' (by omega) h1 h
      refine ⟨ρ2, ?_, z⟩
      rw [e, bind_ok, iteD_bl, if_pos rfl]
      rcases e2 with e2 | e2 <;> rw [e2, bind_ok] <;> exact e3
    · exact ⟨ρ', by rw [e, bind_ok, iteD_bl, if_pos rfl, e2]; rfl, z⟩
/-! ### operations -/
theorem b_add (i j : Int) : binD .add (.int i) (.int j) = .ok (.int (i + j)) := nr rfl
theorem b_sub (i j : Int) : binD .sub (.int i) (.int j) = .ok (.int (i - j)) := nr rfl
theorem b_mul (i j : Int) : binD .mul (.int i) (.int j) = gd (mulOk i j) (.int (i * j)) := nr rfl
theorem b_addT (xs ys : List D) : binD .add (.tup xs) (.tup ys) = gd (fits (xs.length + ys.length)) (.tup (xs ++ ys)) := nr rfl
theorem b_addL (xs ys : List D) : binD .add (.lst xs) (.lst ys) = gd (fits (xs.length + ys.length)) (.lst (xs ++ ys)) := nr rfl
theorem b_rep (xs : List D) (j : Int) : binD .rep (.lst xs) (.int j) = gd (decide (j < 2 ^ 40) && decide (-(2 ^ 40) < j) && fits (xs.length * j.toNat)) (.lst (List.replicate j.toNat xs).flatten) := nr rfl
theorem b_div (i j : Int) : binD .div (.int i) (.int j) = gd (divOk j) (.int (i.fdiv j)) := nr rfl
theorem b_mod (i j : Int) : binD .mod (.int i) (.int j) = gd (!decide (j = 0)) (.int (i.fmod j)) := nr rfl
theorem b_pow (i j : Int) : binD .pow (.int i) (.int j) = gd (powOk i j) (.int (i ^ j.toNat)) := nr rfl
theorem b_shl (i j : Int) : binD .shl (.int i) (.int j) = gd (shlOk i j) (.int (i * 2 ^ j.toNat)) := nr rfl
theorem b_shr (i j : Int) : binD .shr (.int i) (.int j) = gd (decide (0 ≤ j)) (.int (i / 2 ^ j.toNat)) := nr rfl
theorem b_band (i j : Int) : binD .band (.int i) (.int j) = .ok (.int (Builtin.bitAnd i j)) := nr rfl
theorem b_bor (i j : Int) : binD .bor (.int i) (.int j) = .ok (.int (Builtin.bitOr i j)) := nr rfl
theorem b_bxor (i j : Int) : binD .bxor (.int i) (.int j) = .ok (.int (Builtin.bitXor i j)) := nr rfl
theorem a_add (i j : Int) : augD .add (.int i) (.int j) = .ok (.int (i + j)) := nr rfl
theorem a_sub (i j : Int) : augD .sub (.int i) (.int j) = .ok (.int (i - j)) := nr rfl
theorem c_lt (i j : Int) : cmpD .lt (.int i) (.int j) = .ok (.bl (decide (i < j))) := nr rfl
theorem c_le (i j : Int) : cmpD .le (.int i) (.int j) = .ok (.bl (decide (i ≤ j))) := nr rfl
theorem c_gt (i j : Int) : cmpD .gt (.int i) (.int j) = .ok (.bl (decide (j < i))) := nr rfl
theorem c_ge (i j : Int) : cmpD .ge (.int i) (.int j) = .ok (.bl (decide (j ≤ i))) := nr rfl
theorem c_eq (a b : D) : cmpD .eq a b = gd (plainD 60 a && plainD 60 b) (.bl (eqD a b)) := nr rfl
theorem c_ne (a b : D) : cmpD .ne a b = gd (plainD 60 a && plainD 60 b) (.bl (!eqD a b)) := nr rfl
theorem c_eqi (i j : Int) : cmpD .eq (.int i) (.int j) = .ok (.bl (decide (i = j))) := nr rfl
theorem c_nei (i j : Int) : cmpD .ne (.int i) (.int j) = .ok (.bl (!decide (i = j))) := nr rfl
theorem c_eqb (i j : Bool) : cmpD .eq (.bl i) (.bl j) = .ok (.bl (i == j)) := nr (by cases i <;> cases j <;> rfl)
theorem c_neb (i j : Bool) : cmpD .ne (.bl i) (.bl j) = .ok (.bl (!(i == j))) := nr (by cases i <;> cases j <;> rfl)
theorem c_isn (a : D) : cmpD .isn a .non = .ok (.bl (isNon a)) := by cases a <;> rfl
theorem c_nisn (a : D) : cmpD .nisn a .non = .ok (.bl (!isNon a)) := by cases a <;> rfl
theorem c_isb (a b : Bool) : cmpD .isb (.bl a) (.bl b) = .ok (.bl (decide (a = b))) := nr rfl
theorem c_nisb (a b : Bool) : cmpD .nisb (.bl a) (.bl b) = .ok (.bl (!decide (a = b))) := nr rfl
theorem isNon_non : isNon .non = true := nr rfl
theorem isNon_int (i : Int) : isNon (.int i) = false := nr rfl
theorem isNon_tup (i : List D) : isNon (.tup i) = false := nr rfl
theorem isNon_lst (i : List D) : isNon (.lst i) = false := nr rfl
def idxO {α : Type} (o : Option α) : M α := match o with
  | some d => .ok d
  | none => .no
theorem x_idxT (xs : List D) (i : Int) : idxD (.tup xs) (.int i) = idxO (L2.atI xs i) := by
  show (match L2.atI xs i with | some d => M.ok d | none => M.no) = _
  cases L2.atI xs i <;> rfl
theorem x_idxL (xs : List D) (i : Int) : idxD (.lst xs) (.int i) = idxO (L2.atI xs i) := by
  show (match L2.atI xs i with | some d => M.ok d | none => M.no) = _
  cases L2.atI xs i <;> rfl
theorem idxO_some {α : Type} (d : α) : idxO (some d) = .ok d := nr rfl
theorem at_0 {α : Type} (x : α) (xs : List α) : L2.atI (x :: xs) 0 = some x := by
  unfold L2.atI L2.ixN
  rw [if_pos (by omega), if_pos (by simp only [List.length_cons]; omega)]
  rfl
theorem at_nat {α : Type} {xs : List α} {i : Nat} {x : α} (h : xs[i]? = some x) : L2.atI xs (i : Int) = some x := by
  have hi : i < xs.length := by
    by_cases z : i < xs.length
    · exact z
    · rw [List.getElem?_eq_none (by omega)] at h; cases h
  unfold L2.atI L2.ixN
  rw [if_pos (by omega), if_pos (by omega)]
  show xs[(i : Int).toNat]? = _
  rw [Int.toNat_natCast]; exact h
theorem at_1 {α : Type} (x y : α) (xs : List α) : L2.atI (x :: y :: xs) 1 = some y := at_nat (i := 1) rfl
theorem at_2 {α : Type} (x y z : α) (xs : List α) : L2.atI (x :: y :: z :: xs) 2 = some z := at_nat (i := 2) rfl
theorem at_3 {α : Type} (x y z w : α) (xs : List α) : L2.atI (x :: y :: z :: w :: xs) 3 = some w := at_nat (i := 3) rfl
theorem at_4 {α : Type} (a x y z w : α) (xs : List α) : L2.atI (a :: x :: y :: z :: w :: xs) 4 = some w := at_nat (i := 4) rfl
theorem at_5 {α : Type} (b a x y z w : α) (xs : List α) : L2.atI (b :: a :: x :: y :: z :: w :: xs) 5 = some w := at_nat (i := 5) rfl
theorem at_6 {α : Type} (c b a x y z w : α) (xs : List α) : L2.atI (c :: b :: a :: x :: y :: z :: w :: xs) 6 = some w := at_nat (i := 6) rfl
theorem at_7 {α : Type} (d c b a x y z w : α) (xs : List α) : L2.atI (d :: c :: b :: a :: x :: y :: z :: w :: xs) 7 = some w := at_nat (i := 7) rfl
theorem at_map {α β : Type} (f : α → β) (xs : List α) (i : Int) : L2.atI (xs.map f) i = (L2.atI xs i).map f := by
  unfold L2.atI
  rw [List.length_map]
  cases L2.ixN xs.length i with
  | none => rfl
  | some j => show (xs.map f)[j]? = (xs[j]?).map f; rw [List.getElem?_map]
theorem at_lt {α : Type} {xs : List α} {i : Int} (h0 : 0 ≤ i) (h1 : i < xs.length) : L2.atI xs i = xs[i.toNat]? := by
  unfold L2.atI L2.ixN
  rw [if_pos h0, if_pos h1]; rfl
theorem at_last {α : Type} (xs : List α) (x : α) : L2.atI (xs ++ [x]) (-1) = some x := by
  unfold L2.atI L2.ixN
  rw [if_neg (by omega), if_pos (by simp only [List.length_append, List.length_cons, List.length_nil]; omega)]
  show (xs ++ [x])[_]? = _
  have : ((-1 : Int) + ((xs ++ [x]).length : Nat)).toNat = xs.length := by simp only [List.length_append, List.length_cons, List.length_nil]; omega
  rw [this]; simp
theorem i_lenT (xs : List D) : biD .len [.tup xs] = .ok (.int (xs.length : Nat)) := nr rfl
theorem i_lenL (xs : List D) : biD .len [.lst xs] = .ok (.int (xs.length : Nat)) := nr rfl
theorem min_eq' (i j : Int) : (if j < i then j else i) = min i j := by omega
theorem max_eq' (i j : Int) : (if j > i then j else i) = max i j := by omega
theorem i_min2 (i j : Int) : biD .min2 [.int i, .int j] = .ok (.int (min i j)) := by rw [← min_eq']; rfl
theorem i_max2 (i j : Int) : biD .max2 [.int i, .int j] = .ok (.int (max i j)) := by rw [← max_eq']; rfl
theorem i_max3 (a b c : Int) : biD .max3 [.int a, .int b, .int c] = .ok (.int (max (max a b) c)) := by
  show M.ok (D.int (if b > a then (if c > b then c else b) else (if c > a then c else a))) = _
  congr 2; omega
theorem i_min3 (a b c : Int) : biD .min3 [.int a, .int b, .int c] = .ok (.int (min (min a b) c)) := by
  show M.ok (D.int (if b < a then (if c < b then c else b) else (if c < a then c else a))) = _
  congr 2; omega
theorem intsOf_map : ∀ ns : List Int, intsOf (ns.map D.int) = some ns
  | [] => rfl
  | n :: ns => by rw [List.map_cons, intsOf, intsOf_map ns]
theorem intsOf_mapf {α : Type} (f : α → Int) (l : List α) : intsOf (l.map fun x => D.int (f x)) = some (l.map f) := by
  rw [← intsOf_map, List.map_map]; rfl
theorem blsOf_mapf {α : Type} (f : α → Bool) : ∀ l : List α, blsOf (l.map fun x => D.bl (f x)) = some (l.map f)
  | [] => rfl
  | n :: ns => by rw [List.map_cons, blsOf, blsOf_mapf f ns]; rfl
theorem i_sum {xs : List D} {ns : List Int} (h : intsOf xs = some ns) : biD .sum [.lst xs] = .ok (.int ns.sum) := by
  show (match intsOf xs with | some ns => M.ok (D.int ns.sum) | none => .no) = _
  rw [h]
theorem i_sumi (l : List Int) : biD .sum [.lst (l.map D.int)] = .ok (.int l.sum) := i_sum (intsOf_map l)
theorem i_sumf {α : Type} (f : α → Int) (l : List α) : biD .sum [.lst (l.map fun x => D.int (f x))] = .ok (.int (l.map f).sum) := i_sum (intsOf_mapf f l)
theorem i_abs (i : Int) : biD .abs [.int i] = .ok (.int (i.natAbs : Int)) := by
  show M.ok (D.int (if i < 0 then -i else i)) = _
  congr 2; omega
theorem i_tupT (xs : List D) : biD .tup [.tup xs] = .ok (.tup xs) := nr rfl
theorem i_tupL (xs : List D) : biD .tup [.lst xs] = .ok (.tup xs) := nr rfl
theorem i_lstT (xs : List D) : biD .lst [.tup xs] = .ok (.lst xs) := nr rfl
theorem i_lstL (xs : List D) : biD .lst [.lst xs] = .ok (.lst xs) := nr rfl
theorem i_inti (i : Int) : biD .int [.int i] = .ok (.int i) := nr rfl
theorem i_intb (b : Bool) : biD .int [.bl b] = .ok (.int (if b = true then 1 else 0)) := by cases b <;> rfl
theorem i_sor {xs : List D} {ns : List Int} (h : intsOf xs = some ns) : biD .sor [.lst xs] = .ok (.lst ((sortI ns).map D.int)) := by
  show (match intsOf xs with | some ns => M.ok (D.lst ((sortI ns).map D.int)) | none => match rowsOf xs with | some nss => M.ok (D.lst ((sortT nss).map rowD)) | none => .no) = _
  rw [h]
theorem rowsOf_map : ∀ {nss : List (List Int)}, (∀ ns ∈ nss, ns ≠ []) → rowsOf (nss.map rowD) = some nss
  | [], _ => rfl
  | [] :: nss, h => absurd rfl (h [] List.mem_cons_self)
  | (n :: ns) :: nss, h => by
    rw [List.map_cons]
    show (match intsOf (D.int n :: ns.map D.int), rowsOf (nss.map rowD) with | some ns, some l => some (ns :: l) | _, _ => none) = _
    rw [rowsOf_map fun z hz => h z (List.mem_cons_of_mem _ hz)]
    have := intsOf_map (n :: ns)
    rw [List.map_cons] at this
    rw [this]
theorem i_sorT {nss : List (List Int)} (h : ∀ ns ∈ nss, ns ≠ []) : biD .sor [.lst (nss.map rowD)] = .ok (.lst ((sortT nss).map rowD)) := by
  cases nss with
  | nil => rfl
  | cons ns r =>
    show (match intsOf ((ns :: r).map rowD) with | some ns => M.ok (D.lst ((sortI ns).map D.int)) | none => match rowsOf ((ns :: r).map rowD) with | some nss => M.ok (D.lst ((sortT nss).map rowD)) | none => .no) = _
    rw [rowsOf_map h]
    rfl
theorem i_sorTi (l : List Int) : biD .sor [.tup (l.map D.int)] = .ok (.lst ((sortI l).map D.int)) := by
  show (match intsOf (l.map D.int) with | some ns => M.ok (D.lst ((sortI ns).map D.int)) | none => .no) = _
  rw [intsOf_map]
theorem rvs_L (l : Bool) (xs : List D) : rvsD l (.lst xs) = .ok (.lst xs.reverse) := nr rfl
theorem rvs_T (xs : List D) : rvsD false (.tup xs) = .ok (.tup xs.reverse) := nr rfl
theorem i_sori (l : List Int) : biD .sor [.lst (l.map D.int)] = .ok (.lst ((sortI l).map D.int)) := i_sor (intsOf_map l)
theorem ty_ii (i : Int) : tyD .int (.int i) = true := nr rfl
theorem ty_ib (i : Bool) : tyD .int (.bl i) = true := nr rfl
theorem ty_bi (i : Int) : tyD .bl (.int i) = false := nr rfl
theorem ty_bb (i : Bool) : tyD .bl (.bl i) = true := nr rfl
theorem ty_tt (i : List D) : tyD .tup (.tup i) = true := nr rfl
theorem ty_ti (i : Int) : tyD .tup (.int i) = false := nr rfl
theorem noIns_int (i : Int) : noIns (.int i) = true := nr rfl
theorem noIns_bl (i : Bool) : noIns (.bl i) = true := nr rfl
theorem noIns_tup (i : List D) : noIns (.tup i) = true := nr rfl
theorem noIns_lst (i : List D) : noIns (.lst i) = true := nr rfl
theorem noIns_non : noIns .non = true := nr rfl
theorem noIns_str (s : Str) : noIns (.str s) = true := nr rfl
theorem seqOf_tup (xs : List D) : seqOf (.tup xs) = some xs := nr rfl
theorem seqOf_lst (xs : List D) : seqOf (.lst xs) = some xs := nr rfl
theorem rgD_eq : ∀ (n : Nat) (a : Int), rgD a n = (List.range n).map fun k : Nat => D.int (a + (k : Int))
  | 0, a => rfl
  | n + 1, a => by
    rw [rgD, rgD_eq n, List.range_succ_eq_map, List.map_cons, List.map_map]
    congr 1
    · simp
    · apply List.map_congr_left
      intro k _
      simp only [Function.comp_apply, Nat.succ_eq_add_one, Int.natCast_add]
      congr 1; omega
theorem rgS_eq (c : Int) : ∀ (n : Nat) (a : Int), rgS a c n = (List.range n).map fun k : Nat => D.int (a + (k : Int) * c)
  | 0, a => rfl
  | n + 1, a => by
    rw [rgS, rgS_eq c n, List.range_succ_eq_map, List.map_cons, List.map_map]
    congr 1
    · simp
    · apply List.map_congr_left
      intro k _
      simp only [Function.comp_apply, Nat.succ_eq_add_one, Int.natCast_add, Int.add_mul]
      congr 1; omega
theorem it_seqT (xs : List D) : itD .seq [.tup xs] = .ok xs := nr rfl
theorem it_seqL (xs : List D) : itD .seq [.lst xs] = .ok xs := nr rfl
theorem rgOk_of {a b : Int} (h1 : -(2 ^ 62) ≤ a) (h2 : a < 2 ^ 62) (h3 : -(2 ^ 62) ≤ b) (h4 : b < 2 ^ 62) : rgOk a b = true := by
  unfold rgOk; simp only [Bool.and_eq_true, decide_eq_true_eq]; omega
theorem it_rng1 {j : Int} (h : -(2 ^ 62) ≤ j ∧ j < 2 ^ 62) : itD .rng1 [.int j] = .ok ((List.range j.toNat).map fun k : Nat => D.int (k : Int)) := by
  show gd (rgOk 0 j) (rgD 0 j.toNat) = _
  rw [rgOk_of (by omega) (by omega) h.1 h.2, gd_true, rgD_eq]
  congr 2; funext k; rw [Int.zero_add]
theorem it_rng1n {n : Nat} (h : n < 2 ^ 62) : itD .rng1 [.int (n : Int)] = .ok ((List.range n).map fun k : Nat => D.int (k : Int)) := by
  rw [it_rng1 ⟨by omega, by omega⟩, Int.toNat_natCast]
theorem it_rng2 {i j : Int} (h : -(2 ^ 62) ≤ i ∧ i < 2 ^ 62) (h' : -(2 ^ 62) ≤ j ∧ j < 2 ^ 62) : itD .rng2 [.int i, .int j] = .ok ((List.range (j - i).toNat).map fun k : Nat => D.int (i + (k : Int))) := by
  show M.ok (rgD i (j - i).toNat) = _
  rw [rgD_eq]
theorem it_rngB (i j : Int) : itD .rng2 [.int i, .int j] = .ok ((List.range (j - i).toNat).map fun k : Nat => D.int (i + (k : Int))) := by
  show M.ok (rgD i (j - i).toNat) = _
  rw [rgD_eq]
theorem it_rng3 {i j c : Int} (h : -(2 ^ 62) ≤ i ∧ i < 2 ^ 62) (h' : -(2 ^ 62) ≤ j ∧ j < 2 ^ 62) (hc : 0 < c ∧ c < 1073741824) : itD .rng3 [.int i, .int j, .int c] = .ok ((List.range (rgN i j c)).map fun k : Nat => D.int (i + (k : Int) * c)) := by
  show gd (rgOk i j && decide (0 < c) && decide (c < 1073741824)) _ = _
  rw [rgOk_of h.1 h.2 h'.1 h'.2, decide_eq_true hc.1, decide_eq_true hc.2]
  show M.ok _ = _
  rw [rgS_eq]
theorem it_rvr1 {j : Int} (h : -(2 ^ 62) ≤ j ∧ j < 2 ^ 62) : itD .rvr1 [.int j] = .ok ((List.range j.toNat).reverse.map fun k : Nat => D.int (k : Int)) := by
  show gd (rgOk 0 j) (rgD 0 j.toNat).reverse = _
  rw [rgOk_of (by omega) (by omega) h.1 h.2, gd_true, rgD_eq, ← List.map_reverse]
  congr 2; funext k; rw [Int.zero_add]
theorem it_rvr2 {i j : Int} (h : -(2 ^ 62) ≤ i ∧ i < 2 ^ 62) (h' : -(2 ^ 62) ≤ j ∧ j < 2 ^ 62) : itD .rvr2 [.int i, .int j] = .ok ((List.range (j - i).toNat).reverse.map fun k : Nat => D.int (i + (k : Int))) := by
  show gd (rgOk i j) (rgD i (j - i).toNat).reverse = _
  rw [rgOk_of h.1 h.2 h'.1 h'.2, gd_true, rgD_eq, ← List.map_reverse]
theorem it_zipT {α β : Type} (f : α → D) (g : β → D) (xs : List α) (ys : List β) : itD .zip [.tup (xs.map f), .tup (ys.map g)] = .ok ((xs.zip ys).map fun p => .tup [f p.1, g p.2]) := by
  show M.ok (((xs.map f).zip (ys.map g)).map fun p => D.tup [p.1, p.2]) = _
  rw [List.zip_map, List.map_map]; rfl
theorem it_zipL {α β : Type} (f : α → D) (g : β → D) (xs : List α) (ys : List β) : itD .zip [.lst (xs.map f), .lst (ys.map g)] = .ok ((xs.zip ys).map fun p => .tup [f p.1, g p.2]) := by
  show M.ok (((xs.map f).zip (ys.map g)).map fun p => D.tup [p.1, p.2]) = _
  rw [List.zip_map, List.map_map]; rfl
theorem it_enm {α : Type} (f : α → D) (xs : List α) : itD .enm [.lst (xs.map f)] = .ok (xs.zipIdx.map fun p => .tup [.int (p.2 : Nat), f p.1]) := by
  show M.ok (((xs.map f).zip (rgD 0 (xs.map f).length)).map fun p => D.tup [p.2, p.1]) = _
  rw [rgD_eq, List.zip_map, List.map_map, List.length_map, List.zipIdx_eq_zip_range', ← List.range_eq_range']
  congr 1
  apply List.map_congr_left
  intro p _
  simp [Prod.map]
theorem it_revL {α : Type} (f : α → D) (xs : List α) : itD .rev [.lst (xs.map f)] = .ok (xs.reverse.map f) := by
  show M.ok (xs.map f).reverse = _
  rw [List.map_reverse]
theorem it_revT {α : Type} (f : α → D) (xs : List α) : itD .rev [.tup (xs.map f)] = .ok (xs.reverse.map f) := by
  show M.ok (xs.map f).reverse = _
  rw [List.map_reverse]
theorem fits_of {n : Nat} (h : n ≤ 1000000) : fits n = true := decide_eq_true (Nat.le_trans h (by decide))
theorem dec_size {n : Nat} (h : n < 1000000) : decide (n < sizeLine) = true := decide_eq_true (Nat.lt_of_lt_of_le h (by decide))
theorem mul_ok1 {i j : Int} (h : i.natAbs < 2 ^ 64) : mulOk i j = true := by unfold mulOk; rw [decide_eq_true h]; simp
theorem mul_ok2 {i j : Int} (h : j.natAbs < 2 ^ 64) : mulOk i j = true := by unfold mulOk; rw [decide_eq_true h]; simp
theorem mul_ok3 {i j : Int} (h : i.natAbs < mulB) (h' : j.natAbs < mulB) : mulOk i j = true := by unfold mulOk; rw [decide_eq_true h, decide_eq_true h']; simp
theorem slc_T {α : Type} (f : α → D) (xs : List α) (lo hi : Option Int) : slcD (.tup (xs.map f)) lo hi = .ok (.tup (((xs.drop (HT.sIx xs.length 0 lo)).take (HT.sIx xs.length xs.length hi - HT.sIx xs.length 0 lo)).map f)) := by
  show M.ok (D.tup (cutD _ _ _)) = _
  unfold cutD
  rw [List.length_map, List.map_take, List.map_drop]
theorem slc_L {α : Type} (f : α → D) (xs : List α) (lo hi : Option Int) : slcD (.lst (xs.map f)) lo hi = .ok (.lst (((xs.drop (HT.sIx xs.length 0 lo)).take (HT.sIx xs.length xs.length hi - HT.sIx xs.length 0 lo)).map f)) := by
  show M.ok (D.lst (cutD _ _ _)) = _
  unfold cutD
  rw [List.length_map, List.map_take, List.map_drop]
theorem sIx_int (n d : Nat) {i : Int} (h : 0 ≤ i) : HT.sIx n d (some i) = min i.toNat n := by
  show (if i < 0 then _ else _) = _
  rw [if_neg (by omega)]
theorem fdiv_e {i j : Int} (h : 0 ≤ j) : i.fdiv j = i / j := Int.fdiv_eq_ediv_of_nonneg _ h
theorem fmod_e {i j : Int} (h : 0 ≤ j) : i.fmod j = i % j := Int.fmod_eq_emod_of_nonneg _ h
theorem map_int_comp {α : Type} (f : α → Int) (l : List α) : (l.map fun x => D.int (f x)) = (l.map f).map D.int := by rw [List.map_map]; rfl
theorem eqD_ii (i j : Int) : eqD (.int i) (.int j) = decide (i = j) := rfl
theorem eqD_tt (xs ys : List D) : eqD (.tup xs) (.tup ys) = eqDs xs ys := nr (by unfold eqD; rfl)
theorem eqD_ll (xs ys : List D) : eqD (.lst xs) (.lst ys) = eqDs xs ys := nr (by unfold eqD; rfl)
theorem eqDs_n : eqDs [] [] = true := nr (by unfold eqDs; rfl)
theorem eqDs_c (x y : D) (xs ys : List D) : eqDs (x :: xs) (y :: ys) = (eqD x y && eqDs xs ys) := nr (by rw [eqDs])
mutual
theorem eqD_rfl : ∀ (n : Nat) (a : D), plainD n a = true → eqD a a = true
  | _, .non, _ => rfl
  | _, .bl b, _ => by cases b <;> rfl
  | _, .int i, _ => by rw [eqD_ii]; exact decide_eq_true rfl
  | _, .str x, _ => by unfold eqD; exact beq_self_eq_true x
  | 0, .tup xs, h => by simp only [plainD, Bool.false_eq_true] at h
  | 0, .lst xs, h => by simp only [plainD, Bool.false_eq_true] at h
  | n + 1, .tup xs, h => by rw [eqD_tt]; exact eqDs_rfl n xs (by simpa only [plainD] using h)
  | n + 1, .lst xs, h => by rw [eqD_ll]; exact eqDs_rfl n xs (by simpa only [plainD] using h)
  | 0, .ins _ _, h => by simp only [plainD, Bool.false_eq_true] at h
  | n + 1, .ins _ _, h => by simp only [plainD, Bool.false_eq_true] at h
theorem eqDs_rfl : ∀ (n : Nat) (xs : List D), xs.all (plainD n) = true → eqDs xs xs = true
  | _, [], _ => eqDs_n
  | n, x :: xs, h => by
    rw [List.all_cons, Bool.and_eq_true] at h
    rw [eqDs_c, eqD_rfl n x h.1, eqDs_rfl n xs h.2]; rfl
end
theorem pl_int (n : Nat) (i : Int) : plainD n (.int i) = true := nr (by cases n <;> rfl)
theorem pl_non (n : Nat) : plainD n .non = true := nr (by cases n <;> rfl)
theorem pl_bl (n : Nat) (b : Bool) : plainD n (.bl b) = true := nr (by cases n <;> rfl)
theorem pl_tup (n : Nat) (xs : List D) : plainD (n + 1) (.tup xs) = xs.all (plainD n) := nr (by rw [plainD])
theorem pl_lst (n : Nat) (xs : List D) : plainD (n + 1) (.lst xs) = xs.all (plainD n) := nr (by rw [plainD])
theorem all_ints (n : Nat) (l : List Int) : (l.map D.int).all (plainD n) = true := by
  rw [List.all_map, List.all_eq_true]; intro x _; exact pl_int n x
end Dw

/-! ### the defs -/
namespace Dw
def n_box_rim : Nat := 2
def n_law_cell : Nat := 3
def n_law_even : Nat := 4
def n_law_whole : Nat := 5
def n_law_box : Nat := 6
def n_box_cover : Nat := 8
def n_boxes_meet : Nat := 9
def n_box_inside : Nat := 10
def n_law_side : Nat := 11
def n_law_boxes : Nat := 12
def n_box_common : Nat := 14
def n_law_turned : Nat := 15
def n_frame_at : Nat := 38
def n_law_clip : Nat := 39
def n_law_speeds : Nat := 40
def n_law_swath_side : Nat := 41
def n_law_swaths : Nat := 42
def n_frames_joined : Nat := 51
def n_frames_narrowed : Nat := 52
def n_woven : Nat := 72
def n_law_cell_at : Nat := 73
def n_law_bits : Nat := 74
def n_law_number : Nat := 75
def n_law_weaves : Nat := 76
def n_cover_rim : Nat := 179
def n_chosen_page : Nat := 180
def n_law_draw : Nat := 181
def n_law_thing_3 : Nat := 182
def n_law_told_4 : Nat := 183
def n_law_rim : Nat := 184
def n_law_both : Nat := 185
def n_lined_up : Nat := 188
def n_rims_along : Nat := 189
def n_law_rising : Nat := 190
def n_parted : Nat := 420
def n_law_26 : Nat := 421
-- box_rim(box); slots 0:box 1:side
def b_box_rim : List Sx := [.ret (.bi .sum [(.comp (.bin .sub (.idx (.var 1) (.con (.int 1))) (.idx (.var 1) (.con (.int 0)))) [1] .seq [(.var 0)] none)])]
def d_box_rim : Df := ⟨2, false, b_box_rim⟩
-- _law_cell(script, k); slots 0:script 1:k
def b_law_cell : List Sx := [.ite (.cmp .lt (.var 1) (.bi .len [(.var 0)])) [.ret (.idx (.var 0) (.var 1))] [.del [0, 1]],
    .ret (.con (.int 0))]
def d_law_cell : Df := ⟨2, false, b_law_cell⟩
-- _law_even(cell, most); slots 0:cell 1:most 2:rest
def b_law_even : List Sx := [.asg 2 (.bin .mod (.var 0) (.bin .add (.bin .mul (.con (.int 2)) (.var 1)) (.con (.int 1)))),
    .del [0],
    .ite (.cmp .gt (.var 2) (.var 1)) [.ret (.bin .sub (.var 2) (.bin .add (.bin .mul (.con (.int 2)) (.var 1)) (.con (.int 1))))] [.del [1]],
    .ret (.var 2)]
def d_law_even : Df := ⟨3, false, b_law_even⟩
-- _law_whole(found); slots 0:found
def b_law_whole : List Sx := [.ret (.and (.isi (.var 0) .int) (.nt (.isi (.var 0) .bl)))]
def d_law_whole : Df := ⟨1, false, b_law_whole⟩
-- _law_box(found, sides); slots 0:found 1:sides 2:side
def b_law_box : List Sx := [.ite (.or (.nt (.isi (.var 0) .tup)) (.cmp .ne (.bi .len [(.var 0)]) (.var 1))) [.ret (.con (.bl false))] [.del [1]],
    .for_ [2] .seq [(.var 0)] [.ite (.or (.nt (.isi (.var 2) .tup)) (.cmp .ne (.bi .len [(.var 2)]) (.con (.int 2)))) [.ret (.con (.bl false))] [], .ite (.or (.nt (.call n_law_whole [(.idx (.var 2) (.con (.int 0)))] [])) (.nt (.call n_law_whole [(.idx (.var 2) (.con (.int 1)))] []))) [.ret (.con (.bl false))] [.del [2]]],
    .ret (.con (.bl true))]
def d_law_box : Df := ⟨3, false, b_law_box⟩
-- box_cover(one, two); slots 0:one 1:two 2:a 3:b
def b_box_cover : List Sx := [.ret (.bi .tup [(.comp (.tup [(.bi .min2 [(.idx (.var 2) (.con (.int 0))), (.idx (.var 3) (.con (.int 0)))]), (.bi .max2 [(.idx (.var 2) (.con (.int 1))), (.idx (.var 3) (.con (.int 1)))])]) [2, 3] .zip [(.var 0), (.var 1)] none)])]
def d_box_cover : Df := ⟨4, false, b_box_cover⟩
-- boxes_meet(one, two); slots 0:one 1:two 2:a 3:b
def b_boxes_meet : List Sx := [.for_ [2, 3] .zip [(.var 0), (.var 1)] [.ite (.or (.cmp .gt (.idx (.var 2) (.con (.int 0))) (.idx (.var 3) (.con (.int 1)))) (.cmp .gt (.idx (.var 3) (.con (.int 0))) (.idx (.var 2) (.con (.int 1))))) [.ret (.con (.bl false))] [.del [2, 3]]],
    .ret (.con (.bl true))]
def d_boxes_meet : Df := ⟨4, false, b_boxes_meet⟩
-- box_inside(one, two); slots 0:one 1:two 2:a 3:b
def b_box_inside : List Sx := [.for_ [2, 3] .zip [(.var 0), (.var 1)] [.ite (.or (.cmp .lt (.idx (.var 2) (.con (.int 0))) (.idx (.var 3) (.con (.int 0)))) (.cmp .gt (.idx (.var 2) (.con (.int 1))) (.idx (.var 3) (.con (.int 1))))) [.ret (.con (.bl false))] [.del [2, 3]]],
    .ret (.con (.bl true))]
def d_box_inside : Df := ⟨4, false, b_box_inside⟩
-- _law_side(last, cell, other); slots 0:last 1:cell 2:other 3:most 4:way 5:one 6:two 7:low
def b_law_side : List Sx := [.asg 3 (.bin .mul (.con (.int 2)) (.bin .pow (.con (.int 10)) (.con (.int 30)))),
    .asg 4 (.bin .mod (.var 1) (.con (.int 7))),
    .asg 5 (.call n_law_even [(.bin .div (.var 1) (.con (.int 7))), (.var 3)] []),
    .asg 6 (.call n_law_even [(.var 2), (.var 3)] []),
    .ite (.cmp .eq (.var 4) (.con (.int 1))) [.ret (.tup [(.idx (.var 0) (.con (.int 1))), (.bi .max2 [(.idx (.var 0) (.con (.int 1))), (.var 6)])])] [],
    .ite (.cmp .eq (.var 4) (.con (.int 2))) [.del [1, 2, 4, 5], .asg 7 (.bi .min2 [(.var 3), (.bin .add (.idx (.var 0) (.con (.int 1))) (.con (.int 1)))]), .ret (.tup [(.var 7), (.bi .max2 [(.var 7), (.var 6)])])] [],
    .ite (.cmp .eq (.var 4) (.con (.int 3))) [.ret (.var 0)] [],
    .ite (.cmp .eq (.var 4) (.con (.int 4))) [.ret (.tup [(.bi .max2 [(.neg (.var 3)), (.bin .sub (.idx (.var 0) (.con (.int 0))) (.bin .mod (.var 2) (.con (.int 2))))]), (.bi .min2 [(.var 3), (.bin .add (.idx (.var 0) (.con (.int 1))) (.bin .mod (.bin .div (.var 2) (.con (.int 2))) (.con (.int 2))))])])] [.del [3]],
    .ite (.cmp .eq (.var 4) (.con (.int 5))) [.del [4, 5, 6], .asg 7 (.bin .add (.idx (.var 0) (.con (.int 0))) (.bin .mod (.bin .div (.var 1) (.con (.int 7))) (.bin .add (.bin .sub (.idx (.var 0) (.con (.int 1))) (.idx (.var 0) (.con (.int 0)))) (.con (.int 1))))), .ret (.tup [(.var 7), (.bin .add (.var 7) (.bin .mod (.var 2) (.bin .add (.bin .sub (.idx (.var 0) (.con (.int 1))) (.var 7)) (.con (.int 1)))))])] [.del [1, 2]],
    .ite (.cmp .eq (.var 4) (.con (.int 6))) [.ret (.tup [(.bi .min2 [(.idx (.var 0) (.con (.int 0))), (.var 6)]), (.idx (.var 0) (.con (.int 0)))])] [.del [0, 4]],
    .ret (.tup [(.bi .min2 [(.var 5), (.var 6)]), (.bi .max2 [(.var 5), (.var 6)])])]
def d_law_side : Df := ⟨8, false, b_law_side⟩
-- _law_boxes(cells, sides, least); slots 0:cells 1:sides 2:least 3:row 4:last 5:step 6:many 7:k 8:part 9:j
def b_law_boxes : List Sx := [.own 3 (.lst []),
    .asg 4 (.comp (.tup [(.con (.int 0)), (.con (.int 0))]) [9] .rng1 [(.var 1)] none),
    .asg 5 (.bin .mul (.con (.int 2)) (.var 1)),
    .asg 6 (.bi .max2 [(.var 2), (.bin .div (.bin .sub (.bin .add (.bi .len [(.var 0)]) (.var 5)) (.con (.int 1))) (.var 5))]),
    .del [2],
    .for_ [7] .rng1 [(.var 6)] [.asg 8 (.slc (.var 0) (some (.bin .mul (.var 5) (.var 7))) (some (.bin .add (.bin .mul (.var 5) (.var 7)) (.var 5)))), .del [7], .asg 8 (.bin .add (.var 8) (.bin .rep (.lst [(.con (.int 0))]) (.bin .sub (.var 5) (.bi .len [(.var 8)])))), .asg 4 (.comp (.call n_law_side [(.idx (.var 4) (.var 9)), (.idx (.var 8) (.bin .mul (.con (.int 2)) (.var 9))), (.idx (.var 8) (.bin .add (.bin .mul (.con (.int 2)) (.var 9)) (.con (.int 1))))] []) [9] .rng1 [(.var 1)] none), .del [8], .app 3 (.bi .tup [(.var 4)])],
    .retR (.bor 3)]
def d_law_boxes : Df := ⟨10, true, b_law_boxes⟩
-- box_common(one, two); slots 0:one 1:two 2:a 3:b
def b_box_common : List Sx := [.ite (.nt (.call n_boxes_meet [(.var 0), (.var 1)] [])) [.ret (.con .non)] [],
    .ret (.bi .tup [(.comp (.tup [(.bi .max2 [(.idx (.var 2) (.con (.int 0))), (.idx (.var 3) (.con (.int 0)))]), (.bi .min2 [(.idx (.var 2) (.con (.int 1))), (.idx (.var 3) (.con (.int 1)))])]) [2, 3] .zip [(.var 0), (.var 1)] none)])]
def d_box_common : Df := ⟨4, false, b_box_common⟩
-- _law_turned(box, which); slots 0:box 1:which 2:made
def b_law_turned : List Sx := [.own 2 (.bi .lst [(.var 0)]),
    .put 2 (.var 1) (.tup [(.idx (.idx (.var 0) (.var 1)) (.con (.int 1))), (.idx (.idx (.var 0) (.var 1)) (.con (.int 0)))]),
    .frz 2,
    .ret (.bi .tup [(.var 2)])]
def d_law_turned : Df := ⟨3, false, b_law_turned⟩
-- frame_at(frame, beat); slots 0:frame 1:beat 2:side
def b_frame_at : List Sx := [.ret (.bi .tup [(.comp (.tup [(.bin .add (.idx (.var 2) (.con (.int 0))) (.bin .mul (.idx (.var 2) (.con (.int 2))) (.var 1))), (.bin .add (.idx (.var 2) (.con (.int 1))) (.bin .mul (.idx (.var 2) (.con (.int 3))) (.var 1)))]) [2] .seq [(.var 0)] none)])]
def d_frame_at : Df := ⟨3, false, b_frame_at⟩
-- _law_clip(place); slots 0:place
def b_law_clip : List Sx := [.ret (.bi .max2 [(.neg (.bin .pow (.con (.int 10)) (.con (.int 30)))), (.bi .min2 [(.bin .pow (.con (.int 10)) (.con (.int 30))), (.var 0)])])]
def d_law_clip : Df := ⟨1, false, b_law_clip⟩
-- _law_speeds(last, cell, other); slots 0:last 1:cell 2:other 3:one 4:two
def b_law_speeds : List Sx := [.asg 3 (.call n_law_even [(.bin .div (.var 1) (.con (.int 3))), (.bin .pow (.con (.int 10)) (.con (.int 15)))] []),
    .asg 4 (.call n_law_even [(.var 2), (.bin .pow (.con (.int 10)) (.con (.int 15)))] []),
    .del [2],
    .ite (.cmp .eq (.bin .mod (.var 1) (.con (.int 3))) (.con (.int 0))) [.ret (.tup [(.var 3), (.var 3)])] [],
    .ite (.cmp .eq (.bin .mod (.var 1) (.con (.int 3))) (.con (.int 1))) [.ret (.tup [(.bi .min2 [(.var 3), (.var 4)]), (.bi .max2 [(.var 3), (.var 4)])])] [.del [1, 3, 4]],
    .ret (.tup [(.idx (.var 0) (.con (.int 2))), (.idx (.var 0) (.con (.int 3)))])]
def d_law_speeds : Df := ⟨5, false, b_law_speeds⟩
-- _law_swath_side(last, part, beat); slots 0:last 1:part 2:beat 3:way 4:one 5:two 6:pace 7:low 8:high
def b_law_swath_side : List Sx := [.asg 3 (.bin .mod (.idx (.var 1) (.con (.int 0))) (.con (.int 6))),
    .asg 4 (.call n_law_even [(.bin .div (.idx (.var 1) (.con (.int 0))) (.con (.int 6))), (.bin .pow (.con (.int 10)) (.con (.int 30)))] []),
    .asg 5 (.call n_law_even [(.idx (.var 1) (.con (.int 1))), (.bin .pow (.con (.int 10)) (.con (.int 30)))] []),
    .asg 6 (.call n_law_speeds [(.var 0), (.idx (.var 1) (.con (.int 2))), (.idx (.var 1) (.con (.int 3)))] []),
    .del [1],
    .ite (.or (.cmp .eq (.var 3) (.con (.int 2))) (.cmp .eq (.var 3) (.con (.int 5)))) [.del [4], .asg 7 (.call n_law_clip [(.bin .add (.bin .add (.idx (.var 0) (.con (.int 1))) (.bin .mul (.bin .sub (.idx (.var 0) (.con (.int 3))) (.idx (.var 6) (.con (.int 0)))) (.var 2))) (.bi .int [(.cmp .eq (.var 3) (.con (.int 5)))]))] []), .retR (.bin .add (.tup [(.var 7), (.bi .max2 [(.var 7), (.var 5)])]) (.var 6))] [],
    .ite (.cmp .eq (.var 3) (.con (.int 3))) [.del [3, 4], .asg 8 (.call n_law_clip [(.bin .add (.idx (.var 0) (.con (.int 0))) (.bin .mul (.bin .sub (.idx (.var 0) (.con (.int 2))) (.idx (.var 6) (.con (.int 1)))) (.var 2)))] []), .retR (.bin .add (.tup [(.bi .min2 [(.var 8), (.var 5)]), (.var 8)]) (.var 6))] [.del [2]],
    .ite (.cmp .eq (.var 3) (.con (.int 4))) [.retR (.bin .add (.tup [(.idx (.var 0) (.con (.int 0))), (.idx (.var 0) (.con (.int 1)))]) (.var 6))] [.del [0, 3]],
    .retR (.bin .add (.tup [(.bi .min2 [(.var 4), (.var 5)]), (.bi .max2 [(.var 4), (.var 5)])]) (.var 6))]
def d_law_swath_side : Df := ⟨9, true, b_law_swath_side⟩
-- _law_swaths(cells, sides, least, beat); slots 0:cells 1:sides 2:least 3:beat 4:row 5:last 6:step 7:many 8:k 9:part 10:j
def b_law_swaths : List Sx := [.own 4 (.lst []),
    .asg 5 (.comp (.tup [(.con (.int 0)), (.con (.int 0)), (.con (.int 0)), (.con (.int 0))]) [10] .rng1 [(.var 1)] none),
    .asg 6 (.bin .mul (.con (.int 4)) (.var 1)),
    .asg 7 (.bi .max2 [(.var 2), (.bin .div (.bin .sub (.bin .add (.bi .len [(.var 0)]) (.var 6)) (.con (.int 1))) (.var 6))]),
    .del [2],
    .for_ [8] .rng1 [(.var 7)] [.asg 9 (.slc (.var 0) (some (.bin .mul (.var 6) (.var 8))) (some (.bin .add (.bin .mul (.var 6) (.var 8)) (.var 6)))), .del [8], .asg 9 (.bin .add (.var 9) (.bin .rep (.lst [(.con (.int 0))]) (.bin .sub (.var 6) (.bi .len [(.var 9)])))), .asg 5 (.comp (.call n_law_swath_side [(.idx (.var 5) (.var 10)), (.slc (.var 9) (some (.bin .mul (.con (.int 4)) (.var 10))) (some (.bin .add (.bin .mul (.con (.int 4)) (.var 10)) (.con (.int 4))))), (.var 3)] []) [10] .rng1 [(.var 1)] none), .del [9], .app 4 (.bi .tup [(.var 5)])],
    .retR (.bor 4)]
def d_law_swaths : Df := ⟨11, true, b_law_swaths⟩
-- frames_joined(one, two); slots 0:one 1:two 2:a 3:b
def b_frames_joined : List Sx := [.ret (.bi .tup [(.comp (.tup [(.bi .min2 [(.idx (.var 2) (.con (.int 0))), (.idx (.var 3) (.con (.int 0)))]), (.bi .max2 [(.idx (.var 2) (.con (.int 1))), (.idx (.var 3) (.con (.int 1)))]), (.bi .min2 [(.idx (.var 2) (.con (.int 2))), (.idx (.var 3) (.con (.int 2)))]), (.bi .max2 [(.idx (.var 2) (.con (.int 3))), (.idx (.var 3) (.con (.int 3)))])]) [2, 3] .zip [(.var 0), (.var 1)] none)])]
def d_frames_joined : Df := ⟨4, false, b_frames_joined⟩
-- frames_narrowed(one, two); slots 0:one 1:two 2:a 3:b
def b_frames_narrowed : List Sx := [.ret (.bi .tup [(.comp (.tup [(.bi .max2 [(.idx (.var 2) (.con (.int 0))), (.idx (.var 3) (.con (.int 0)))]), (.bi .min2 [(.idx (.var 2) (.con (.int 1))), (.idx (.var 3) (.con (.int 1)))]), (.bi .max2 [(.idx (.var 2) (.con (.int 2))), (.idx (.var 3) (.con (.int 2)))]), (.bi .min2 [(.idx (.var 2) (.con (.int 3))), (.idx (.var 3) (.con (.int 3)))])]) [2, 3] .zip [(.var 0), (.var 1)] none)])]
def d_frames_narrowed : Df := ⟨4, false, b_frames_narrowed⟩
-- woven(point, bits); slots 0:point 1:bits 2:sides 3:number 4:level 5:side 6:bit
def b_woven : List Sx := [.asg 2 (.bi .len [(.var 0)]),
    .asg 3 (.con (.int 0)),
    .for_ [4] .rng1 [(.var 1)] [.for_ [5] .rng1 [(.var 2)] [.asg 6 (.bin .band (.bin .shr (.idx (.var 0) (.var 5)) (.var 4)) (.con (.int 1))), .asg 3 (.bin .bor (.var 3) (.bin .shl (.var 6) (.bin .sub (.bin .sub (.bin .add (.bin .mul (.var 4) (.var 2)) (.var 2)) (.con (.int 1))) (.var 5)))), .del [5, 6]], .del [4]],
    .ret (.var 3)]
def d_woven : Df := ⟨7, false, b_woven⟩
-- _law_cell_at(script, k); slots 0:script 1:k
def b_law_cell_at : List Sx := [.ite (.cmp .lt (.var 1) (.bi .len [(.var 0)])) [.ret (.idx (.var 0) (.var 1))] [.del [0, 1]],
    .ret (.con (.int 0))]
def d_law_cell_at : Df := ⟨2, false, b_law_cell_at⟩
-- _law_bits(cell); slots 0:cell 1:rest
def b_law_bits : List Sx := [.asg 1 (.bin .div (.var 0) (.con (.int 5))),
    .ite (.cmp .eq (.bin .mod (.var 0) (.con (.int 5))) (.con (.int 0))) [.ret (.idx (.lst [(.con (.int 2)), (.con (.int 0)), (.con (.int 1)), (.con (.int 110))]) (.bin .mod (.var 1) (.con (.int 4))))] [],
    .ite (.cmp .eq (.bin .mod (.var 0) (.con (.int 5))) (.con (.int 1))) [.ret (.bin .mod (.var 1) (.con (.int 111)))] [.del [0]],
    .ret (.bin .add (.con (.int 1)) (.bin .mod (.var 1) (.con (.int 16))))]
def d_law_bits : Df := ⟨2, false, b_law_bits⟩
-- _law_number(cell, k, many); slots 0:cell 1:k 2:many 3:rest 4:mixed
def b_law_number : List Sx := [.asg 3 (.bin .add (.bin .mod (.bin .div (.var 0) (.con (.int 4))) (.bin .mul (.bin .pow (.con (.int 10)) (.con (.int 50))) (.bin .pow (.con (.int 10)) (.con (.int 50))))) (.bin .mul (.bin .mul (.con (.int 31)) (.var 1)) (.var 1))),
    .del [1],
    .ite (.cmp .eq (.bin .mod (.var 0) (.con (.int 4))) (.con (.int 0))) [.retR (.bin .mod (.var 3) (.var 2))] [],
    .ite (.cmp .eq (.bin .mod (.var 0) (.con (.int 4))) (.con (.int 1))) [.retR (.bin .sub (.bin .sub (.var 2) (.con (.int 1))) (.bin .mod (.var 3) (.var 2)))] [],
    .ite (.cmp .eq (.bin .mod (.var 0) (.con (.int 4))) (.con (.int 2))) [.retR (.bin .mod (.bin .sub (.bin .add (.bin .div (.var 2) (.con (.int 2))) (.bin .mod (.var 3) (.con (.int 7)))) (.con (.int 3))) (.var 2))] [.del [0]],
    .asg 4 (.bin .add (.bin .mul (.bin .mul (.bin .mul (.bin .add (.var 3) (.con (.int 3))) (.bin .add (.var 3) (.con (.int 5)))) (.bin .add (.bin .pow (.con (.int 10)) (.con (.int 33))) (.con (.int 7)))) (.bin .add (.bin .pow (.con (.int 10)) (.con (.int 41))) (.con (.int 9)))) (.bin .mul (.var 3) (.con (.int 48271)))),
    .retR (.bin .mod (.bin .div (.var 4) (.con (.int 13))) (.var 2))]
def d_law_number : Df := ⟨5, true, b_law_number⟩
-- _law_weaves(number, spot, bits); slots 0:number 1:spot 2:bits 3:rest 4:places 5:k 6:j
def b_law_weaves : List Sx := [.ite (.or (.nt (.call n_law_whole [(.var 0)] [])) (.cmp .lt (.var 0) (.con (.int 0)))) [.ret (.con (.bl false))] [],
    .asg 3 (.var 0),
    .del [0],
    .own 4 (.bi .lst [(.var 1)]),
    .for_ [5] .rng1 [(.var 2)] [.del [5], .for_ [6] .rvr1 [(.bi .len [(.var 1)])] [.ite (.cmp .ne (.bin .mod (.var 3) (.con (.int 2))) (.bin .mod (.idx (.bor 4) (.var 6)) (.con (.int 2)))) [.ret (.con (.bl false))] [], .asg 3 (.bin .div (.var 3) (.con (.int 2))), .put 4 (.var 6) (.bin .div (.idx (.bor 4) (.var 6)) (.con (.int 2))), .del [6]]],
    .frz 4,
    .ret (.and (.cmp .eq (.var 3) (.con (.int 0))) (.cmp .eq (.bi .sum [(.var 4)]) (.con (.int 0))))]
def d_law_weaves : Df := ⟨7, false, b_law_weaves⟩
-- cover_rim(cover); slots 0:cover
def b_cover_rim : List Sx := [.ret (.call n_box_rim [(.call n_frame_at [(.var 0), (.con (.int 0))] [])] [])]
def d_cover_rim : Df := ⟨1, false, b_cover_rim⟩
-- chosen_page(tolds, told); slots 0:tolds 1:told 2:chosen 3:least 4:k 5:before 6:after 7:stir
def b_chosen_page : List Sx := [.asg 2 (.con (.int 0)),
    .asg 3 (.con .non),
    .for_ [4] .rng1 [(.bi .len [(.var 0)])] [.asg 5 (.call n_cover_rim [(.idx (.idx (.var 0) (.var 4)) (.con (.int 0)))] []), .asg 6 (.call n_cover_rim [(.call n_frames_joined [(.idx (.idx (.var 0) (.var 4)) (.con (.int 0))), (.idx (.var 1) (.con (.int 0)))] [])] []), .asg 7 (.tup [(.bin .sub (.var 6) (.var 5)), (.var 5)]), .del [5, 6], .ite (.or (.cmp .isn (.var 3) (.con .non)) (.cmp .lt (.var 7) (.var 3))) [.del [2, 3], .asg 2 (.var 4), .del [4], .asg 3 (.var 7), .del [7]] [.del [4, 7]]],
    .ret (.var 2)]
def d_chosen_page : Df := ⟨8, false, b_chosen_page⟩
-- _law_draw(seed, j, many); slots 0:seed 1:j 2:many
def b_law_draw : List Sx := [.retR (.bin .mod (.bin .div (.bin .mul (.bin .mul (.bin .add (.bin .add (.var 0) (.con (.int 3))) (.var 1)) (.bin .add (.bin .add (.var 0) (.bin .mul (.con (.int 5)) (.var 1))) (.con (.int 11)))) (.bin .add (.bin .pow (.con (.int 10)) (.con (.int 33))) (.con (.int 7)))) (.con (.int 13))) (.var 2))]
def d_law_draw : Df := ⟨3, true, b_law_draw⟩
-- _law_thing(cell, k, sides, way); slots 0:cell 1:k 2:sides 3:way 4:seed 5:far 6:fast 7:swath 8:j 9:handle 10:worth 11:low 12:wide 13:speed
def b_law_thing_3 : List Sx := [.asg 4 (.bin .add (.bin .mod (.var 0) (.bin .pow (.con (.int 10)) (.con (.int 40)))) (.bin .mul (.bin .mul (.con (.int 7919)) (.var 1)) (.var 1))),
    .del [0],
    .asg 5 (.idx (.lst [(.con (.int 12)), (.con (.int 90)), (.bin .sub (.bin .pow (.con (.int 10)) (.con (.int 30))) (.con (.int 1)))]) (.bin .mod (.var 3) (.con (.int 3)))),
    .asg 6 (.idx (.lst [(.con (.int 0)), (.con (.int 4)), (.bin .sub (.bin .pow (.con (.int 10)) (.con (.int 15))) (.con (.int 1)))]) (.bin .mod (.bin .div (.var 3) (.con (.int 3))) (.con (.int 3)))),
    .own 7 (.lst []),
    .for_ [8] .rng1 [(.var 2)] [.asg 11 (.bin .sub (.call n_law_draw [(.var 4), (.var 8), (.bin .add (.bin .mul (.con (.int 2)) (.var 5)) (.con (.int 1)))] []) (.var 5)), .asg 12 (.call n_law_draw [(.var 4), (.bin .add (.var 8) (.con (.int 7))), (.idx (.lst [(.con (.int 1)), (.con (.int 9)), (.bin .add (.var 5) (.con (.int 1)))]) (.bin .mod (.bin .div (.var 3) (.con (.int 9))) (.con (.int 3))))] []), .asg 13 (.bin .sub (.call n_law_draw [(.var 4), (.bin .add (.var 8) (.con (.int 14))), (.bin .add (.bin .mul (.con (.int 2)) (.var 6)) (.con (.int 1)))] []) (.var 6)), .del [8], .app 7 (.tup [(.var 11), (.bi .min2 [(.var 5), (.bin .add (.var 11) (.var 12))]), (.var 13), (.var 13)]), .del [11, 12, 13]],
    .frz 7,
    .del [2, 6],
    .asg 9 (.bin .add (.bin .mul (.call n_law_draw [(.var 4), (.con (.int 21)), (.bin .pow (.con (.int 10)) (.con (.int 14)))] []) (.con (.int 1000))) (.var 1)),
    .ite (.cmp .eq (.bin .mod (.var 3) (.con (.int 2))) (.con (.int 1))) [.del [9], .asg 9 (.bin .add (.bin .mul (.var 1) (.bin .pow (.con (.int 10)) (.con (.int 14)))) (.call n_law_draw [(.var 4), (.con (.int 21)), (.bin .pow (.con (.int 10)) (.con (.int 14)))] [])), .del [1]] [.del [1]],
    .asg 10 (.bin .sub (.call n_law_draw [(.var 4), (.con (.int 28)), (.bin .add (.bin .mul (.con (.int 2)) (.var 5)) (.con (.int 1)))] []) (.var 5)),
    .ret (.tup [(.var 9), (.bi .tup [(.var 7)]), (.call n_law_draw [(.var 4), (.con (.int 35)), (.idx (.lst [(.con (.int 4)), (.con (.int 65536))]) (.bin .mod (.bin .div (.var 3) (.con (.int 2))) (.con (.int 2))))] []), (.var 10)])]
def d_law_thing_3 : Df := ⟨14, false, b_law_thing_3⟩
-- _law_told(things); slots 0:things 1:cover 2:heart 3:j 4:some 5:every 6:thing 7:worths 8:lows 9:highs 10:speeds
def b_law_told_4 : List Sx := [.ite (.cmp .eq (.bi .len [(.var 0)]) (.con (.int 0))) [.ret (.con .non)] [],
    .own 1 (.lst []),
    .own 2 (.lst []),
    .for_ [3] .rng1 [(.bi .len [(.idx (.idx (.var 0) (.con (.int 0))) (.con (.int 1)))])] [.asg 8 (.comp (.idx (.idx (.idx (.var 6) (.con (.int 1))) (.var 3)) (.con (.int 0))) [6] .seq [(.var 0)] none), .asg 9 (.comp (.idx (.idx (.idx (.var 6) (.con (.int 1))) (.var 3)) (.con (.int 1))) [6] .seq [(.var 0)] none), .asg 10 (.comp (.idx (.idx (.idx (.var 6) (.con (.int 1))) (.var 3)) (.con (.int 2))) [6] .seq [(.var 0)] none), .del [3], .app 1 (.tup [(.bi .min1 [(.var 8)]), (.bi .max1 [(.var 9)]), (.bi .min1 [(.var 10)]), (.bi .max1 [(.var 10)])]), .app 2 (.tup [(.bi .max1 [(.var 8)]), (.bi .min1 [(.var 9)]), (.bi .max1 [(.var 10)]), (.bi .min1 [(.var 10)])]), .del [8, 9, 10]],
    .frz 1,
    .frz 2,
    .asg 4 (.con (.int 0)),
    .asg 5 (.con (.int 65535)),
    .for_ [6] .seq [(.var 0)] [.asg 4 (.bin .bor (.var 4) (.idx (.var 6) (.con (.int 2)))), .asg 5 (.bin .band (.var 5) (.idx (.var 6) (.con (.int 2)))), .del [6]],
    .asg 7 (.comp (.idx (.var 6) (.con (.int 3))) [6] .seq [(.var 0)] none),
    .ret (.tup [(.bi .tup [(.var 1)]), (.bi .tup [(.var 2)]), (.var 4), (.var 5), (.bi .len [(.var 0)]), (.bi .min1 [(.var 7)]), (.bi .max1 [(.var 7)]), (.bi .sum [(.var 7)])])]
def d_law_told_4 : Df := ⟨11, false, b_law_told_4⟩
-- _law_rim(sides); slots 0:sides 1:side
def b_law_rim : List Sx := [.ret (.bi .sum [(.comp (.bin .sub (.idx (.var 1) (.con (.int 1))) (.idx (.var 1) (.con (.int 0)))) [1] .seq [(.var 0)] none)])]
def d_law_rim : Df := ⟨2, false, b_law_rim⟩
-- _law_both(one, two); slots 0:one 1:two 2:a 3:b
def b_law_both : List Sx := [.retR (.comp (.tup [(.bi .min2 [(.idx (.var 2) (.con (.int 0))), (.idx (.var 3) (.con (.int 0)))]), (.bi .max2 [(.idx (.var 2) (.con (.int 1))), (.idx (.var 3) (.con (.int 1)))])]) [2, 3] .zip [(.var 0), (.var 1)] none)]
def d_law_both : Df := ⟨4, true, b_law_both⟩
-- lined_up(tolds, side); slots 0:tolds 1:side 2:row 3:k 4:low 5:high 6:slow 7:fast 8:middle
def b_lined_up : List Sx := [.own 2 (.lst []),
    .for_ [3] .rng1 [(.bi .len [(.var 0)])] [.unp [4, 5, 6, 7] (.idx (.idx (.idx (.var 0) (.var 3)) (.con (.int 0))) (.var 1)), .del [6, 7], .app 2 (.tup [(.bin .add (.var 4) (.var 5)), (.var 3)]), .del [3, 4, 5]],
    .frz 2,
    .retR (.comp (.var 3) [8, 3] .seq [(.bi .sor [(.var 2)])] none)]
def d_lined_up : Df := ⟨9, true, b_lined_up⟩
-- rims_along(tolds, order); slots 0:tolds 1:order 2:rims 3:cover 4:k
def b_rims_along : List Sx := [.own 2 (.lst []),
    .asg 3 (.idx (.idx (.var 0) (.idx (.var 1) (.con (.int 0)))) (.con (.int 0))),
    .for_ [4] .seq [(.var 1)] [.asg 3 (.call n_frames_joined [(.var 3), (.idx (.idx (.var 0) (.var 4)) (.con (.int 0)))] []), .del [4], .app 2 (.call n_cover_rim [(.var 3)] [])],
    .retR (.bor 2)]
def d_rims_along : Df := ⟨5, true, b_rims_along⟩
-- _law_rising(part, room); slots 0:part 1:room 2:k
def b_law_rising : List Sx := [.ite (.or (.nt (.isi (.var 0) .tup)) (.or (.cmp .lt (.bi .len [(.var 0)]) (.bin .div (.var 1) (.con (.int 2)))) (.cmp .gt (.bi .len [(.var 0)]) (.var 1)))) [.ret (.con (.bl false))] [.del [1]],
    .for_ [2] .rng1 [(.bi .len [(.var 0)])] [.ite (.or (.nt (.call n_law_whole [(.idx (.var 0) (.var 2))] [])) (.and (.cmp .gt (.var 2) (.con (.int 0))) (.cmp .le (.idx (.var 0) (.var 2)) (.idx (.var 0) (.bin .sub (.var 2) (.con (.int 1))))))) [.ret (.con (.bl false))] [.del [2]]],
    .ret (.con (.bl true))]
def d_law_rising : Df := ⟨3, false, b_law_rising⟩
-- parted(tolds, room); slots 0:tolds 1:room 2:fewest 3:least 4:parts 5:side 6:order 7:ahead 8:behind 9:cut 10:rim
def b_parted : List Sx := [.asg 2 (.bi .max2 [(.bin .div (.var 1) (.con (.int 2))), (.bin .sub (.bi .len [(.var 0)]) (.var 1))]),
    .del [1],
    .asg 3 (.con .non),
    .asg 4 (.con .non),
    .for_ [5] .rng1 [(.bi .len [(.idx (.idx (.var 0) (.con (.int 0))) (.con (.int 0)))])] [.asg 6 (.call n_lined_up [(.var 0), (.var 5)] []), .del [5], .asg 7 (.call n_rims_along [(.var 0), (.var 6)] []), .asg 8 (.call n_rims_along [(.var 0), (.rvs true (.var 6))] []), .for_ [9] .rng2 [(.var 2), (.bin .add (.bin .sub (.bi .len [(.var 0)]) (.var 2)) (.con (.int 1)))] [.asg 10 (.bin .add (.idx (.var 7) (.bin .sub (.var 9) (.con (.int 1)))) (.idx (.var 8) (.bin .sub (.bin .sub (.bi .len [(.var 0)]) (.var 9)) (.con (.int 1))))), .ite (.or (.cmp .isn (.var 3) (.con .non)) (.cmp .lt (.var 10) (.var 3))) [.del [3, 4], .asg 3 (.var 10), .del [10], .asg 4 (.tup [(.bi .tup [(.bi .sor [(.slc (.var 6) none (some (.var 9)))])]), (.bi .tup [(.bi .sor [(.slc (.var 6) (some (.var 9)) none)])])]), .del [9]] [.del [9, 10]]], .del [6, 7, 8]],
    .ret (.var 4)]
def d_parted : Df := ⟨11, false, b_parted⟩
-- law(script); slots 0:script 1:sides 2:way 3:room 4:cells 5:many 6:turn 7:tolds 8:k 9:found 10:cell 11:size 12:j
def b_law_26 : List Sx := [.asg 1 (.bin .add (.con (.int 2)) (.bi .int [(.cmp .eq (.bin .mod (.call n_law_cell_at [(.var 0), (.con (.int 0))] []) (.con (.int 4))) (.con (.int 1)))])),
    .asg 2 (.bin .mod (.call n_law_cell_at [(.var 0), (.con (.int 1))] []) (.con (.int 54))),
    .asg 3 (.bin .add (.con (.int 4)) (.bin .mod (.call n_law_cell_at [(.var 0), (.con (.int 2))] []) (.con (.int 13)))),
    .asg 4 (.slc (.var 0) (some (.con (.int 3))) none),
    .asg 5 (.bin .add (.bin .add (.var 3) (.con (.int 1))) (.bin .mod (.bin .div (.call n_law_cell_at [(.var 0), (.con (.int 0))] []) (.con (.int 4))) (.var 3))),
    .ite (.and (.cmp .lt (.var 3) (.bi .len [(.var 4)])) (.cmp .le (.bi .len [(.var 4)]) (.bin .mul (.con (.int 2)) (.var 3)))) [.del [5], .asg 5 (.bi .len [(.var 4)])] [],
    .asg 6 (.bin .mod (.bin .div (.call n_law_cell_at [(.var 0), (.con (.int 2))] []) (.con (.int 13))) (.con (.int 2))),
    .del [0],
    .own 7 (.lst []),
    .for_ [8] .rng1 [(.var 5)] [.asg 10 (.call n_law_cell_at [(.var 4), (.var 8)] []), .asg 11 (.idx (.lst [(.con (.int 1)), (.con (.int 1)), (.con (.int 2)), (.con (.int 9))]) (.bin .mod (.var 10) (.con (.int 4)))), .app 7 (.call n_law_told_4 [(.comp (.call n_law_thing_3 [(.bin .div (.var 10) (.con (.int 3))), (.bin .add (.bin .mul (.var 8) (.var 6)) (.var 12)), (.var 1), (.var 2)] []) [12] .rng1 [(.var 11)] none)] []), .del [8, 10, 11]],
    .frz 7,
    .del [1, 2, 4, 6],
    .asg 9 (.call n_parted [(.bi .tup [(.var 7)]), (.var 3)] []),
    .del [7],
    .ite (.or (.nt (.isi (.var 9) .tup)) (.cmp .ne (.bi .len [(.var 9)]) (.con (.int 2)))) [.ret (.con (.bl false))] [],
    .ite (.or (.nt (.call n_law_rising [(.idx (.var 9) (.con (.int 0))), (.var 3)] [])) (.nt (.call n_law_rising [(.idx (.var 9) (.con (.int 1))), (.var 3)] []))) [.ret (.con (.bl false))] [.del [3]],
    .ret (.cmp .eq (.bi .sor [(.bin .add (.idx (.var 9) (.con (.int 0))) (.idx (.var 9) (.con (.int 1))))]) (.comp (.var 8) [8] .rng1 [(.var 5)] none))]
def d_law_26 : Df := ⟨13, false, b_law_26⟩
def PL : List (Nat × Df) := [(n_box_rim, d_box_rim), (n_law_cell, d_law_cell), (n_law_even, d_law_even), (n_law_whole, d_law_whole), (n_law_box, d_law_box), (n_box_cover, d_box_cover), (n_boxes_meet, d_boxes_meet), (n_box_inside, d_box_inside), (n_law_side, d_law_side), (n_law_boxes, d_law_boxes), (n_box_common, d_box_common), (n_law_turned, d_law_turned), (n_frame_at, d_frame_at), (n_law_clip, d_law_clip), (n_law_speeds, d_law_speeds), (n_law_swath_side, d_law_swath_side), (n_law_swaths, d_law_swaths), (n_frames_joined, d_frames_joined), (n_frames_narrowed, d_frames_narrowed), (n_woven, d_woven), (n_law_cell_at, d_law_cell_at), (n_law_bits, d_law_bits), (n_law_number, d_law_number), (n_law_weaves, d_law_weaves), (n_cover_rim, d_cover_rim), (n_chosen_page, d_chosen_page), (n_law_draw, d_law_draw), (n_law_thing_3, d_law_thing_3), (n_law_told_4, d_law_told_4), (n_law_rim, d_law_rim), (n_law_both, d_law_both), (n_lined_up, d_lined_up), (n_rims_along, d_rims_along), (n_law_rising, d_law_rising), (n_parted, d_parted), (n_law_26, d_law_26)]
def P : Nat → Option Df := fun i => PL.lookup i
theorem P_box_rim : P n_box_rim = some d_box_rim := rfl
theorem P_law_cell : P n_law_cell = some d_law_cell := rfl
theorem P_law_even : P n_law_even = some d_law_even := rfl
theorem P_law_whole : P n_law_whole = some d_law_whole := rfl
theorem P_law_box : P n_law_box = some d_law_box := rfl
theorem P_box_cover : P n_box_cover = some d_box_cover := rfl
theorem P_boxes_meet : P n_boxes_meet = some d_boxes_meet := rfl
theorem P_box_inside : P n_box_inside = some d_box_inside := rfl
theorem P_law_side : P n_law_side = some d_law_side := rfl
theorem P_law_boxes : P n_law_boxes = some d_law_boxes := rfl
theorem P_box_common : P n_box_common = some d_box_common := rfl
theorem P_law_turned : P n_law_turned = some d_law_turned := rfl
theorem P_frame_at : P n_frame_at = some d_frame_at := rfl
theorem P_law_clip : P n_law_clip = some d_law_clip := rfl
theorem P_law_speeds : P n_law_speeds = some d_law_speeds := rfl
theorem P_law_swath_side : P n_law_swath_side = some d_law_swath_side := rfl
theorem P_law_swaths : P n_law_swaths = some d_law_swaths := rfl
theorem P_frames_joined : P n_frames_joined = some d_frames_joined := rfl
theorem P_frames_narrowed : P n_frames_narrowed = some d_frames_narrowed := rfl
theorem P_woven : P n_woven = some d_woven := rfl
theorem P_law_cell_at : P n_law_cell_at = some d_law_cell_at := rfl
theorem P_law_bits : P n_law_bits = some d_law_bits := rfl
theorem P_law_number : P n_law_number = some d_law_number := rfl
theorem P_law_weaves : P n_law_weaves = some d_law_weaves := rfl
theorem P_cover_rim : P n_cover_rim = some d_cover_rim := rfl
theorem P_chosen_page : P n_chosen_page = some d_chosen_page := rfl
theorem P_law_draw : P n_law_draw = some d_law_draw := rfl
theorem P_law_thing_3 : P n_law_thing_3 = some d_law_thing_3 := rfl
theorem P_law_told_4 : P n_law_told_4 = some d_law_told_4 := rfl
theorem P_law_rim : P n_law_rim = some d_law_rim := rfl
theorem P_law_both : P n_law_both = some d_law_both := rfl
theorem P_lined_up : P n_lined_up = some d_lined_up := rfl
theorem P_rims_along : P n_rims_along = some d_rims_along := rfl
theorem P_law_rising : P n_law_rising = some d_law_rising := rfl
theorem P_parted : P n_parted = some d_parted := rfl
theorem P_law_26 : P n_law_26 = some d_law_26 := rfl
end Dw

namespace Dw
open PySem
def cell (ns : List Int) (k : Nat) : Int := ns.getD k 0
theorem atI_getD {ns : List Int} {k : Nat} (h : k < ns.length) : L2.atI ns (k : Int) = some (ns.getD k 0) := by
  apply at_nat
  rw [List.getD_eq_getElem?_getD, List.getElem?_eq_getElem h]; rfl
theorem law_cell_ok (n : Nat) (ns : List Int) (k : Nat) : callN P (n + 1) n_law_cell [.lst (ns.map D.int), .int (k : Int)] = .ok (.int (cell ns k)) := by
  rw [callN_eq P_law_cell _ (by simp)]
  unfold b_law_cell cell
  simp only [bind_ok, bind_no, bind_ex, bind_ite, gd_true, getS_0, getS_s, slV_sh, slB_ow, slO_ow, setS_0, setS_s, wipe_nil, wipe_cons, frS_ow, frS_sh, frS_no, tg_one, tg_tup, setVs_nil, setVs_cons, iteD_bl, and_bl, or_bl, and_blp, or_blp, nand_blp, nor_blp, ev_var, ev_bor, ev_con, ev_glb, ev_bin, ev_neg, negD_int, ev_nt, notD_bl, ev_cmp, ev_chain, ev_and, ev_or, ev_ite, ev_tup, ev_lst, ev_idx, ev_slc, ev_rvs, rvs_L, rvs_T, ev_bi, ev_isi, lends, lent_false, ev_call, ev_nil, ev_cons, ev_none, ev_some, intD_int, evE_comp, cmpT_none, cmpT_some, compD_map, compA_nil, compA_cons, cmpC_some, cmpC_none, compA_int, goB_nx, goB_bk, goB_ct, goB_rt, goB_ex, goB_ite, xB_nil, xB_cons, getX_0, getX_s, bodyOf_for, bodyOf_while, loopB_eq, condOf_while, thenOf_ite, elseOf_ite, seg_eq, List.drop_succ_cons, List.drop_zero, List.take_succ_cons, List.take_zero, x_asg, ownD_lst, x_own, x_unp, x_aug, x_put, x_app, x_ext, x_pop, popM_app, popM_one, x_ite, x_for, forT_eq, forD_nil, forD_cons, x_ret, ret_false, ret_int, ret_bl, ret_non, ret_tup, x_retR, x_retN, x_brk, x_cnt, x_pas, x_frz, x_del, endD_rt, endD_nx, endD_ex, endD_ite, iterO_nx, iterO_ct, iterO_bk, iterO_rt, iniS_0, iniS_n, iniS_c, b_add, b_sub, b_mul, b_addT, b_addL, b_rep, b_div, b_mod, b_pow, b_shl, b_shr, b_band, b_bor, b_bxor, a_add, a_sub, c_lt, c_le, c_gt, c_ge, c_eqi, c_nei, c_eqb, c_neb, c_isn, c_nisn, c_isb, c_nisb, eqD_ii, eqD_tt, eqD_ll, eqDs_n, eqDs_c, pl_int, pl_non, pl_bl, pl_tup, pl_lst, all_ints, List.all_cons, List.all_nil, fmod_e, fdiv_e, isNon_non, isNon_int, isNon_tup, isNon_lst, x_idxT, x_idxL, idxO_some, at_0, at_1, at_2, at_3, at_4, at_5, at_6, at_7, i_lenT, i_lenL, i_min2, i_max2, i_max3, i_min3, i_abs, i_sumi, i_sori, i_sorTi, i_tupT, i_tupL, i_lstT, i_lstL, i_inti, i_intb, ty_ii, ty_ib, ty_bi, ty_bb, ty_tt, ty_ti, noIns_int, noIns_bl, noIns_tup, noIns_lst, noIns_non, noIns_str, seqOf_tup, seqOf_lst, it_seqT, it_seqL, Nat.reduceAdd, Nat.reduceSub, Nat.reduceMul, Nat.reduceEqDiff, Nat.reduceLeDiff, Int.reduceEq, Int.reduceNe, Int.reduceLT, Int.reduceLE, Int.reduceGT, Int.reduceGE, Int.reduceAdd, Int.reduceSub, Int.reduceMul, Int.reduceNeg, Int.reduceToNat, Int.reducePow, Int.reduceAbs, Int.cast_ofNat_Int, List.map_cons, List.map_nil, List.append_nil, List.nil_append, List.cons_append, List.length_cons, List.length_nil, List.length_map, decide_true, decide_false, decide_eq_true_eq, Bool.not_eq_true', decide_eq_false_iff_not, Bool.and_eq_true, Bool.or_eq_true, not_true_eq_false, not_false_eq_true, Bool.not_true, Bool.not_false, Bool.true_and, Bool.and_true, Bool.false_and, Bool.and_false, Bool.or_false, Bool.false_or, Bool.true_or, Bool.or_true, Bool.false_eq_true, if_true, if_false, ite_true, ite_false, reduceIte, ite_self, beq_self_eq_true, Bool.true_eq_false]
  by_cases h : k < ns.length
  · have h' : (k : Int) < (ns.length : Int) := by omega
    simp only [bind_ok, bind_no, bind_ex, bind_ite, gd_true, getS_0, getS_s, slV_sh, slB_ow, slO_ow, setS_0, setS_s, wipe_nil, wipe_cons, frS_ow, frS_sh, frS_no, tg_one, tg_tup, setVs_nil, setVs_cons, iteD_bl, and_bl, or_bl, and_blp, or_blp, nand_blp, nor_blp, ev_var, ev_bor, ev_con, ev_glb, ev_bin, ev_neg, negD_int, ev_nt, notD_bl, ev_cmp, ev_chain, ev_and, ev_or, ev_ite, ev_tup, ev_lst, ev_idx, ev_slc, ev_rvs, rvs_L, rvs_T, ev_bi, ev_isi, lends, lent_false, ev_call, ev_nil, ev_cons, ev_none, ev_some, intD_int, evE_comp, cmpT_none, cmpT_some, compD_map, compA_nil, compA_cons, cmpC_some, cmpC_none, compA_int, goB_nx, goB_bk, goB_ct, goB_rt, goB_ex, goB_ite, xB_nil, xB_cons, getX_0, getX_s, bodyOf_for, bodyOf_while, loopB_eq, condOf_while, thenOf_ite, elseOf_ite, seg_eq, List.drop_succ_cons, List.drop_zero, List.take_succ_cons, List.take_zero, x_asg, ownD_lst, x_own, x_unp, x_aug, x_put, x_app, x_ext, x_pop, popM_app, popM_one, x_ite, x_for, forT_eq, forD_nil, forD_cons, x_ret, ret_false, ret_int, ret_bl, ret_non, ret_tup, x_retR, x_retN, x_brk, x_cnt, x_pas, x_frz, x_del, endD_rt, endD_nx, endD_ex, endD_ite, iterO_nx, iterO_ct, iterO_bk, iterO_rt, iniS_0, iniS_n, iniS_c, b_add, b_sub, b_mul, b_addT, b_addL, b_rep, b_div, b_mod, b_pow, b_shl, b_shr, b_band, b_bor, b_bxor, a_add, a_sub, c_lt, c_le, c_gt, c_ge, c_eqi, c_nei, c_eqb, c_neb, c_isn, c_nisn, c_isb, c_nisb, eqD_ii, eqD_tt, eqD_ll, eqDs_n, eqDs_c, pl_int, pl_non, pl_bl, pl_tup, pl_lst, all_ints, List.all_cons, List.all_nil, fmod_e, fdiv_e, isNon_non, isNon_int, isNon_tup, isNon_lst, x_idxT, x_idxL, idxO_some, at_0, at_1, at_2, at_3, at_4, at_5, at_6, at_7, i_lenT, i_lenL, i_min2, i_max2, i_max3, i_min3, i_abs, i_sumi, i_sori, i_sorTi, i_tupT, i_tupL, i_lstT, i_lstL, i_inti, i_intb, ty_ii, ty_ib, ty_bi, ty_bb, ty_tt, ty_ti, noIns_int, noIns_bl, noIns_tup, noIns_lst, noIns_non, noIns_str, seqOf_tup, seqOf_lst, it_seqT, it_seqL, Nat.reduceAdd, Nat.reduceSub, Nat.reduceMul, Nat.reduceEqDiff, Nat.reduceLeDiff, Int.reduceEq, Int.reduceNe, Int.reduceLT, Int.reduceLE, Int.reduceGT, Int.reduceGE, Int.reduceAdd, Int.reduceSub, Int.reduceMul, Int.reduceNeg, Int.reduceToNat, Int.reducePow, Int.reduceAbs, Int.cast_ofNat_Int, List.map_cons, List.map_nil, List.append_nil, List.nil_append, List.cons_append, List.length_cons, List.length_nil, List.length_map, decide_true, decide_false, decide_eq_true_eq, Bool.not_eq_true', decide_eq_false_iff_not, Bool.and_eq_true, Bool.or_eq_true, not_true_eq_false, not_false_eq_true, Bool.not_true, Bool.not_false, Bool.true_and, Bool.and_true, Bool.false_and, Bool.and_false, Bool.or_false, Bool.false_or, Bool.true_or, Bool.or_true, Bool.false_eq_true, if_true, if_false, ite_true, ite_false, reduceIte, ite_self, beq_self_eq_true, Bool.true_eq_false, h', at_map, atI_getD h, Option.map_some]
  · have h' : ¬ (k : Int) < (ns.length : Int) := by omega
    simp only [bind_ok, bind_no, bind_ex, bind_ite, gd_true, getS_0, getS_s, slV_sh, slB_ow, slO_ow, setS_0, setS_s, wipe_nil, wipe_cons, frS_ow, frS_sh, frS_no, tg_one, tg_tup, setVs_nil, setVs_cons, iteD_bl, and_bl, or_bl, and_blp, or_blp, nand_blp, nor_blp, ev_var, ev_bor, ev_con, ev_glb, ev_bin, ev_neg, negD_int, ev_nt, notD_bl, ev_cmp, ev_chain, ev_and, ev_or, ev_ite, ev_tup, ev_lst, ev_idx, ev_slc, ev_rvs, rvs_L, rvs_T, ev_bi, ev_isi, lends, lent_false, ev_call, ev_nil, ev_cons, ev_none, ev_some, intD_int, evE_comp, cmpT_none, cmpT_some, compD_map, compA_nil, compA_cons, cmpC_some, cmpC_none, compA_int, goB_nx, goB_bk, goB_ct, goB_rt, goB_ex, goB_ite, xB_nil, xB_cons, getX_0, getX_s, bodyOf_for, bodyOf_while, loopB_eq, condOf_while, thenOf_ite, elseOf_ite, seg_eq, List.drop_succ_cons, List.drop_zero, List.take_succ_cons, List.take_zero, x_asg, ownD_lst, x_own, x_unp, x_aug, x_put, x_app, x_ext, x_pop, popM_app, popM_one, x_ite, x_for, forT_eq, forD_nil, forD_cons, x_ret, ret_false, ret_int, ret_bl, ret_non, ret_tup, x_retR, x_retN, x_brk, x_cnt, x_pas, x_frz, x_del, endD_rt, endD_nx, endD_ex, endD_ite, iterO_nx, iterO_ct, iterO_bk, iterO_rt, iniS_0, iniS_n, iniS_c, b_add, b_sub, b_mul, b_addT, b_addL, b_rep, b_div, b_mod, b_pow, b_shl, b_shr, b_band, b_bor, b_bxor, a_add, a_sub, c_lt, c_le, c_gt, c_ge, c_eqi, c_nei, c_eqb, c_neb, c_isn, c_nisn, c_isb, c_nisb, eqD_ii, eqD_tt, eqD_ll, eqDs_n, eqDs_c, pl_int, pl_non, pl_bl, pl_tup, pl_lst, all_ints, List.all_cons, List.all_nil, fmod_e, fdiv_e, isNon_non, isNon_int, isNon_tup, isNon_lst, x_idxT, x_idxL, idxO_some, at_0, at_1, at_2, at_3, at_4, at_5, at_6, at_7, i_lenT, i_lenL, i_min2, i_max2, i_max3, i_min3, i_abs, i_sumi, i_sori, i_sorTi, i_tupT, i_tupL, i_lstT, i_lstL, i_inti, i_intb, ty_ii, ty_ib, ty_bi, ty_bb, ty_tt, ty_ti, noIns_int, noIns_bl, noIns_tup, noIns_lst, noIns_non, noIns_str, seqOf_tup, seqOf_lst, it_seqT, it_seqL, Nat.reduceAdd, Nat.reduceSub, Nat.reduceMul, Nat.reduceEqDiff, Nat.reduceLeDiff, Int.reduceEq, Int.reduceNe, Int.reduceLT, Int.reduceLE, Int.reduceGT, Int.reduceGE, Int.reduceAdd, Int.reduceSub, Int.reduceMul, Int.reduceNeg, Int.reduceToNat, Int.reducePow, Int.reduceAbs, Int.cast_ofNat_Int, List.map_cons, List.map_nil, List.append_nil, List.nil_append, List.cons_append, List.length_cons, List.length_nil, List.length_map, decide_true, decide_false, decide_eq_true_eq, Bool.not_eq_true', decide_eq_false_iff_not, Bool.and_eq_true, Bool.or_eq_true, not_true_eq_false, not_false_eq_true, Bool.not_true, Bool.not_false, Bool.true_and, Bool.and_true, Bool.false_and, Bool.and_false, Bool.or_false, Bool.false_or, Bool.true_or, Bool.or_true, Bool.false_eq_true, if_true, if_false, ite_true, ite_false, reduceIte, ite_self, beq_self_eq_true, Bool.true_eq_false, h']
    rw [List.getD_eq_getElem?_getD, List.getElem?_eq_none (by omega)]; rfl
def even (c m : Int) : Int := if c % (2 * m + 1) > m then c % (2 * m + 1) - (2 * m + 1) else c % (2 * m + 1)
theorem law_even_ok (n : Nat) (c m : Int) (h : 0 ≤ m) : callN P (n + 1) n_law_even [.int c, .int m] = .ok (.int (even c m)) := by
  rw [callN_eq P_law_even _ (by simp)]
  unfold b_law_even even
  have h1 : mulOk 2 m = true := mul_ok1 (by decide)
  have h2 : ¬ (2 * m + 1 = 0) := by omega
  simp only [bind_ok, bind_no, bind_ex, bind_ite, gd_true, getS_0, getS_s, slV_sh, slB_ow, slO_ow, setS_0, setS_s, wipe_nil, wipe_cons, frS_ow, frS_sh, frS_no, tg_one, tg_tup, setVs_nil, setVs_cons, iteD_bl, and_bl, or_bl, and_blp, or_blp, nand_blp, nor_blp, ev_var, ev_bor, ev_con, ev_glb, ev_bin, ev_neg, negD_int, ev_nt, notD_bl, ev_cmp, ev_chain, ev_and, ev_or, ev_ite, ev_tup, ev_lst, ev_idx, ev_slc, ev_rvs, rvs_L, rvs_T, ev_bi, ev_isi, lends, lent_false, ev_call, ev_nil, ev_cons, ev_none, ev_some, intD_int, evE_comp, cmpT_none, cmpT_some, compD_map, compA_nil, compA_cons, cmpC_some, cmpC_none, compA_int, goB_nx, goB_bk, goB_ct, goB_rt, goB_ex, goB_ite, xB_nil, xB_cons, getX_0, getX_s, bodyOf_for, bodyOf_while, loopB_eq, condOf_while, thenOf_ite, elseOf_ite, seg_eq, List.drop_succ_cons, List.drop_zero, List.take_succ_cons, List.take_zero, x_asg, ownD_lst, x_own, x_unp, x_aug, x_put, x_app, x_ext, x_pop, popM_app, popM_one, x_ite, x_for, forT_eq, forD_nil, forD_cons, x_ret, ret_false, ret_int, ret_bl, ret_non, ret_tup, x_retR, x_retN, x_brk, x_cnt, x_pas, x_frz, x_del, endD_rt, endD_nx, endD_ex, endD_ite, iterO_nx, iterO_ct, iterO_bk, iterO_rt, iniS_0, iniS_n, iniS_c, b_add, b_sub, b_mul, b_addT, b_addL, b_rep, b_div, b_mod, b_pow, b_shl, b_shr, b_band, b_bor, b_bxor, a_add, a_sub, c_lt, c_le, c_gt, c_ge, c_eqi, c_nei, c_eqb, c_neb, c_isn, c_nisn, c_isb, c_nisb, eqD_ii, eqD_tt, eqD_ll, eqDs_n, eqDs_c, pl_int, pl_non, pl_bl, pl_tup, pl_lst, all_ints, List.all_cons, List.all_nil, fmod_e, fdiv_e, isNon_non, isNon_int, isNon_tup, isNon_lst, x_idxT, x_idxL, idxO_some, at_0, at_1, at_2, at_3, at_4, at_5, at_6, at_7, i_lenT, i_lenL, i_min2, i_max2, i_max3, i_min3, i_abs, i_sumi, i_sori, i_sorTi, i_tupT, i_tupL, i_lstT, i_lstL, i_inti, i_intb, ty_ii, ty_ib, ty_bi, ty_bb, ty_tt, ty_ti, noIns_int, noIns_bl, noIns_tup, noIns_lst, noIns_non, noIns_str, seqOf_tup, seqOf_lst, it_seqT, it_seqL, Nat.reduceAdd, Nat.reduceSub, Nat.reduceMul, Nat.reduceEqDiff, Nat.reduceLeDiff, Int.reduceEq, Int.reduceNe, Int.reduceLT, Int.reduceLE, Int.reduceGT, Int.reduceGE, Int.reduceAdd, Int.reduceSub, Int.reduceMul, Int.reduceNeg, Int.reduceToNat, Int.reducePow, Int.reduceAbs, Int.cast_ofNat_Int, List.map_cons, List.map_nil, List.append_nil, List.nil_append, List.cons_append, List.length_cons, List.length_nil, List.length_map, decide_true, decide_false, decide_eq_true_eq, Bool.not_eq_true', decide_eq_false_iff_not, Bool.and_eq_true, Bool.or_eq_true, not_true_eq_false, not_false_eq_true, Bool.not_true, Bool.not_false, Bool.true_and, Bool.and_true, Bool.false_and, Bool.and_false, Bool.or_false, Bool.false_or, Bool.true_or, Bool.or_true, Bool.false_eq_true, if_true, if_false, ite_true, ite_false, reduceIte, ite_self, beq_self_eq_true, Bool.true_eq_false, h1, h2, fmod_e (show 0 ≤ 2 * m + 1 by omega), decide_false]
  split <;> rfl
theorem law_whole_ok (n : Nat) (i : Int) : callN P (n + 1) n_law_whole [.int i] = .ok (.bl true) := by
  rw [callN_eq P_law_whole _ (by simp)]
  unfold b_law_whole
  simp only [bind_ok, bind_no, bind_ex, bind_ite, gd_true, getS_0, getS_s, slV_sh, slB_ow, slO_ow, setS_0, setS_s, wipe_nil, wipe_cons, frS_ow, frS_sh, frS_no, tg_one, tg_tup, setVs_nil, setVs_cons, iteD_bl, and_bl, or_bl, and_blp, or_blp, nand_blp, nor_blp, ev_var, ev_bor, ev_con, ev_glb, ev_bin, ev_neg, negD_int, ev_nt, notD_bl, ev_cmp, ev_chain, ev_and, ev_or, ev_ite, ev_tup, ev_lst, ev_idx, ev_slc, ev_rvs, rvs_L, rvs_T, ev_bi, ev_isi, lends, lent_false, ev_call, ev_nil, ev_cons, ev_none, ev_some, intD_int, evE_comp, cmpT_none, cmpT_some, compD_map, compA_nil, compA_cons, cmpC_some, cmpC_none, compA_int, goB_nx, goB_bk, goB_ct, goB_rt, goB_ex, goB_ite, xB_nil, xB_cons, getX_0, getX_s, bodyOf_for, bodyOf_while, loopB_eq, condOf_while, thenOf_ite, elseOf_ite, seg_eq, List.drop_succ_cons, List.drop_zero, List.take_succ_cons, List.take_zero, x_asg, ownD_lst, x_own, x_unp, x_aug, x_put, x_app, x_ext, x_pop, popM_app, popM_one, x_ite, x_for, forT_eq, forD_nil, forD_cons, x_ret, ret_false, ret_int, ret_bl, ret_non, ret_tup, x_retR, x_retN, x_brk, x_cnt, x_pas, x_frz, x_del, endD_rt, endD_nx, endD_ex, endD_ite, iterO_nx, iterO_ct, iterO_bk, iterO_rt, iniS_0, iniS_n, iniS_c, b_add, b_sub, b_mul, b_addT, b_addL, b_rep, b_div, b_mod, b_pow, b_shl, b_shr, b_band, b_bor, b_bxor, a_add, a_sub, c_lt, c_le, c_gt, c_ge, c_eqi, c_nei, c_eqb, c_neb, c_isn, c_nisn, c_isb, c_nisb, eqD_ii, eqD_tt, eqD_ll, eqDs_n, eqDs_c, pl_int, pl_non, pl_bl, pl_tup, pl_lst, all_ints, List.all_cons, List.all_nil, fmod_e, fdiv_e, isNon_non, isNon_int, isNon_tup, isNon_lst, x_idxT, x_idxL, idxO_some, at_0, at_1, at_2, at_3, at_4, at_5, at_6, at_7, i_lenT, i_lenL, i_min2, i_max2, i_max3, i_min3, i_abs, i_sumi, i_sori, i_sorTi, i_tupT, i_tupL, i_lstT, i_lstL, i_inti, i_intb, ty_ii, ty_ib, ty_bi, ty_bb, ty_tt, ty_ti, noIns_int, noIns_bl, noIns_tup, noIns_lst, noIns_non, noIns_str, seqOf_tup, seqOf_lst, it_seqT, it_seqL, Nat.reduceAdd, Nat.reduceSub, Nat.reduceMul, Nat.reduceEqDiff, Nat.reduceLeDiff, Int.reduceEq, Int.reduceNe, Int.reduceLT, Int.reduceLE, Int.reduceGT, Int.reduceGE, Int.reduceAdd, Int.reduceSub, Int.reduceMul, Int.reduceNeg, Int.reduceToNat, Int.reducePow, Int.reduceAbs, Int.cast_ofNat_Int, List.map_cons, List.map_nil, List.append_nil, List.nil_append, List.cons_append, List.length_cons, List.length_nil, List.length_map, decide_true, decide_false, decide_eq_true_eq, Bool.not_eq_true', decide_eq_false_iff_not, Bool.and_eq_true, Bool.or_eq_true, not_true_eq_false, not_false_eq_true, Bool.not_true, Bool.not_false, Bool.true_and, Bool.and_true, Bool.false_and, Bool.and_false, Bool.or_false, Bool.false_or, Bool.true_or, Bool.or_true, Bool.false_eq_true, if_true, if_false, ite_true, ite_false, reduceIte, ite_self, beq_self_eq_true, Bool.true_eq_false]
theorem law_cell_i (n : Nat) (ns : List Int) {i : Int} (h : 0 ≤ i) : callN P (n + 1) n_law_cell [.lst (ns.map D.int), .int i] = .ok (.int (cell ns i.toNat)) := by
  have := law_cell_ok n ns i.toNat
  rwa [show ((i.toNat : Nat) : Int) = i by omega] at this
theorem nn_add (n : Nat) (k : Nat) : 0 ≤ (OfNat.ofNat n : Int) + (k : Int) := by
  have : (0 : Int) ≤ OfNat.ofNat n := Int.natCast_nonneg n
  omega
def encP (p : Int × Int) : D := .tup [.int p.1, .int p.2]
def encB (b : List (Int × Int)) : D := .tup (b.map encP)
theorem law_box_ok (n : Nat) (b : List (Int × Int)) {s : Int} (h : (b.length : Int) = s) : callN P (n + 2) n_law_box [encB b, .int s] = .ok (.bl true) := by
  rw [callN_eq P_law_box _ (by simp)]
  unfold b_law_box encB
  simp only [bind_ok, bind_no, bind_ex, bind_ite, gd_true, getS_0, getS_s, slV_sh, slB_ow, slO_ow, setS_0, setS_s, wipe_nil, wipe_cons, frS_ow, frS_sh, frS_no, tg_one, tg_tup, setVs_nil, setVs_cons, iteD_bl, and_bl, or_bl, and_blp, or_blp, nand_blp, nor_blp, ev_var, ev_bor, ev_con, ev_glb, ev_bin, ev_neg, negD_int, ev_nt, notD_bl, ev_cmp, ev_chain, ev_and, ev_or, ev_ite, ev_tup, ev_lst, ev_idx, ev_slc, ev_rvs, rvs_L, rvs_T, ev_bi, ev_isi, lends, lent_false, ev_call, ev_nil, ev_cons, ev_none, ev_some, intD_int, evE_comp, cmpT_none, cmpT_some, compD_map, compA_nil, compA_cons, cmpC_some, cmpC_none, compA_int, goB_nx, goB_bk, goB_ct, goB_rt, goB_ex, goB_ite, xB_nil, xB_cons, getX_0, getX_s, bodyOf_for, bodyOf_while, loopB_eq, condOf_while, thenOf_ite, elseOf_ite, seg_eq, List.drop_succ_cons, List.drop_zero, List.take_succ_cons, List.take_zero, x_asg, ownD_lst, x_own, x_unp, x_aug, x_put, x_app, x_ext, x_pop, popM_app, popM_one, x_ite, x_for, forT_eq, forD_nil, forD_cons, x_ret, ret_false, ret_int, ret_bl, ret_non, ret_tup, x_retR, x_retN, x_brk, x_cnt, x_pas, x_frz, x_del, endD_rt, endD_nx, endD_ex, endD_ite, iterO_nx, iterO_ct, iterO_bk, iterO_rt, iniS_0, iniS_n, iniS_c, b_add, b_sub, b_mul, b_addT, b_addL, b_rep, b_div, b_mod, b_pow, b_shl, b_shr, b_band, b_bor, b_bxor, a_add, a_sub, c_lt, c_le, c_gt, c_ge, c_eqi, c_nei, c_eqb, c_neb, c_isn, c_nisn, c_isb, c_nisb, eqD_ii, eqD_tt, eqD_ll, eqDs_n, eqDs_c, pl_int, pl_non, pl_bl, pl_tup, pl_lst, all_ints, List.all_cons, List.all_nil, fmod_e, fdiv_e, isNon_non, isNon_int, isNon_tup, isNon_lst, x_idxT, x_idxL, idxO_some, at_0, at_1, at_2, at_3, at_4, at_5, at_6, at_7, i_lenT, i_lenL, i_min2, i_max2, i_max3, i_min3, i_abs, i_sumi, i_sori, i_sorTi, i_tupT, i_tupL, i_lstT, i_lstL, i_inti, i_intb, ty_ii, ty_ib, ty_bi, ty_bb, ty_tt, ty_ti, noIns_int, noIns_bl, noIns_tup, noIns_lst, noIns_non, noIns_str, seqOf_tup, seqOf_lst, it_seqT, it_seqL, Nat.reduceAdd, Nat.reduceSub, Nat.reduceMul, Nat.reduceEqDiff, Nat.reduceLeDiff, Int.reduceEq, Int.reduceNe, Int.reduceLT, Int.reduceLE, Int.reduceGT, Int.reduceGE, Int.reduceAdd, Int.reduceSub, Int.reduceMul, Int.reduceNeg, Int.reduceToNat, Int.reducePow, Int.reduceAbs, Int.cast_ofNat_Int, List.map_cons, List.map_nil, List.append_nil, List.nil_append, List.cons_append, List.length_cons, List.length_nil, List.length_map, decide_true, decide_false, decide_eq_true_eq, Bool.not_eq_true', decide_eq_false_iff_not, Bool.and_eq_true, Bool.or_eq_true, not_true_eq_false, not_false_eq_true, Bool.not_true, Bool.not_false, Bool.true_and, Bool.and_true, Bool.false_and, Bool.and_false, Bool.or_false, Bool.false_or, Bool.true_or, Bool.or_true, Bool.false_eq_true, if_true, if_false, ite_true, ite_false, reduceIte, ite_self, beq_self_eq_true, Bool.true_eq_false, h]
  rw [forD_all (ρ := _) (enc := encP) b]
  · simp only [bind_ok, bind_no, bind_ex, bind_ite, gd_true, getS_0, getS_s, slV_sh, slB_ow, slO_ow, setS_0, setS_s, wipe_nil, wipe_cons, frS_ow, frS_sh, frS_no, tg_one, tg_tup, setVs_nil, setVs_cons, iteD_bl, and_bl, or_bl, and_blp, or_blp, nand_blp, nor_blp, ev_var, ev_bor, ev_con, ev_glb, ev_bin, ev_neg, negD_int, ev_nt, notD_bl, ev_cmp, ev_chain, ev_and, ev_or, ev_ite, ev_tup, ev_lst, ev_idx, ev_slc, ev_rvs, rvs_L, rvs_T, ev_bi, ev_isi, lends, lent_false, ev_call, ev_nil, ev_cons, ev_none, ev_some, intD_int, evE_comp, cmpT_none, cmpT_some, compD_map, compA_nil, compA_cons, cmpC_some, cmpC_none, compA_int, goB_nx, goB_bk, goB_ct, goB_rt, goB_ex, goB_ite, xB_nil, xB_cons, getX_0, getX_s, bodyOf_for, bodyOf_while, loopB_eq, condOf_while, thenOf_ite, elseOf_ite, seg_eq, List.drop_succ_cons, List.drop_zero, List.take_succ_cons, List.take_zero, x_asg, ownD_lst, x_own, x_unp, x_aug, x_put, x_app, x_ext, x_pop, popM_app, popM_one, x_ite, x_for, forT_eq, forD_nil, forD_cons, x_ret, ret_false, ret_int, ret_bl, ret_non, ret_tup, x_retR, x_retN, x_brk, x_cnt, x_pas, x_frz, x_del, endD_rt, endD_nx, endD_ex, endD_ite, iterO_nx, iterO_ct, iterO_bk, iterO_rt, iniS_0, iniS_n, iniS_c, b_add, b_sub, b_mul, b_addT, b_addL, b_rep, b_div, b_mod, b_pow, b_shl, b_shr, b_band, b_bor, b_bxor, a_add, a_sub, c_lt, c_le, c_gt, c_ge, c_eqi, c_nei, c_eqb, c_neb, c_isn, c_nisn, c_isb, c_nisb, eqD_ii, eqD_tt, eqD_ll, eqDs_n, eqDs_c, pl_int, pl_non, pl_bl, pl_tup, pl_lst, all_ints, List.all_cons, List.all_nil, fmod_e, fdiv_e, isNon_non, isNon_int, isNon_tup, isNon_lst, x_idxT, x_idxL, idxO_some, at_0, at_1, at_2, at_3, at_4, at_5, at_6, at_7, i_lenT, i_lenL, i_min2, i_max2, i_max3, i_min3, i_abs, i_sumi, i_sori, i_sorTi, i_tupT, i_tupL, i_lstT, i_lstL, i_inti, i_intb, ty_ii, ty_ib, ty_bi, ty_bb, ty_tt, ty_ti, noIns_int, noIns_bl, noIns_tup, noIns_lst, noIns_non, noIns_str, seqOf_tup, seqOf_lst, it_seqT, it_seqL, Nat.reduceAdd, Nat.reduceSub, Nat.reduceMul, Nat.reduceEqDiff, Nat.reduceLeDiff, Int.reduceEq, Int.reduceNe, Int.reduceLT, Int.reduceLE, Int.reduceGT, Int.reduceGE, Int.reduceAdd, Int.reduceSub, Int.reduceMul, Int.reduceNeg, Int.reduceToNat, Int.reducePow, Int.reduceAbs, Int.cast_ofNat_Int, List.map_cons, List.map_nil, List.append_nil, List.nil_append, List.cons_append, List.length_cons, List.length_nil, List.length_map, decide_true, decide_false, decide_eq_true_eq, Bool.not_eq_true', decide_eq_false_iff_not, Bool.and_eq_true, Bool.or_eq_true, not_true_eq_false, not_false_eq_true, Bool.not_true, Bool.not_false, Bool.true_and, Bool.and_true, Bool.false_and, Bool.and_false, Bool.or_false, Bool.false_or, Bool.true_or, Bool.or_true, Bool.false_eq_true, if_true, if_false, ite_true, ite_false, reduceIte, ite_self, beq_self_eq_true, Bool.true_eq_false]
  · intro p _
    unfold encP
    simp only [bind_ok, bind_no, bind_ex, bind_ite, gd_true, getS_0, getS_s, slV_sh, slB_ow, slO_ow, setS_0, setS_s, wipe_nil, wipe_cons, frS_ow, frS_sh, frS_no, tg_one, tg_tup, setVs_nil, setVs_cons, iteD_bl, and_bl, or_bl, and_blp, or_blp, nand_blp, nor_blp, ev_var, ev_bor, ev_con, ev_glb, ev_bin, ev_neg, negD_int, ev_nt, notD_bl, ev_cmp, ev_chain, ev_and, ev_or, ev_ite, ev_tup, ev_lst, ev_idx, ev_slc, ev_rvs, rvs_L, rvs_T, ev_bi, ev_isi, lends, lent_false, ev_call, ev_nil, ev_cons, ev_none, ev_some, intD_int, evE_comp, cmpT_none, cmpT_some, compD_map, compA_nil, compA_cons, cmpC_some, cmpC_none, compA_int, goB_nx, goB_bk, goB_ct, goB_rt, goB_ex, goB_ite, xB_nil, xB_cons, getX_0, getX_s, bodyOf_for, bodyOf_while, loopB_eq, condOf_while, thenOf_ite, elseOf_ite, seg_eq, List.drop_succ_cons, List.drop_zero, List.take_succ_cons, List.take_zero, x_asg, ownD_lst, x_own, x_unp, x_aug, x_put, x_app, x_ext, x_pop, popM_app, popM_one, x_ite, x_for, forT_eq, forD_nil, forD_cons, x_ret, ret_false, ret_int, ret_bl, ret_non, ret_tup, x_retR, x_retN, x_brk, x_cnt, x_pas, x_frz, x_del, endD_rt, endD_nx, endD_ex, endD_ite, iterO_nx, iterO_ct, iterO_bk, iterO_rt, iniS_0, iniS_n, iniS_c, b_add, b_sub, b_mul, b_addT, b_addL, b_rep, b_div, b_mod, b_pow, b_shl, b_shr, b_band, b_bor, b_bxor, a_add, a_sub, c_lt, c_le, c_gt, c_ge, c_eqi, c_nei, c_eqb, c_neb, c_isn, c_nisn, c_isb, c_nisb, eqD_ii, eqD_tt, eqD_ll, eqDs_n, eqDs_c, pl_int, pl_non, pl_bl, pl_tup, pl_lst, all_ints, List.all_cons, List.all_nil, fmod_e, fdiv_e, isNon_non, isNon_int, isNon_tup, isNon_lst, x_idxT, x_idxL, idxO_some, at_0, at_1, at_2, at_3, at_4, at_5, at_6, at_7, i_lenT, i_lenL, i_min2, i_max2, i_max3, i_min3, i_abs, i_sumi, i_sori, i_sorTi, i_tupT, i_tupL, i_lstT, i_lstL, i_inti, i_intb, ty_ii, ty_ib, ty_bi, ty_bb, ty_tt, ty_ti, noIns_int, noIns_bl, noIns_tup, noIns_lst, noIns_non, noIns_str, seqOf_tup, seqOf_lst, it_seqT, it_seqL, Nat.reduceAdd, Nat.reduceSub, Nat.reduceMul, Nat.reduceEqDiff, Nat.reduceLeDiff, Int.reduceEq, Int.reduceNe, Int.reduceLT, Int.reduceLE, Int.reduceGT, Int.reduceGE, Int.reduceAdd, Int.reduceSub, Int.reduceMul, Int.reduceNeg, Int.reduceToNat, Int.reducePow, Int.reduceAbs, Int.cast_ofNat_Int, List.map_cons, List.map_nil, List.append_nil, List.nil_append, List.cons_append, List.length_cons, List.length_nil, List.length_map, decide_true, decide_false, decide_eq_true_eq, Bool.not_eq_true', decide_eq_false_iff_not, Bool.and_eq_true, Bool.or_eq_true, not_true_eq_false, not_false_eq_true, Bool.not_true, Bool.not_false, Bool.true_and, Bool.and_true, Bool.false_and, Bool.and_false, Bool.or_false, Bool.false_or, Bool.true_or, Bool.or_true, Bool.false_eq_true, if_true, if_false, ite_true, ite_false, reduceIte, ite_self, beq_self_eq_true, Bool.true_eq_false, law_whole_ok]
end Dw
namespace Dw
open PySem
theorem sides_of (c : Int) : ∃ s : Nat, (s = 2 ∨ s = 3) ∧ 2 + c % 2 = (s : Int) := by
  rcases Int.emod_two_eq c with e | e <;> rw [e]
  · exact ⟨2, .inl rfl, rfl⟩
  · exact ⟨3, .inr rfl, rfl⟩
theorem even_range (c m : Int) (h : 0 ≤ m) : -m ≤ even c m ∧ even c m ≤ m := by
  unfold even
  have h1 := Int.emod_nonneg c (show 2 * m + 1 ≠ 0 by omega)
  have h2 := Int.emod_lt_of_pos c (show 0 < 2 * m + 1 by omega)
  split <;> omega
end Dw
namespace Dw
theorem len2 {α : Type} {l : List α} (h : l.length = 2) : ∃ a b, l = [a, b] := by
  match l, h with
  | [a, b], _ => exact ⟨a, b, rfl⟩
theorem len3 {α : Type} {l : List α} (h : l.length = 3) : ∃ a b c, l = [a, b, c] := by
  match l, h with
  | [a, b, c], _ => exact ⟨a, b, c, rfl⟩
theorem range2 : List.range 2 = [0, 1] := rfl
theorem range3 : List.range 3 = [0, 1, 2] := rfl
end Dw
namespace Dw
open PySem
def cut (xs : List Int) (a b : Int) : List Int := (xs.drop (HT.sIx xs.length 0 (some a))).take (HT.sIx xs.length xs.length (some b) - HT.sIx xs.length 0 (some a))
theorem slc_ints (xs : List Int) (a b : Int) : slcD (.lst (xs.map D.int)) (some a) (some b) = .ok (.lst ((cut xs a b).map D.int)) := slc_L D.int xs (some a) (some b)
theorem cut_len (xs : List Int) {a b : Int} (h0 : 0 ≤ a) (h : a ≤ b) : (cut xs a b).length ≤ (b - a).toNat := by
  unfold cut
  rw [sIx_int _ _ h0, sIx_int _ _ (by omega), List.length_take]
  omega
theorem cut_le (xs : List Int) {a b : Int} : (cut xs a b).length ≤ xs.length := by
  unfold cut
  rw [List.length_take, List.length_drop]
  omega
theorem rep0 (n : Nat) (z : Int) : (List.replicate n [D.int z]).flatten = (List.replicate n z).map D.int := by
  induction n with
  | zero => rfl
  | succ n ih => rw [List.replicate_succ, List.flatten_cons, ih, List.replicate_succ, List.map_cons]; rfl
theorem b_rep0 {j : Int} (z : Int) (h : -1000000 ≤ j) (h' : j ≤ 1000000) : binD .rep (.lst [.int z]) (.int j) = .ok (.lst ((List.replicate j.toNat z).map D.int)) := by
  rw [b_rep, rep0, decide_eq_true (by omega), decide_eq_true (by omega), fits_of (by simp only [List.length_cons, List.length_nil]; omega)]
  rfl
theorem b_addI {xs ys : List Int} (h : xs.length + ys.length ≤ 1000000) : binD .add (.lst (xs.map D.int)) (.lst (ys.map D.int)) = .ok (.lst ((xs ++ ys).map D.int)) := by
  rw [b_addL, fits_of (by rw [List.length_map, List.length_map]; exact h), List.map_append]; rfl
theorem at_int {α : Type} {xs : List α} {i : Int} (h0 : 0 ≤ i) (h1 : i < xs.length) : ∃ x, x ∈ xs ∧ xs[i.toNat]? = some x ∧ L2.atI xs i = some x := by
  have hi : i.toNat < xs.length := by omega
  exact ⟨xs[i.toNat], List.getElem_mem hi, List.getElem?_eq_getElem hi, by rw [at_lt h0 h1, List.getElem?_eq_getElem hi]⟩
theorem two_of {α : Type} {l : List α} (h : 2 ≤ l.length) : ∃ a b r, l = a :: b :: r := by
  cases l with
  | nil => simp at h
  | cons a l =>
    cases l with
    | nil => simp at h
    | cons b r => exact ⟨a, b, r, rfl⟩
theorem one_of {α : Type} {l : List α} (h : 1 ≤ l.length) : ∃ a r, l = a :: r := by
  cases l with
  | nil => simp at h
  | cons a l => exact ⟨a, l, rfl⟩
end Dw

namespace Dw
open PySem
def most2 : Int := 2000000000000000000000000000000
def GS (p : Int × Int) : Prop := -2000000000000000000000000000000 ≤ p.1 ∧ p.1 ≤ p.2 ∧ p.2 ≤ 2000000000000000000000000000000
theorem emod_bd (a b : Int) (h : 0 < b) : 0 ≤ a % b ∧ a % b < b := ⟨Int.emod_nonneg _ (by omega), Int.emod_lt_of_pos _ h⟩
theorem div_ok' {j : Int} (h : j ≠ 0) (h2 : j.natAbs < 2 ^ 1000) : divOk j = true := by
  unfold divOk mulB
  rw [decide_eq_false h, decide_eq_true (Nat.lt_of_lt_of_le h2 (by decide))]; rfl
theorem law_side_ok (n : Nat) (l : Int × Int) (c o : Int) (h : GS l) : ∃ p, callN P (n + 2) n_law_side [encP l, .int c, .int o] = .ok (encP p) ∧ GS p := by
  rw [callN_eq P_law_side _ (by simp)]
  unfold b_law_side encP
  have h30 : powOk 10 30 = true := by decide
  have hm : mulOk 2 1000000000000000000000000000000 = true := by decide
  have hp : (0 : Int) ≤ 2000000000000000000000000000000 := by decide
  have d7 : divOk 7 = true := by decide
  have d2 : divOk 2 = true := by decide
  obtain ⟨l1, l2⟩ := l
  obtain ⟨g1, g2, g3⟩ := h
  simp only at g1 g2 g3
  have e1 := even_range (c / 7) 2000000000000000000000000000000 hp
  have e2 := even_range o 2000000000000000000000000000000 hp
  have hd : ¬ (l2 - l1 + 1 = 0) := by omega
  have m1 := emod_bd (c / 7) (l2 - l1 + 1) (by omega)
  have hd2 : ¬ (l2 - (l1 + c / 7 % (l2 - l1 + 1)) + 1 = 0) := by omega
  have m2 := emod_bd o (l2 - (l1 + c / 7 % (l2 - l1 + 1)) + 1) (by omega)
  have hp2 : 0 ≤ l2 - l1 + 1 := by omega
  have hp3 : 0 ≤ l2 - (l1 + c / 7 % (l2 - l1 + 1)) + 1 := by omega
  have m3 := emod_bd o 2 (by decide)
  have m4 := emod_bd (o / 2) 2 (by decide)
  simp only [bind_ok, bind_no, bind_ex, bind_ite, gd_true, getS_0, getS_s, slV_sh, slB_ow, slO_ow, setS_0, setS_s, wipe_nil, wipe_cons, frS_ow, frS_sh, frS_no, tg_one, tg_tup, setVs_nil, setVs_cons, iteD_bl, and_bl, or_bl, and_blp, or_blp, nand_blp, nor_blp, ev_var, ev_bor, ev_con, ev_glb, ev_bin, ev_neg, negD_int, ev_nt, notD_bl, ev_cmp, ev_chain, ev_and, ev_or, ev_ite, ev_tup, ev_lst, ev_idx, ev_slc, ev_rvs, rvs_L, rvs_T, ev_bi, ev_isi, lends, lent_false, ev_call, ev_nil, ev_cons, ev_none, ev_some, intD_int, evE_comp, cmpT_none, cmpT_some, compD_map, compA_nil, compA_cons, cmpC_some, cmpC_none, compA_int, goB_nx, goB_bk, goB_ct, goB_rt, goB_ex, goB_ite, xB_nil, xB_cons, getX_0, getX_s, bodyOf_for, bodyOf_while, loopB_eq, condOf_while, thenOf_ite, elseOf_ite, seg_eq, List.drop_succ_cons, List.drop_zero, List.take_succ_cons, List.take_zero, x_asg, ownD_lst, x_own, x_unp, x_aug, x_put, x_app, x_ext, x_pop, popM_app, popM_one, x_ite, x_for, forT_eq, forD_nil, forD_cons, x_ret, ret_false, ret_int, ret_bl, ret_non, ret_tup, x_retR, x_retN, x_brk, x_cnt, x_pas, x_frz, x_del, endD_rt, endD_nx, endD_ex, endD_ite, iterO_nx, iterO_ct, iterO_bk, iterO_rt, iniS_0, iniS_n, iniS_c, b_add, b_sub, b_mul, b_addT, b_addL, b_rep, b_div, b_mod, b_pow, b_shl, b_shr, b_band, b_bor, b_bxor, a_add, a_sub, c_lt, c_le, c_gt, c_ge, c_eqi, c_nei, c_eqb, c_neb, c_isn, c_nisn, c_isb, c_nisb, eqD_ii, eqD_tt, eqD_ll, eqDs_n, eqDs_c, pl_int, pl_non, pl_bl, pl_tup, pl_lst, all_ints, List.all_cons, List.all_nil, fmod_e, fdiv_e, isNon_non, isNon_int, isNon_tup, isNon_lst, x_idxT, x_idxL, idxO_some, at_0, at_1, at_2, at_3, at_4, at_5, at_6, at_7, i_lenT, i_lenL, i_min2, i_max2, i_max3, i_min3, i_abs, i_sumi, i_sori, i_sorTi, i_tupT, i_tupL, i_lstT, i_lstL, i_inti, i_intb, ty_ii, ty_ib, ty_bi, ty_bb, ty_tt, ty_ti, noIns_int, noIns_bl, noIns_tup, noIns_lst, noIns_non, noIns_str, seqOf_tup, seqOf_lst, it_seqT, it_seqL, Nat.reduceAdd, Nat.reduceSub, Nat.reduceMul, Nat.reduceEqDiff, Nat.reduceLeDiff, Int.reduceEq, Int.reduceNe, Int.reduceLT, Int.reduceLE, Int.reduceGT, Int.reduceGE, Int.reduceAdd, Int.reduceSub, Int.reduceMul, Int.reduceNeg, Int.reduceToNat, Int.reducePow, Int.reduceAbs, Int.cast_ofNat_Int, List.map_cons, List.map_nil, List.append_nil, List.nil_append, List.cons_append, List.length_cons, List.length_nil, List.length_map, decide_true, decide_false, decide_eq_true_eq, Bool.not_eq_true', decide_eq_false_iff_not, Bool.and_eq_true, Bool.or_eq_true, not_true_eq_false, not_false_eq_true, Bool.not_true, Bool.not_false, Bool.true_and, Bool.and_true, Bool.false_and, Bool.and_false, Bool.or_false, Bool.false_or, Bool.true_or, Bool.or_true, Bool.false_eq_true, if_true, if_false, ite_true, ite_false, reduceIte, ite_self, beq_self_eq_true, Bool.true_eq_false, h30, hm, law_even_ok, hp, d7, d2, hd, hd2, hp2, hp3]
  split
  · exact ⟨(_, _), rfl, by unfold GS; simp only; omega⟩
  split
  · exact ⟨(_, _), rfl, by unfold GS; simp only; omega⟩
  split
  · exact ⟨(_, _), rfl, by unfold GS; simp only; omega⟩
  split
  · exact ⟨(_, _), rfl, by unfold GS; simp only; omega⟩
  split
  · exact ⟨(_, _), rfl, by unfold GS; simp only; omega⟩
  split
  · exact ⟨(_, _), rfl, by unfold GS; simp only; omega⟩
  · exact ⟨(_, _), rfl, by unfold GS; simp only; omega⟩
def Box (s : Nat) (b : List (Int × Int)) : Prop := b.length = s ∧ ∀ p ∈ b, GS p
def bodyBoxes : List Sx := [.asg 8 (.slc (.var 0) (some (.bin .mul (.var 5) (.var 7))) (some (.bin .add (.bin .mul (.var 5) (.var 7)) (.var 5)))), .del [7], .asg 8 (.bin .add (.var 8) (.bin .rep (.lst [(.con (.int 0))]) (.bin .sub (.var 5) (.bi .len [(.var 8)])))), .asg 4 (.comp (.call n_law_side [(.idx (.var 4) (.var 9)), (.idx (.var 8) (.bin .mul (.con (.int 2)) (.var 9))), (.idx (.var 8) (.bin .add (.bin .mul (.con (.int 2)) (.var 9)) (.con (.int 1))))] []) [9] .rng1 [(.var 1)] none), .del [8], .app 3 (.bi .tup [(.var 4)])]
/-- turns that each give something of a kind -/
theorem compA_ex {α β : Type} {f : α → M (Option D)} {enc : β → D} {R : β → Prop} : ∀ {l : List α}, (∀ x ∈ l, ∃ y, f x = .ok (some (enc y)) ∧ R y) → ∃ ys : List β, compA f l = .ok (ys.map enc) ∧ ys.length = l.length ∧ ∀ y ∈ ys, R y
  | [], _ => ⟨[], rfl, rfl, fun _ h => absurd h List.not_mem_nil⟩
  | x :: xs, h => by
    obtain ⟨y, e, r⟩ := h x List.mem_cons_self
    obtain ⟨ys, e2, l2, r2⟩ := compA_ex (fun z hz => h z (List.mem_cons_of_mem _ hz))
    refine ⟨y :: ys, ?_, by rw [List.length_cons, List.length_cons, l2], fun z hz => ?_⟩
    · rw [compA_cons, e, cmpC_some, e2]; rfl
    · rcases List.mem_cons.1 hz with rfl | hz
      · exact r
      · exact r2 z hz
theorem boxes_turn (n : Nat) (cells : List Int) (hc : cells.length ≤ 1000) (s : Nat) (hs : s = 2 ∨ s = 3) (m : Nat) (hm2 : m ≤ 1003) (k : Nat) (hk : k < m) (row : List (List (Int × Int))) (last : List (Int × Int)) (hl : row.length < m) {pl : Nat} (h1 : row.length = pl) (h2 : ∀ b ∈ row, Box s b) (h3 : Box s last) :
    ∃ ρ', forT (callN P (n + 2)) true [7] bodyBoxes (.int (k : Int)) [.sh (.lst (cells.map D.int)), .sh (.int s), .no, .ow (row.map encB), .sh (.lst (last.map encP)), .sh (.int (2 * (s : Int))), .sh (.int (m : Int)), .no, .no, .no] = .ok (.nx ρ') ∧ ∃ (row : List (List (Int × Int))) (last : List (Int × Int)), ρ' = [.sh (.lst (cells.map D.int)), .sh (.int s), .no, .ow (row.map encB), .sh (.lst (last.map encP)), .sh (.int (2 * (s : Int))), .sh (.int (m : Int)), .no, .no, .no] ∧ row.length = pl + 1 ∧ (∀ b ∈ row, Box s b) ∧ Box s last := by
  have hm : mulOk (2 * (s : Int)) (k : Int) = true := mul_ok1 (by omega)
  have hf : fits (List.range s).length = true := fits_of (by rw [List.length_range]; omega)
  have hr := it_rng1n (n := s) (by omega)
  have h0 : (0 : Int) ≤ 2 * (s : Int) * (k : Int) := Int.mul_nonneg (by omega) (by omega)
  have hcl := cut_len cells (a := 2 * (s : Int) * (k : Int)) (b := 2 * (s : Int) * (k : Int) + 2 * (s : Int)) h0 (by omega)
  generalize hcut : cut cells (2 * (s : Int) * (k : Int)) (2 * (s : Int) * (k : Int) + 2 * (s : Int)) = part at hcl
  have hp1 : part.length ≤ 6 := by omega
  generalize hpad : part ++ List.replicate (2 * (s : Int) - (part.length : Int)).toNat 0 = part'
  have hp2 : part'.length = 2 * s := by rw [← hpad, List.length_append, List.length_replicate]; omega
  have C : ∃ last' : List (Int × Int), compA (fun j : Nat => cmpT (callN P (n + 2)) [.sh (.lst (cells.map D.int)), .sh (.int s), .no, .ow (row.map encB), .sh (.lst (last.map encP)), .sh (.int (2 * (s : Int))), .sh (.int (m : Int)), .no, .sh (.lst (part'.map D.int)), .no] [9] none (.call n_law_side [(.idx (.var 4) (.var 9)), (.idx (.var 8) (.bin .mul (.con (.int 2)) (.var 9))), (.idx (.var 8) (.bin .add (.bin .mul (.con (.int 2)) (.var 9)) (.con (.int 1))))] []) (.int (j : Int))) (List.range s) = .ok (last'.map encP) ∧ last'.length = (List.range s).length ∧ ∀ p ∈ last', GS p := by
    refine compA_ex fun j hj => ?_
    have hj : j < s := List.mem_range.1 hj
    obtain ⟨q, q1, _, q2⟩ := at_int (xs := last) (i := (j : Int)) (by omega) (by have := h3.1; omega)
    obtain ⟨u, _, _, u2⟩ := at_int (xs := part') (i := 2 * (j : Int)) (by omega) (by omega)
    obtain ⟨v, _, _, v2⟩ := at_int (xs := part') (i := 2 * (j : Int) + 1) (by omega) (by omega)
    obtain ⟨p, e, g⟩ := law_side_ok n q u v (h3.2 q q1)
    refine ⟨p, ?_, g⟩
    have hmj : mulOk 2 (j : Int) = true := mul_ok1 (by decide)
    simp only [bind_ok, bind_no, bind_ex, bind_ite, gd_true, getS_0, getS_s, slV_sh, slB_ow, slO_ow, setS_0, setS_s, wipe_nil, wipe_cons, frS_ow, frS_sh, frS_no, tg_one, tg_tup, setVs_nil, setVs_cons, iteD_bl, and_bl, or_bl, and_blp, or_blp, nand_blp, nor_blp, ev_var, ev_bor, ev_con, ev_glb, ev_bin, ev_neg, negD_int, ev_nt, notD_bl, ev_cmp, ev_chain, ev_and, ev_or, ev_ite, ev_tup, ev_lst, ev_idx, ev_slc, ev_rvs, rvs_L, rvs_T, ev_bi, ev_isi, lends, lent_false, ev_call, ev_nil, ev_cons, ev_none, ev_some, intD_int, evE_comp, cmpT_none, cmpT_some, compD_map, compA_nil, compA_cons, cmpC_some, cmpC_none, compA_int, goB_nx, goB_bk, goB_ct, goB_rt, goB_ex, goB_ite, xB_nil, xB_cons, getX_0, getX_s, bodyOf_for, bodyOf_while, loopB_eq, condOf_while, thenOf_ite, elseOf_ite, seg_eq, List.drop_succ_cons, List.drop_zero, List.take_succ_cons, List.take_zero, x_asg, ownD_lst, x_own, x_unp, x_aug, x_put, x_app, x_ext, x_pop, popM_app, popM_one, x_ite, x_for, forT_eq, forD_nil, forD_cons, x_ret, ret_false, ret_int, ret_bl, ret_non, ret_tup, x_retR, x_retN, x_brk, x_cnt, x_pas, x_frz, x_del, endD_rt, endD_nx, endD_ex, endD_ite, iterO_nx, iterO_ct, iterO_bk, iterO_rt, iniS_0, iniS_n, iniS_c, b_add, b_sub, b_mul, b_addT, b_addL, b_rep, b_div, b_mod, b_pow, b_shl, b_shr, b_band, b_bor, b_bxor, a_add, a_sub, c_lt, c_le, c_gt, c_ge, c_eqi, c_nei, c_eqb, c_neb, c_isn, c_nisn, c_isb, c_nisb, eqD_ii, eqD_tt, eqD_ll, eqDs_n, eqDs_c, pl_int, pl_non, pl_bl, pl_tup, pl_lst, all_ints, List.all_cons, List.all_nil, fmod_e, fdiv_e, isNon_non, isNon_int, isNon_tup, isNon_lst, x_idxT, x_idxL, idxO_some, at_0, at_1, at_2, at_3, at_4, at_5, at_6, at_7, i_lenT, i_lenL, i_min2, i_max2, i_max3, i_min3, i_abs, i_sumi, i_sori, i_sorTi, i_tupT, i_tupL, i_lstT, i_lstL, i_inti, i_intb, ty_ii, ty_ib, ty_bi, ty_bb, ty_tt, ty_ti, noIns_int, noIns_bl, noIns_tup, noIns_lst, noIns_non, noIns_str, seqOf_tup, seqOf_lst, it_seqT, it_seqL, Nat.reduceAdd, Nat.reduceSub, Nat.reduceMul, Nat.reduceEqDiff, Nat.reduceLeDiff, Int.reduceEq, Int.reduceNe, Int.reduceLT, Int.reduceLE, Int.reduceGT, Int.reduceGE, Int.reduceAdd, Int.reduceSub, Int.reduceMul, Int.reduceNeg, Int.reduceToNat, Int.reducePow, Int.reduceAbs, Int.cast_ofNat_Int, List.map_cons, List.map_nil, List.append_nil, List.nil_append, List.cons_append, List.length_cons, List.length_nil, List.length_map, decide_true, decide_false, decide_eq_true_eq, Bool.not_eq_true', decide_eq_false_iff_not, Bool.and_eq_true, Bool.or_eq_true, not_true_eq_false, not_false_eq_true, Bool.not_true, Bool.not_false, Bool.true_and, Bool.and_true, Bool.false_and, Bool.and_false, Bool.or_false, Bool.false_or, Bool.true_or, Bool.or_true, Bool.false_eq_true, if_true, if_false, ite_true, ite_false, reduceIte, ite_self, beq_self_eq_true, Bool.true_eq_false, at_map, q2, u2, v2, Option.map_some, hmj, e]
  obtain ⟨last', e, l1, l2⟩ := C
  refine ⟨_, ?_, row ++ [last'], last', rfl, by simp [h1], fun b hb => ?_, by rw [l1, List.length_range], l2⟩
  · unfold bodyBoxes
    simp only [bind_ok, bind_no, bind_ex, bind_ite, gd_true, getS_0, getS_s, slV_sh, slB_ow, slO_ow, setS_0, setS_s, wipe_nil, wipe_cons, frS_ow, frS_sh, frS_no, tg_one, tg_tup, setVs_nil, setVs_cons, iteD_bl, and_bl, or_bl, and_blp, or_blp, nand_blp, nor_blp, ev_var, ev_bor, ev_con, ev_glb, ev_bin, ev_neg, negD_int, ev_nt, notD_bl, ev_cmp, ev_chain, ev_and, ev_or, ev_ite, ev_tup, ev_lst, ev_idx, ev_slc, ev_rvs, rvs_L, rvs_T, ev_bi, ev_isi, lends, lent_false, ev_call, ev_nil, ev_cons, ev_none, ev_some, intD_int, evE_comp, cmpT_none, cmpT_some, compD_map, compA_nil, compA_cons, cmpC_some, cmpC_none, compA_int, goB_nx, goB_bk, goB_ct, goB_rt, goB_ex, goB_ite, xB_nil, xB_cons, getX_0, getX_s, bodyOf_for, bodyOf_while, loopB_eq, condOf_while, thenOf_ite, elseOf_ite, seg_eq, List.drop_succ_cons, List.drop_zero, List.take_succ_cons, List.take_zero, x_asg, ownD_lst, x_own, x_unp, x_aug, x_put, x_app, x_ext, x_pop, popM_app, popM_one, x_ite, x_for, forT_eq, forD_nil, forD_cons, x_ret, ret_false, ret_int, ret_bl, ret_non, ret_tup, x_retR, x_retN, x_brk, x_cnt, x_pas, x_frz, x_del, endD_rt, endD_nx, endD_ex, endD_ite, iterO_nx, iterO_ct, iterO_bk, iterO_rt, iniS_0, iniS_n, iniS_c, b_add, b_sub, b_mul, b_addT, b_addL, b_rep, b_div, b_mod, b_pow, b_shl, b_shr, b_band, b_bor, b_bxor, a_add, a_sub, c_lt, c_le, c_gt, c_ge, c_eqi, c_nei, c_eqb, c_neb, c_isn, c_nisn, c_isb, c_nisb, eqD_ii, eqD_tt, eqD_ll, eqDs_n, eqDs_c, pl_int, pl_non, pl_bl, pl_tup, pl_lst, all_ints, List.all_cons, List.all_nil, fmod_e, fdiv_e, isNon_non, isNon_int, isNon_tup, isNon_lst, x_idxT, x_idxL, idxO_some, at_0, at_1, at_2, at_3, at_4, at_5, at_6, at_7, i_lenT, i_lenL, i_min2, i_max2, i_max3, i_min3, i_abs, i_sumi, i_sori, i_sorTi, i_tupT, i_tupL, i_lstT, i_lstL, i_inti, i_intb, ty_ii, ty_ib, ty_bi, ty_bb, ty_tt, ty_ti, noIns_int, noIns_bl, noIns_tup, noIns_lst, noIns_non, noIns_str, seqOf_tup, seqOf_lst, it_seqT, it_seqL, Nat.reduceAdd, Nat.reduceSub, Nat.reduceMul, Nat.reduceEqDiff, Nat.reduceLeDiff, Int.reduceEq, Int.reduceNe, Int.reduceLT, Int.reduceLE, Int.reduceGT, Int.reduceGE, Int.reduceAdd, Int.reduceSub, Int.reduceMul, Int.reduceNeg, Int.reduceToNat, Int.reducePow, Int.reduceAbs, Int.cast_ofNat_Int, List.map_cons, List.map_nil, List.append_nil, List.nil_append, List.cons_append, List.length_cons, List.length_nil, List.length_map, decide_true, decide_false, decide_eq_true_eq, Bool.not_eq_true', decide_eq_false_iff_not, Bool.and_eq_true, Bool.or_eq_true, not_true_eq_false, not_false_eq_true, Bool.not_true, Bool.not_false, Bool.true_and, Bool.and_true, Bool.false_and, Bool.and_false, Bool.or_false, Bool.false_or, Bool.true_or, Bool.or_true, Bool.false_eq_true, if_true, if_false, ite_true, ite_false, reduceIte, ite_self, beq_self_eq_true, Bool.true_eq_false] at e
    simp only [bind_ok, bind_no, bind_ex, bind_ite, gd_true, getS_0, getS_s, slV_sh, slB_ow, slO_ow, setS_0, setS_s, wipe_nil, wipe_cons, frS_ow, frS_sh, frS_no, tg_one, tg_tup, setVs_nil, setVs_cons, iteD_bl, and_bl, or_bl, and_blp, or_blp, nand_blp, nor_blp, ev_var, ev_bor, ev_con, ev_glb, ev_bin, ev_neg, negD_int, ev_nt, notD_bl, ev_cmp, ev_chain, ev_and, ev_or, ev_ite, ev_tup, ev_lst, ev_idx, ev_slc, ev_rvs, rvs_L, rvs_T, ev_bi, ev_isi, lends, lent_false, ev_call, ev_nil, ev_cons, ev_none, ev_some, intD_int, evE_comp, cmpT_none, cmpT_some, compD_map, compA_nil, compA_cons, cmpC_some, cmpC_none, compA_int, goB_nx, goB_bk, goB_ct, goB_rt, goB_ex, goB_ite, xB_nil, xB_cons, getX_0, getX_s, bodyOf_for, bodyOf_while, loopB_eq, condOf_while, thenOf_ite, elseOf_ite, seg_eq, List.drop_succ_cons, List.drop_zero, List.take_succ_cons, List.take_zero, x_asg, ownD_lst, x_own, x_unp, x_aug, x_put, x_app, x_ext, x_pop, popM_app, popM_one, x_ite, x_for, forT_eq, forD_nil, forD_cons, x_ret, ret_false, ret_int, ret_bl, ret_non, ret_tup, x_retR, x_retN, x_brk, x_cnt, x_pas, x_frz, x_del, endD_rt, endD_nx, endD_ex, endD_ite, iterO_nx, iterO_ct, iterO_bk, iterO_rt, iniS_0, iniS_n, iniS_c, b_add, b_sub, b_mul, b_addT, b_addL, b_rep, b_div, b_mod, b_pow, b_shl, b_shr, b_band, b_bor, b_bxor, a_add, a_sub, c_lt, c_le, c_gt, c_ge, c_eqi, c_nei, c_eqb, c_neb, c_isn, c_nisn, c_isb, c_nisb, eqD_ii, eqD_tt, eqD_ll, eqDs_n, eqDs_c, pl_int, pl_non, pl_bl, pl_tup, pl_lst, all_ints, List.all_cons, List.all_nil, fmod_e, fdiv_e, isNon_non, isNon_int, isNon_tup, isNon_lst, x_idxT, x_idxL, idxO_some, at_0, at_1, at_2, at_3, at_4, at_5, at_6, at_7, i_lenT, i_lenL, i_min2, i_max2, i_max3, i_min3, i_abs, i_sumi, i_sori, i_sorTi, i_tupT, i_tupL, i_lstT, i_lstL, i_inti, i_intb, ty_ii, ty_ib, ty_bi, ty_bb, ty_tt, ty_ti, noIns_int, noIns_bl, noIns_tup, noIns_lst, noIns_non, noIns_str, seqOf_tup, seqOf_lst, it_seqT, it_seqL, Nat.reduceAdd, Nat.reduceSub, Nat.reduceMul, Nat.reduceEqDiff, Nat.reduceLeDiff, Int.reduceEq, Int.reduceNe, Int.reduceLT, Int.reduceLE, Int.reduceGT, Int.reduceGE, Int.reduceAdd, Int.reduceSub, Int.reduceMul, Int.reduceNeg, Int.reduceToNat, Int.reducePow, Int.reduceAbs, Int.cast_ofNat_Int, List.map_cons, List.map_nil, List.append_nil, List.nil_append, List.cons_append, List.length_cons, List.length_nil, List.length_map, decide_true, decide_false, decide_eq_true_eq, Bool.not_eq_true', decide_eq_false_iff_not, Bool.and_eq_true, Bool.or_eq_true, not_true_eq_false, not_false_eq_true, Bool.not_true, Bool.not_false, Bool.true_and, Bool.and_true, Bool.false_and, Bool.and_false, Bool.or_false, Bool.false_or, Bool.true_or, Bool.or_true, Bool.false_eq_true, if_true, if_false, ite_true, ite_false, reduceIte, ite_self, beq_self_eq_true, Bool.true_eq_false, e, hm, slc_ints, hcut, b_rep0 (j := 2 * (s : Int) - (part.length : Int)) 0 (by omega) (by omega), b_addI (xs := part) (ys := List.replicate (2 * (s : Int) - (part.length : Int)).toNat 0) (by rw [List.length_replicate]; omega), hpad, hr, hf, dec_size (show row.length < 1000000 by omega), List.map_append, encB]
  · rcases List.mem_append.1 hb with hb | hb
    · exact h2 b hb
    · rw [List.mem_singleton.1 hb]; exact ⟨by rw [l1, List.length_range], l2⟩
theorem law_boxes_ok (n : Nat) (cells : List Int) (hc : cells.length ≤ 1000) (s : Nat) (hs : s = 2 ∨ s = 3) (least : Nat) (hl : least ≤ 2) : ∃ row : List (List (Int × Int)), callN P (n + 3) n_law_boxes [.lst (cells.map D.int), .int s, .int least] = .ok (.lst (row.map encB)) ∧ least ≤ row.length ∧ row.length ≤ 1003 ∧ ∀ b ∈ row, Box s b := by
  rw [callN_eq P_law_boxes _ (by simp)]
  have hm : mulOk 2 (s : Int) = true := mul_ok1 (by decide)
  have hd : divOk (2 * (s : Int)) = true := div_ok' (by omega) (by omega)
  have hf : fits (List.range s).length = true := fits_of (by rw [List.length_range]; omega)
  have hr := it_rng1n (n := s) (by omega)
  have hsn : 0 ≤ 2 * (s : Int) := by omega
  obtain ⟨m, em⟩ : ∃ m : Nat, max (least : Int) (((cells.length : Int) + 2 * (s : Int) - 1) / (2 * (s : Int))) = (m : Int) := ⟨(max (least : Int) (((cells.length : Int) + 2 * (s : Int) - 1) / (2 * (s : Int)))).toNat, by omega⟩
  have hq : ((cells.length : Int) + 2 * (s : Int) - 1) / (2 * (s : Int)) ≤ 1000 := by
    rcases hs with rfl | rfl <;> simp only [Int.cast_ofNat_Int, Int.reduceMul] <;> omega
  have hm1 : least ≤ m := by omega
  have hm2 : m ≤ 1003 := by omega
  have A : exB (callN P (n + 2)) true (seg b_law_boxes 0 5) (iniS 10 [.lst (cells.map D.int), .int s, .int least]) = .ok (.nx [.sh (.lst (cells.map D.int)), .sh (.int s), .no, .ow [], .sh (.lst (((List.range s).map fun _ => (0, 0)).map encP)), .sh (.int (2 * (s : Int))), .sh (.int (m : Int)), .no, .no, .no]) := by
    unfold b_law_boxes
    simp only [bind_ok, bind_no, bind_ex, bind_ite, gd_true, getS_0, getS_s, slV_sh, slB_ow, slO_ow, setS_0, setS_s, wipe_nil, wipe_cons, frS_ow, frS_sh, frS_no, tg_one, tg_tup, setVs_nil, setVs_cons, iteD_bl, and_bl, or_bl, and_blp, or_blp, nand_blp, nor_blp, ev_var, ev_bor, ev_con, ev_glb, ev_bin, ev_neg, negD_int, ev_nt, notD_bl, ev_cmp, ev_chain, ev_and, ev_or, ev_ite, ev_tup, ev_lst, ev_idx, ev_slc, ev_rvs, rvs_L, rvs_T, ev_bi, ev_isi, lends, lent_false, ev_call, ev_nil, ev_cons, ev_none, ev_some, intD_int, evE_comp, cmpT_none, cmpT_some, compD_map, compA_nil, compA_cons, cmpC_some, cmpC_none, compA_int, goB_nx, goB_bk, goB_ct, goB_rt, goB_ex, goB_ite, xB_nil, xB_cons, getX_0, getX_s, bodyOf_for, bodyOf_while, loopB_eq, condOf_while, thenOf_ite, elseOf_ite, seg_eq, List.drop_succ_cons, List.drop_zero, List.take_succ_cons, List.take_zero, x_asg, ownD_lst, x_own, x_unp, x_aug, x_put, x_app, x_ext, x_pop, popM_app, popM_one, x_ite, x_for, forT_eq, forD_nil, forD_cons, x_ret, ret_false, ret_int, ret_bl, ret_non, ret_tup, x_retR, x_retN, x_brk, x_cnt, x_pas, x_frz, x_del, endD_rt, endD_nx, endD_ex, endD_ite, iterO_nx, iterO_ct, iterO_bk, iterO_rt, iniS_0, iniS_n, iniS_c, b_add, b_sub, b_mul, b_addT, b_addL, b_rep, b_div, b_mod, b_pow, b_shl, b_shr, b_band, b_bor, b_bxor, a_add, a_sub, c_lt, c_le, c_gt, c_ge, c_eqi, c_nei, c_eqb, c_neb, c_isn, c_nisn, c_isb, c_nisb, eqD_ii, eqD_tt, eqD_ll, eqDs_n, eqDs_c, pl_int, pl_non, pl_bl, pl_tup, pl_lst, all_ints, List.all_cons, List.all_nil, fmod_e, fdiv_e, isNon_non, isNon_int, isNon_tup, isNon_lst, x_idxT, x_idxL, idxO_some, at_0, at_1, at_2, at_3, at_4, at_5, at_6, at_7, i_lenT, i_lenL, i_min2, i_max2, i_max3, i_min3, i_abs, i_sumi, i_sori, i_sorTi, i_tupT, i_tupL, i_lstT, i_lstL, i_inti, i_intb, ty_ii, ty_ib, ty_bi, ty_bb, ty_tt, ty_ti, noIns_int, noIns_bl, noIns_tup, noIns_lst, noIns_non, noIns_str, seqOf_tup, seqOf_lst, it_seqT, it_seqL, Nat.reduceAdd, Nat.reduceSub, Nat.reduceMul, Nat.reduceEqDiff, Nat.reduceLeDiff, Int.reduceEq, Int.reduceNe, Int.reduceLT, Int.reduceLE, Int.reduceGT, Int.reduceGE, Int.reduceAdd, Int.reduceSub, Int.reduceMul, Int.reduceNeg, Int.reduceToNat, Int.reducePow, Int.reduceAbs, Int.cast_ofNat_Int, List.map_cons, List.map_nil, List.append_nil, List.nil_append, List.cons_append, List.length_cons, List.length_nil, List.length_map, decide_true, decide_false, decide_eq_true_eq, Bool.not_eq_true', decide_eq_false_iff_not, Bool.and_eq_true, Bool.or_eq_true, not_true_eq_false, not_false_eq_true, Bool.not_true, Bool.not_false, Bool.true_and, Bool.and_true, Bool.false_and, Bool.and_false, Bool.or_false, Bool.false_or, Bool.true_or, Bool.or_true, Bool.false_eq_true, if_true, if_false, ite_true, ite_false, reduceIte, ite_self, beq_self_eq_true, Bool.true_eq_false, hm, hd, hf, hr, compA_ok, fdiv_e, hsn, em]
    rw [List.map_map]; rfl
  rw [xB_seg0 b_law_boxes 5, A, goB_nx]
  clear A
  have B : ∃ (row : List (List (Int × Int))) (last : D), exB (callN P (n + 2)) true (seg b_law_boxes 5 1) [.sh (.lst (cells.map D.int)), .sh (.int s), .no, .ow [], .sh (.lst (((List.range s).map fun _ => (0, 0)).map encP)), .sh (.int (2 * (s : Int))), .sh (.int (m : Int)), .no, .no, .no] = .ok (.nx [.sh (.lst (cells.map D.int)), .sh (.int s), .no, .ow (row.map encB), .sh last, .sh (.int (2 * (s : Int))), .sh (.int (m : Int)), .no, .no, .no]) ∧ row.length = m ∧ ∀ b ∈ row, Box s b := by
    unfold b_law_boxes
    simp only [bind_ok, bind_no, bind_ex, bind_ite, gd_true, getS_0, getS_s, slV_sh, slB_ow, slO_ow, setS_0, setS_s, wipe_nil, wipe_cons, frS_ow, frS_sh, frS_no, tg_one, tg_tup, setVs_nil, setVs_cons, iteD_bl, and_bl, or_bl, and_blp, or_blp, nand_blp, nor_blp, ev_var, ev_bor, ev_con, ev_glb, ev_bin, ev_neg, negD_int, ev_nt, notD_bl, ev_cmp, ev_chain, ev_and, ev_or, ev_ite, ev_tup, ev_lst, ev_idx, ev_slc, ev_rvs, rvs_L, rvs_T, ev_bi, ev_isi, lends, lent_false, ev_call, ev_nil, ev_cons, ev_none, ev_some, intD_int, evE_comp, cmpT_none, cmpT_some, compD_map, compA_nil, compA_cons, cmpC_some, cmpC_none, compA_int, goB_nx, goB_bk, goB_ct, goB_rt, goB_ex, goB_ite, xB_nil, xB_cons, getX_0, getX_s, bodyOf_for, bodyOf_while, loopB_eq, condOf_while, thenOf_ite, elseOf_ite, seg_eq, List.drop_succ_cons, List.drop_zero, List.take_succ_cons, List.take_zero, x_asg, ownD_lst, x_own, x_unp, x_aug, x_put, x_app, x_ext, x_pop, popM_app, popM_one, x_ite, x_for, forT_eq, forD_nil, forD_cons, x_ret, ret_false, ret_int, ret_bl, ret_non, ret_tup, x_retR, x_retN, x_brk, x_cnt, x_pas, x_frz, x_del, endD_rt, endD_nx, endD_ex, endD_ite, iterO_nx, iterO_ct, iterO_bk, iterO_rt, iniS_0, iniS_n, iniS_c, b_add, b_sub, b_mul, b_addT, b_addL, b_rep, b_div, b_mod, b_pow, b_shl, b_shr, b_band, b_bor, b_bxor, a_add, a_sub, c_lt, c_le, c_gt, c_ge, c_eqi, c_nei, c_eqb, c_neb, c_isn, c_nisn, c_isb, c_nisb, eqD_ii, eqD_tt, eqD_ll, eqDs_n, eqDs_c, pl_int, pl_non, pl_bl, pl_tup, pl_lst, all_ints, List.all_cons, List.all_nil, fmod_e, fdiv_e, isNon_non, isNon_int, isNon_tup, isNon_lst, x_idxT, x_idxL, idxO_some, at_0, at_1, at_2, at_3, at_4, at_5, at_6, at_7, i_lenT, i_lenL, i_min2, i_max2, i_max3, i_min3, i_abs, i_sumi, i_sori, i_sorTi, i_tupT, i_tupL, i_lstT, i_lstL, i_inti, i_intb, ty_ii, ty_ib, ty_bi, ty_bb, ty_tt, ty_ti, noIns_int, noIns_bl, noIns_tup, noIns_lst, noIns_non, noIns_str, seqOf_tup, seqOf_lst, it_seqT, it_seqL, Nat.reduceAdd, Nat.reduceSub, Nat.reduceMul, Nat.reduceEqDiff, Nat.reduceLeDiff, Int.reduceEq, Int.reduceNe, Int.reduceLT, Int.reduceLE, Int.reduceGT, Int.reduceGE, Int.reduceAdd, Int.reduceSub, Int.reduceMul, Int.reduceNeg, Int.reduceToNat, Int.reducePow, Int.reduceAbs, Int.cast_ofNat_Int, List.map_cons, List.map_nil, List.append_nil, List.nil_append, List.cons_append, List.length_cons, List.length_nil, List.length_map, decide_true, decide_false, decide_eq_true_eq, Bool.not_eq_true', decide_eq_false_iff_not, Bool.and_eq_true, Bool.or_eq_true, not_true_eq_false, not_false_eq_true, Bool.not_true, Bool.not_false, Bool.true_and, Bool.and_true, Bool.false_and, Bool.and_false, Bool.or_false, Bool.false_or, Bool.true_or, Bool.or_true, Bool.false_eq_true, if_true, if_false, ite_true, ite_false, reduceIte, ite_self, beq_self_eq_true, Bool.true_eq_false, it_rng1n (show m < 2 ^ 62 by omega)]
    have key := forD_inv (f := forT (callN P (n + 2)) true [7] bodyBoxes) (enc := fun k : Nat => D.int (k : Int)) (fun (pre : List Nat) (ρ : List Sl) => ∃ (row : List (List (Int × Int))) (last : List (Int × Int)), ρ = [.sh (.lst (cells.map D.int)), .sh (.int s), .no, .ow (row.map encB), .sh (.lst (last.map encP)), .sh (.int (2 * (s : Int))), .sh (.int (m : Int)), .no, .no, .no] ∧ row.length = pre.length ∧ (∀ b ∈ row, Box s b) ∧ Box s last) (List.range m) [] (ρ := [.sh (.lst (cells.map D.int)), .sh (.int s), .no, .ow [], .sh (.lst (((List.range s).map fun _ => (0, 0)).map encP)), .sh (.int (2 * (s : Int))), .sh (.int (m : Int)), .no, .no, .no]) ⟨[], (List.range s).map fun _ => (0, 0), rfl, rfl, fun _ h => absurd h List.not_mem_nil, ?_⟩ ?_
    · obtain ⟨ρ', e, row, last, rfl, h1, h2, _⟩ := key
      refine ⟨row, .lst (last.map encP), ?_, by simpa using h1, h2⟩
      unfold bodyBoxes at e
      simp only [bind_ok, bind_no, bind_ex, bind_ite, gd_true, getS_0, getS_s, slV_sh, slB_ow, slO_ow, setS_0, setS_s, wipe_nil, wipe_cons, frS_ow, frS_sh, frS_no, tg_one, tg_tup, setVs_nil, setVs_cons, iteD_bl, and_bl, or_bl, and_blp, or_blp, nand_blp, nor_blp, ev_var, ev_bor, ev_con, ev_glb, ev_bin, ev_neg, negD_int, ev_nt, notD_bl, ev_cmp, ev_chain, ev_and, ev_or, ev_ite, ev_tup, ev_lst, ev_idx, ev_slc, ev_rvs, rvs_L, rvs_T, ev_bi, ev_isi, lends, lent_false, ev_call, ev_nil, ev_cons, ev_none, ev_some, intD_int, evE_comp, cmpT_none, cmpT_some, compD_map, compA_nil, compA_cons, cmpC_some, cmpC_none, compA_int, goB_nx, goB_bk, goB_ct, goB_rt, goB_ex, goB_ite, xB_nil, xB_cons, getX_0, getX_s, bodyOf_for, bodyOf_while, loopB_eq, condOf_while, thenOf_ite, elseOf_ite, seg_eq, List.drop_succ_cons, List.drop_zero, List.take_succ_cons, List.take_zero, x_asg, ownD_lst, x_own, x_unp, x_aug, x_put, x_app, x_ext, x_pop, popM_app, popM_one, x_ite, x_for, forT_eq, forD_nil, forD_cons, x_ret, ret_false, ret_int, ret_bl, ret_non, ret_tup, x_retR, x_retN, x_brk, x_cnt, x_pas, x_frz, x_del, endD_rt, endD_nx, endD_ex, endD_ite, iterO_nx, iterO_ct, iterO_bk, iterO_rt, iniS_0, iniS_n, iniS_c, b_add, b_sub, b_mul, b_addT, b_addL, b_rep, b_div, b_mod, b_pow, b_shl, b_shr, b_band, b_bor, b_bxor, a_add, a_sub, c_lt, c_le, c_gt, c_ge, c_eqi, c_nei, c_eqb, c_neb, c_isn, c_nisn, c_isb, c_nisb, eqD_ii, eqD_tt, eqD_ll, eqDs_n, eqDs_c, pl_int, pl_non, pl_bl, pl_tup, pl_lst, all_ints, List.all_cons, List.all_nil, fmod_e, fdiv_e, isNon_non, isNon_int, isNon_tup, isNon_lst, x_idxT, x_idxL, idxO_some, at_0, at_1, at_2, at_3, at_4, at_5, at_6, at_7, i_lenT, i_lenL, i_min2, i_max2, i_max3, i_min3, i_abs, i_sumi, i_sori, i_sorTi, i_tupT, i_tupL, i_lstT, i_lstL, i_inti, i_intb, ty_ii, ty_ib, ty_bi, ty_bb, ty_tt, ty_ti, noIns_int, noIns_bl, noIns_tup, noIns_lst, noIns_non, noIns_str, seqOf_tup, seqOf_lst, it_seqT, it_seqL, Nat.reduceAdd, Nat.reduceSub, Nat.reduceMul, Nat.reduceEqDiff, Nat.reduceLeDiff, Int.reduceEq, Int.reduceNe, Int.reduceLT, Int.reduceLE, Int.reduceGT, Int.reduceGE, Int.reduceAdd, Int.reduceSub, Int.reduceMul, Int.reduceNeg, Int.reduceToNat, Int.reducePow, Int.reduceAbs, Int.cast_ofNat_Int, List.map_cons, List.map_nil, List.append_nil, List.nil_append, List.cons_append, List.length_cons, List.length_nil, List.length_map, decide_true, decide_false, decide_eq_true_eq, Bool.not_eq_true', decide_eq_false_iff_not, Bool.and_eq_true, Bool.or_eq_true, not_true_eq_false, not_false_eq_true, Bool.not_true, Bool.not_false, Bool.true_and, Bool.and_true, Bool.false_and, Bool.and_false, Bool.or_false, Bool.false_or, Bool.true_or, Bool.or_true, Bool.false_eq_true, if_true, if_false, ite_true, ite_false, reduceIte, ite_self, beq_self_eq_true, Bool.true_eq_false, e]
    · refine ⟨by simp, fun p hp => ?_⟩
      obtain ⟨_, _, rfl⟩ := List.mem_map.1 hp
      unfold GS; simp only; omega
    · intro pre k post ρ hpre h
      obtain ⟨row, last, rfl, h1, h2, h3⟩ := h
      have hk : k < m := by
        have : k ∈ List.range m := by rw [show List.range m = pre ++ k :: post by simpa using hpre]; simp
        exact List.mem_range.1 this
      have hlen : pre.length < m := by
        have := congrArg List.length hpre
        simp at this; omega
      rw [List.length_append]
      exact boxes_turn n cells hc s hs m hm2 k hk row last (by omega) h1 h2 h3
  obtain ⟨row, last, B, h1, h2⟩ := B
  refine ⟨row, ?_, by omega, by omega, h2⟩
  rw [xB_seg b_law_boxes 5 1, B, goB_nx]
  unfold b_law_boxes
  simp only [bind_ok, bind_no, bind_ex, bind_ite, gd_true, getS_0, getS_s, slV_sh, slB_ow, slO_ow, setS_0, setS_s, wipe_nil, wipe_cons, frS_ow, frS_sh, frS_no, tg_one, tg_tup, setVs_nil, setVs_cons, iteD_bl, and_bl, or_bl, and_blp, or_blp, nand_blp, nor_blp, ev_var, ev_bor, ev_con, ev_glb, ev_bin, ev_neg, negD_int, ev_nt, notD_bl, ev_cmp, ev_chain, ev_and, ev_or, ev_ite, ev_tup, ev_lst, ev_idx, ev_slc, ev_rvs, rvs_L, rvs_T, ev_bi, ev_isi, lends, lent_false, ev_call, ev_nil, ev_cons, ev_none, ev_some, intD_int, evE_comp, cmpT_none, cmpT_some, compD_map, compA_nil, compA_cons, cmpC_some, cmpC_none, compA_int, goB_nx, goB_bk, goB_ct, goB_rt, goB_ex, goB_ite, xB_nil, xB_cons, getX_0, getX_s, bodyOf_for, bodyOf_while, loopB_eq, condOf_while, thenOf_ite, elseOf_ite, seg_eq, List.drop_succ_cons, List.drop_zero, List.take_succ_cons, List.take_zero, x_asg, ownD_lst, x_own, x_unp, x_aug, x_put, x_app, x_ext, x_pop, popM_app, popM_one, x_ite, x_for, forT_eq, forD_nil, forD_cons, x_ret, ret_false, ret_int, ret_bl, ret_non, ret_tup, x_retR, x_retN, x_brk, x_cnt, x_pas, x_frz, x_del, endD_rt, endD_nx, endD_ex, endD_ite, iterO_nx, iterO_ct, iterO_bk, iterO_rt, iniS_0, iniS_n, iniS_c, b_add, b_sub, b_mul, b_addT, b_addL, b_rep, b_div, b_mod, b_pow, b_shl, b_shr, b_band, b_bor, b_bxor, a_add, a_sub, c_lt, c_le, c_gt, c_ge, c_eqi, c_nei, c_eqb, c_neb, c_isn, c_nisn, c_isb, c_nisb, eqD_ii, eqD_tt, eqD_ll, eqDs_n, eqDs_c, pl_int, pl_non, pl_bl, pl_tup, pl_lst, all_ints, List.all_cons, List.all_nil, fmod_e, fdiv_e, isNon_non, isNon_int, isNon_tup, isNon_lst, x_idxT, x_idxL, idxO_some, at_0, at_1, at_2, at_3, at_4, at_5, at_6, at_7, i_lenT, i_lenL, i_min2, i_max2, i_max3, i_min3, i_abs, i_sumi, i_sori, i_sorTi, i_tupT, i_tupL, i_lstT, i_lstL, i_inti, i_intb, ty_ii, ty_ib, ty_bi, ty_bb, ty_tt, ty_ti, noIns_int, noIns_bl, noIns_tup, noIns_lst, noIns_non, noIns_str, seqOf_tup, seqOf_lst, it_seqT, it_seqL, Nat.reduceAdd, Nat.reduceSub, Nat.reduceMul, Nat.reduceEqDiff, Nat.reduceLeDiff, Int.reduceEq, Int.reduceNe, Int.reduceLT, Int.reduceLE, Int.reduceGT, Int.reduceGE, Int.reduceAdd, Int.reduceSub, Int.reduceMul, Int.reduceNeg, Int.reduceToNat, Int.reducePow, Int.reduceAbs, Int.cast_ofNat_Int, List.map_cons, List.map_nil, List.append_nil, List.nil_append, List.cons_append, List.length_cons, List.length_nil, List.length_map, decide_true, decide_false, decide_eq_true_eq, Bool.not_eq_true', decide_eq_false_iff_not, Bool.and_eq_true, Bool.or_eq_true, not_true_eq_false, not_false_eq_true, Bool.not_true, Bool.not_false, Bool.true_and, Bool.and_true, Bool.false_and, Bool.and_false, Bool.or_false, Bool.false_or, Bool.true_or, Bool.or_true, Bool.false_eq_true, if_true, if_false, ite_true, ite_false, reduceIte, ite_self, beq_self_eq_true, Bool.true_eq_false]
def cover (a b : List (Int × Int)) : List (Int × Int) := (a.zip b).map fun p => (min p.1.1 p.2.1, max p.1.2 p.2.2)
theorem box_cover_ok (n : Nat) (a b : List (Int × Int)) (h : a.length ≤ 1000) : callN P (n + 1) n_box_cover [encB a, encB b] = .ok (encB (cover a b)) := by
  rw [callN_eq P_box_cover _ (by simp)]
  unfold b_box_cover encB
  have hz : (a.zip b).length ≤ 1000000 := by rw [List.length_zip]; omega
  unfold encP
  simp only [bind_ok, bind_no, bind_ex, bind_ite, gd_true, getS_0, getS_s, slV_sh, slB_ow, slO_ow, setS_0, setS_s, wipe_nil, wipe_cons, frS_ow, frS_sh, frS_no, tg_one, tg_tup, setVs_nil, setVs_cons, iteD_bl, and_bl, or_bl, and_blp, or_blp, nand_blp, nor_blp, ev_var, ev_bor, ev_con, ev_glb, ev_bin, ev_neg, negD_int, ev_nt, notD_bl, ev_cmp, ev_chain, ev_and, ev_or, ev_ite, ev_tup, ev_lst, ev_idx, ev_slc, ev_rvs, rvs_L, rvs_T, ev_bi, ev_isi, lends, lent_false, ev_call, ev_nil, ev_cons, ev_none, ev_some, intD_int, evE_comp, cmpT_none, cmpT_some, compD_map, compA_nil, compA_cons, cmpC_some, cmpC_none, compA_int, goB_nx, goB_bk, goB_ct, goB_rt, goB_ex, goB_ite, xB_nil, xB_cons, getX_0, getX_s, bodyOf_for, bodyOf_while, loopB_eq, condOf_while, thenOf_ite, elseOf_ite, seg_eq, List.drop_succ_cons, List.drop_zero, List.take_succ_cons, List.take_zero, x_asg, ownD_lst, x_own, x_unp, x_aug, x_put, x_app, x_ext, x_pop, popM_app, popM_one, x_ite, x_for, forT_eq, forD_nil, forD_cons, x_ret, ret_false, ret_int, ret_bl, ret_non, ret_tup, x_retR, x_retN, x_brk, x_cnt, x_pas, x_frz, x_del, endD_rt, endD_nx, endD_ex, endD_ite, iterO_nx, iterO_ct, iterO_bk, iterO_rt, iniS_0, iniS_n, iniS_c, b_add, b_sub, b_mul, b_addT, b_addL, b_rep, b_div, b_mod, b_pow, b_shl, b_shr, b_band, b_bor, b_bxor, a_add, a_sub, c_lt, c_le, c_gt, c_ge, c_eqi, c_nei, c_eqb, c_neb, c_isn, c_nisn, c_isb, c_nisb, eqD_ii, eqD_tt, eqD_ll, eqDs_n, eqDs_c, pl_int, pl_non, pl_bl, pl_tup, pl_lst, all_ints, List.all_cons, List.all_nil, fmod_e, fdiv_e, isNon_non, isNon_int, isNon_tup, isNon_lst, x_idxT, x_idxL, idxO_some, at_0, at_1, at_2, at_3, at_4, at_5, at_6, at_7, i_lenT, i_lenL, i_min2, i_max2, i_max3, i_min3, i_abs, i_sumi, i_sori, i_sorTi, i_tupT, i_tupL, i_lstT, i_lstL, i_inti, i_intb, ty_ii, ty_ib, ty_bi, ty_bb, ty_tt, ty_ti, noIns_int, noIns_bl, noIns_tup, noIns_lst, noIns_non, noIns_str, seqOf_tup, seqOf_lst, it_seqT, it_seqL, Nat.reduceAdd, Nat.reduceSub, Nat.reduceMul, Nat.reduceEqDiff, Nat.reduceLeDiff, Int.reduceEq, Int.reduceNe, Int.reduceLT, Int.reduceLE, Int.reduceGT, Int.reduceGE, Int.reduceAdd, Int.reduceSub, Int.reduceMul, Int.reduceNeg, Int.reduceToNat, Int.reducePow, Int.reduceAbs, Int.cast_ofNat_Int, List.map_cons, List.map_nil, List.append_nil, List.nil_append, List.cons_append, List.length_cons, List.length_nil, List.length_map, decide_true, decide_false, decide_eq_true_eq, Bool.not_eq_true', decide_eq_false_iff_not, Bool.and_eq_true, Bool.or_eq_true, not_true_eq_false, not_false_eq_true, Bool.not_true, Bool.not_false, Bool.true_and, Bool.and_true, Bool.false_and, Bool.and_false, Bool.or_false, Bool.false_or, Bool.true_or, Bool.or_true, Bool.false_eq_true, if_true, if_false, ite_true, ite_false, reduceIte, ite_self, beq_self_eq_true, Bool.true_eq_false, it_zipT, fits_of hz, compA_ok, List.map_map]
  unfold cover
  rw [List.map_map]; rfl
def inside (a b : List (Int × Int)) : Bool := !(a.zip b).any fun p => decide (p.1.1 < p.2.1) || decide (p.2.2 < p.1.2)
theorem box_inside_ok (n : Nat) (a b : List (Int × Int)) : callN P (n + 1) n_box_inside [encB a, encB b] = .ok (.bl (inside a b)) := by
  rw [callN_eq P_box_inside _ (by simp)]
  unfold b_box_inside encB
  simp only [bind_ok, bind_no, bind_ex, bind_ite, gd_true, getS_0, getS_s, slV_sh, slB_ow, slO_ow, setS_0, setS_s, wipe_nil, wipe_cons, frS_ow, frS_sh, frS_no, tg_one, tg_tup, setVs_nil, setVs_cons, iteD_bl, and_bl, or_bl, and_blp, or_blp, nand_blp, nor_blp, ev_var, ev_bor, ev_con, ev_glb, ev_bin, ev_neg, negD_int, ev_nt, notD_bl, ev_cmp, ev_chain, ev_and, ev_or, ev_ite, ev_tup, ev_lst, ev_idx, ev_slc, ev_rvs, rvs_L, rvs_T, ev_bi, ev_isi, lends, lent_false, ev_call, ev_nil, ev_cons, ev_none, ev_some, intD_int, evE_comp, cmpT_none, cmpT_some, compD_map, compA_nil, compA_cons, cmpC_some, cmpC_none, compA_int, goB_nx, goB_bk, goB_ct, goB_rt, goB_ex, goB_ite, xB_nil, xB_cons, getX_0, getX_s, bodyOf_for, bodyOf_while, loopB_eq, condOf_while, thenOf_ite, elseOf_ite, seg_eq, List.drop_succ_cons, List.drop_zero, List.take_succ_cons, List.take_zero, x_asg, ownD_lst, x_own, x_unp, x_aug, x_put, x_app, x_ext, x_pop, popM_app, popM_one, x_ite, x_for, forT_eq, forD_nil, forD_cons, x_ret, ret_false, ret_int, ret_bl, ret_non, ret_tup, x_retR, x_retN, x_brk, x_cnt, x_pas, x_frz, x_del, endD_rt, endD_nx, endD_ex, endD_ite, iterO_nx, iterO_ct, iterO_bk, iterO_rt, iniS_0, iniS_n, iniS_c, b_add, b_sub, b_mul, b_addT, b_addL, b_rep, b_div, b_mod, b_pow, b_shl, b_shr, b_band, b_bor, b_bxor, a_add, a_sub, c_lt, c_le, c_gt, c_ge, c_eqi, c_nei, c_eqb, c_neb, c_isn, c_nisn, c_isb, c_nisb, eqD_ii, eqD_tt, eqD_ll, eqDs_n, eqDs_c, pl_int, pl_non, pl_bl, pl_tup, pl_lst, all_ints, List.all_cons, List.all_nil, fmod_e, fdiv_e, isNon_non, isNon_int, isNon_tup, isNon_lst, x_idxT, x_idxL, idxO_some, at_0, at_1, at_2, at_3, at_4, at_5, at_6, at_7, i_lenT, i_lenL, i_min2, i_max2, i_max3, i_min3, i_abs, i_sumi, i_sori, i_sorTi, i_tupT, i_tupL, i_lstT, i_lstL, i_inti, i_intb, ty_ii, ty_ib, ty_bi, ty_bb, ty_tt, ty_ti, noIns_int, noIns_bl, noIns_tup, noIns_lst, noIns_non, noIns_str, seqOf_tup, seqOf_lst, it_seqT, it_seqL, Nat.reduceAdd, Nat.reduceSub, Nat.reduceMul, Nat.reduceEqDiff, Nat.reduceLeDiff, Int.reduceEq, Int.reduceNe, Int.reduceLT, Int.reduceLE, Int.reduceGT, Int.reduceGE, Int.reduceAdd, Int.reduceSub, Int.reduceMul, Int.reduceNeg, Int.reduceToNat, Int.reducePow, Int.reduceAbs, Int.cast_ofNat_Int, List.map_cons, List.map_nil, List.append_nil, List.nil_append, List.cons_append, List.length_cons, List.length_nil, List.length_map, decide_true, decide_false, decide_eq_true_eq, Bool.not_eq_true', decide_eq_false_iff_not, Bool.and_eq_true, Bool.or_eq_true, not_true_eq_false, not_false_eq_true, Bool.not_true, Bool.not_false, Bool.true_and, Bool.and_true, Bool.false_and, Bool.and_false, Bool.or_false, Bool.false_or, Bool.true_or, Bool.or_true, Bool.false_eq_true, if_true, if_false, ite_true, ite_false, reduceIte, ite_self, beq_self_eq_true, Bool.true_eq_false, it_zipT]
  rw [forD_find (p := fun p : (Int × Int) × (Int × Int) => decide (p.1.1 < p.2.1) || decide (p.2.2 < p.1.2)) (r := .bl false)]
  · simp only [bind_ok, bind_no, bind_ex, bind_ite, gd_true, getS_0, getS_s, slV_sh, slB_ow, slO_ow, setS_0, setS_s, wipe_nil, wipe_cons, frS_ow, frS_sh, frS_no, tg_one, tg_tup, setVs_nil, setVs_cons, iteD_bl, and_bl, or_bl, and_blp, or_blp, nand_blp, nor_blp, ev_var, ev_bor, ev_con, ev_glb, ev_bin, ev_neg, negD_int, ev_nt, notD_bl, ev_cmp, ev_chain, ev_and, ev_or, ev_ite, ev_tup, ev_lst, ev_idx, ev_slc, ev_rvs, rvs_L, rvs_T, ev_bi, ev_isi, lends, lent_false, ev_call, ev_nil, ev_cons, ev_none, ev_some, intD_int, evE_comp, cmpT_none, cmpT_some, compD_map, compA_nil, compA_cons, cmpC_some, cmpC_none, compA_int, goB_nx, goB_bk, goB_ct, goB_rt, goB_ex, goB_ite, xB_nil, xB_cons, getX_0, getX_s, bodyOf_for, bodyOf_while, loopB_eq, condOf_while, thenOf_ite, elseOf_ite, seg_eq, List.drop_succ_cons, List.drop_zero, List.take_succ_cons, List.take_zero, x_asg, ownD_lst, x_own, x_unp, x_aug, x_put, x_app, x_ext, x_pop, popM_app, popM_one, x_ite, x_for, forT_eq, forD_nil, forD_cons, x_ret, ret_false, ret_int, ret_bl, ret_non, ret_tup, x_retR, x_retN, x_brk, x_cnt, x_pas, x_frz, x_del, endD_rt, endD_nx, endD_ex, endD_ite, iterO_nx, iterO_ct, iterO_bk, iterO_rt, iniS_0, iniS_n, iniS_c, b_add, b_sub, b_mul, b_addT, b_addL, b_rep, b_div, b_mod, b_pow, b_shl, b_shr, b_band, b_bor, b_bxor, a_add, a_sub, c_lt, c_le, c_gt, c_ge, c_eqi, c_nei, c_eqb, c_neb, c_isn, c_nisn, c_isb, c_nisb, eqD_ii, eqD_tt, eqD_ll, eqDs_n, eqDs_c, pl_int, pl_non, pl_bl, pl_tup, pl_lst, all_ints, List.all_cons, List.all_nil, fmod_e, fdiv_e, isNon_non, isNon_int, isNon_tup, isNon_lst, x_idxT, x_idxL, idxO_some, at_0, at_1, at_2, at_3, at_4, at_5, at_6, at_7, i_lenT, i_lenL, i_min2, i_max2, i_max3, i_min3, i_abs, i_sumi, i_sori, i_sorTi, i_tupT, i_tupL, i_lstT, i_lstL, i_inti, i_intb, ty_ii, ty_ib, ty_bi, ty_bb, ty_tt, ty_ti, noIns_int, noIns_bl, noIns_tup, noIns_lst, noIns_non, noIns_str, seqOf_tup, seqOf_lst, it_seqT, it_seqL, Nat.reduceAdd, Nat.reduceSub, Nat.reduceMul, Nat.reduceEqDiff, Nat.reduceLeDiff, Int.reduceEq, Int.reduceNe, Int.reduceLT, Int.reduceLE, Int.reduceGT, Int.reduceGE, Int.reduceAdd, Int.reduceSub, Int.reduceMul, Int.reduceNeg, Int.reduceToNat, Int.reducePow, Int.reduceAbs, Int.cast_ofNat_Int, List.map_cons, List.map_nil, List.append_nil, List.nil_append, List.cons_append, List.length_cons, List.length_nil, List.length_map, decide_true, decide_false, decide_eq_true_eq, Bool.not_eq_true', decide_eq_false_iff_not, Bool.and_eq_true, Bool.or_eq_true, not_true_eq_false, not_false_eq_true, Bool.not_true, Bool.not_false, Bool.true_and, Bool.and_true, Bool.false_and, Bool.and_false, Bool.or_false, Bool.false_or, Bool.true_or, Bool.or_true, Bool.false_eq_true, if_true, if_false, ite_true, ite_false, reduceIte, ite_self, beq_self_eq_true, Bool.true_eq_false]
    unfold inside
    cases ((a.zip b).any fun p => decide (p.1.1 < p.2.1) || decide (p.2.2 < p.1.2)) <;> rfl
  · intro p _
    unfold encP
    simp only [bind_ok, bind_no, bind_ex, bind_ite, gd_true, getS_0, getS_s, slV_sh, slB_ow, slO_ow, setS_0, setS_s, wipe_nil, wipe_cons, frS_ow, frS_sh, frS_no, tg_one, tg_tup, setVs_nil, setVs_cons, iteD_bl, and_bl, or_bl, and_blp, or_blp, nand_blp, nor_blp, ev_var, ev_bor, ev_con, ev_glb, ev_bin, ev_neg, negD_int, ev_nt, notD_bl, ev_cmp, ev_chain, ev_and, ev_or, ev_ite, ev_tup, ev_lst, ev_idx, ev_slc, ev_rvs, rvs_L, rvs_T, ev_bi, ev_isi, lends, lent_false, ev_call, ev_nil, ev_cons, ev_none, ev_some, intD_int, evE_comp, cmpT_none, cmpT_some, compD_map, compA_nil, compA_cons, cmpC_some, cmpC_none, compA_int, goB_nx, goB_bk, goB_ct, goB_rt, goB_ex, goB_ite, xB_nil, xB_cons, getX_0, getX_s, bodyOf_for, bodyOf_while, loopB_eq, condOf_while, thenOf_ite, elseOf_ite, seg_eq, List.drop_succ_cons, List.drop_zero, List.take_succ_cons, List.take_zero, x_asg, ownD_lst, x_own, x_unp, x_aug, x_put, x_app, x_ext, x_pop, popM_app, popM_one, x_ite, x_for, forT_eq, forD_nil, forD_cons, x_ret, ret_false, ret_int, ret_bl, ret_non, ret_tup, x_retR, x_retN, x_brk, x_cnt, x_pas, x_frz, x_del, endD_rt, endD_nx, endD_ex, endD_ite, iterO_nx, iterO_ct, iterO_bk, iterO_rt, iniS_0, iniS_n, iniS_c, b_add, b_sub, b_mul, b_addT, b_addL, b_rep, b_div, b_mod, b_pow, b_shl, b_shr, b_band, b_bor, b_bxor, a_add, a_sub, c_lt, c_le, c_gt, c_ge, c_eqi, c_nei, c_eqb, c_neb, c_isn, c_nisn, c_isb, c_nisb, eqD_ii, eqD_tt, eqD_ll, eqDs_n, eqDs_c, pl_int, pl_non, pl_bl, pl_tup, pl_lst, all_ints, List.all_cons, List.all_nil, fmod_e, fdiv_e, isNon_non, isNon_int, isNon_tup, isNon_lst, x_idxT, x_idxL, idxO_some, at_0, at_1, at_2, at_3, at_4, at_5, at_6, at_7, i_lenT, i_lenL, i_min2, i_max2, i_max3, i_min3, i_abs, i_sumi, i_sori, i_sorTi, i_tupT, i_tupL, i_lstT, i_lstL, i_inti, i_intb, ty_ii, ty_ib, ty_bi, ty_bb, ty_tt, ty_ti, noIns_int, noIns_bl, noIns_tup, noIns_lst, noIns_non, noIns_str, seqOf_tup, seqOf_lst, it_seqT, it_seqL, Nat.reduceAdd, Nat.reduceSub, Nat.reduceMul, Nat.reduceEqDiff, Nat.reduceLeDiff, Int.reduceEq, Int.reduceNe, Int.reduceLT, Int.reduceLE, Int.reduceGT, Int.reduceGE, Int.reduceAdd, Int.reduceSub, Int.reduceMul, Int.reduceNeg, Int.reduceToNat, Int.reducePow, Int.reduceAbs, Int.cast_ofNat_Int, List.map_cons, List.map_nil, List.append_nil, List.nil_append, List.cons_append, List.length_cons, List.length_nil, List.length_map, decide_true, decide_false, decide_eq_true_eq, Bool.not_eq_true', decide_eq_false_iff_not, Bool.and_eq_true, Bool.or_eq_true, not_true_eq_false, not_false_eq_true, Bool.not_true, Bool.not_false, Bool.true_and, Bool.and_true, Bool.false_and, Bool.and_false, Bool.or_false, Bool.false_or, Bool.true_or, Bool.or_true, Bool.false_eq_true, if_true, if_false, ite_true, ite_false, reduceIte, ite_self, beq_self_eq_true, Bool.true_eq_false]
def meets (a b : List (Int × Int)) : Bool := !(a.zip b).any fun p => decide (p.2.2 < p.1.1) || decide (p.1.2 < p.2.1)
theorem boxes_meet_ok (n : Nat) (a b : List (Int × Int)) : callN P (n + 1) n_boxes_meet [encB a, encB b] = .ok (.bl (meets a b)) := by
  rw [callN_eq P_boxes_meet _ (by simp)]
  unfold b_boxes_meet encB
  simp only [bind_ok, bind_no, bind_ex, bind_ite, gd_true, getS_0, getS_s, slV_sh, slB_ow, slO_ow, setS_0, setS_s, wipe_nil, wipe_cons, frS_ow, frS_sh, frS_no, tg_one, tg_tup, setVs_nil, setVs_cons, iteD_bl, and_bl, or_bl, and_blp, or_blp, nand_blp, nor_blp, ev_var, ev_bor, ev_con, ev_glb, ev_bin, ev_neg, negD_int, ev_nt, notD_bl, ev_cmp, ev_chain, ev_and, ev_or, ev_ite, ev_tup, ev_lst, ev_idx, ev_slc, ev_rvs, rvs_L, rvs_T, ev_bi, ev_isi, lends, lent_false, ev_call, ev_nil, ev_cons, ev_none, ev_some, intD_int, evE_comp, cmpT_none, cmpT_some, compD_map, compA_nil, compA_cons, cmpC_some, cmpC_none, compA_int, goB_nx, goB_bk, goB_ct, goB_rt, goB_ex, goB_ite, xB_nil, xB_cons, getX_0, getX_s, bodyOf_for, bodyOf_while, loopB_eq, condOf_while, thenOf_ite, elseOf_ite, seg_eq, List.drop_succ_cons, List.drop_zero, List.take_succ_cons, List.take_zero, x_asg, ownD_lst, x_own, x_unp, x_aug, x_put, x_app, x_ext, x_pop, popM_app, popM_one, x_ite, x_for, forT_eq, forD_nil, forD_cons, x_ret, ret_false, ret_int, ret_bl, ret_non, ret_tup, x_retR, x_retN, x_brk, x_cnt, x_pas, x_frz, x_del, endD_rt, endD_nx, endD_ex, endD_ite, iterO_nx, iterO_ct, iterO_bk, iterO_rt, iniS_0, iniS_n, iniS_c, b_add, b_sub, b_mul, b_addT, b_addL, b_rep, b_div, b_mod, b_pow, b_shl, b_shr, b_band, b_bor, b_bxor, a_add, a_sub, c_lt, c_le, c_gt, c_ge, c_eqi, c_nei, c_eqb, c_neb, c_isn, c_nisn, c_isb, c_nisb, eqD_ii, eqD_tt, eqD_ll, eqDs_n, eqDs_c, pl_int, pl_non, pl_bl, pl_tup, pl_lst, all_ints, List.all_cons, List.all_nil, fmod_e, fdiv_e, isNon_non, isNon_int, isNon_tup, isNon_lst, x_idxT, x_idxL, idxO_some, at_0, at_1, at_2, at_3, at_4, at_5, at_6, at_7, i_lenT, i_lenL, i_min2, i_max2, i_max3, i_min3, i_abs, i_sumi, i_sori, i_sorTi, i_tupT, i_tupL, i_lstT, i_lstL, i_inti, i_intb, ty_ii, ty_ib, ty_bi, ty_bb, ty_tt, ty_ti, noIns_int, noIns_bl, noIns_tup, noIns_lst, noIns_non, noIns_str, seqOf_tup, seqOf_lst, it_seqT, it_seqL, Nat.reduceAdd, Nat.reduceSub, Nat.reduceMul, Nat.reduceEqDiff, Nat.reduceLeDiff, Int.reduceEq, Int.reduceNe, Int.reduceLT, Int.reduceLE, Int.reduceGT, Int.reduceGE, Int.reduceAdd, Int.reduceSub, Int.reduceMul, Int.reduceNeg, Int.reduceToNat, Int.reducePow, Int.reduceAbs, Int.cast_ofNat_Int, List.map_cons, List.map_nil, List.append_nil, List.nil_append, List.cons_append, List.length_cons, List.length_nil, List.length_map, decide_true, decide_false, decide_eq_true_eq, Bool.not_eq_true', decide_eq_false_iff_not, Bool.and_eq_true, Bool.or_eq_true, not_true_eq_false, not_false_eq_true, Bool.not_true, Bool.not_false, Bool.true_and, Bool.and_true, Bool.false_and, Bool.and_false, Bool.or_false, Bool.false_or, Bool.true_or, Bool.or_true, Bool.false_eq_true, if_true, if_false, ite_true, ite_false, reduceIte, ite_self, beq_self_eq_true, Bool.true_eq_false, it_zipT]
  rw [forD_find (p := fun p : (Int × Int) × (Int × Int) => decide (p.2.2 < p.1.1) || decide (p.1.2 < p.2.1)) (r := .bl false)]
  · simp only [bind_ok, bind_no, bind_ex, bind_ite, gd_true, getS_0, getS_s, slV_sh, slB_ow, slO_ow, setS_0, setS_s, wipe_nil, wipe_cons, frS_ow, frS_sh, frS_no, tg_one, tg_tup, setVs_nil, setVs_cons, iteD_bl, and_bl, or_bl, and_blp, or_blp, nand_blp, nor_blp, ev_var, ev_bor, ev_con, ev_glb, ev_bin, ev_neg, negD_int, ev_nt, notD_bl, ev_cmp, ev_chain, ev_and, ev_or, ev_ite, ev_tup, ev_lst, ev_idx, ev_slc, ev_rvs, rvs_L, rvs_T, ev_bi, ev_isi, lends, lent_false, ev_call, ev_nil, ev_cons, ev_none, ev_some, intD_int, evE_comp, cmpT_none, cmpT_some, compD_map, compA_nil, compA_cons, cmpC_some, cmpC_none, compA_int, goB_nx, goB_bk, goB_ct, goB_rt, goB_ex, goB_ite, xB_nil, xB_cons, getX_0, getX_s, bodyOf_for, bodyOf_while, loopB_eq, condOf_while, thenOf_ite, elseOf_ite, seg_eq, List.drop_succ_cons, List.drop_zero, List.take_succ_cons, List.take_zero, x_asg, ownD_lst, x_own, x_unp, x_aug, x_put, x_app, x_ext, x_pop, popM_app, popM_one, x_ite, x_for, forT_eq, forD_nil, forD_cons, x_ret, ret_false, ret_int, ret_bl, ret_non, ret_tup, x_retR, x_retN, x_brk, x_cnt, x_pas, x_frz, x_del, endD_rt, endD_nx, endD_ex, endD_ite, iterO_nx, iterO_ct, iterO_bk, iterO_rt, iniS_0, iniS_n, iniS_c, b_add, b_sub, b_mul, b_addT, b_addL, b_rep, b_div, b_mod, b_pow, b_shl, b_shr, b_band, b_bor, b_bxor, a_add, a_sub, c_lt, c_le, c_gt, c_ge, c_eqi, c_nei, c_eqb, c_neb, c_isn, c_nisn, c_isb, c_nisb, eqD_ii, eqD_tt, eqD_ll, eqDs_n, eqDs_c, pl_int, pl_non, pl_bl, pl_tup, pl_lst, all_ints, List.all_cons, List.all_nil, fmod_e, fdiv_e, isNon_non, isNon_int, isNon_tup, isNon_lst, x_idxT, x_idxL, idxO_some, at_0, at_1, at_2, at_3, at_4, at_5, at_6, at_7, i_lenT, i_lenL, i_min2, i_max2, i_max3, i_min3, i_abs, i_sumi, i_sori, i_sorTi, i_tupT, i_tupL, i_lstT, i_lstL, i_inti, i_intb, ty_ii, ty_ib, ty_bi, ty_bb, ty_tt, ty_ti, noIns_int, noIns_bl, noIns_tup, noIns_lst, noIns_non, noIns_str, seqOf_tup, seqOf_lst, it_seqT, it_seqL, Nat.reduceAdd, Nat.reduceSub, Nat.reduceMul, Nat.reduceEqDiff, Nat.reduceLeDiff, Int.reduceEq, Int.reduceNe, Int.reduceLT, Int.reduceLE, Int.reduceGT, Int.reduceGE, Int.reduceAdd, Int.reduceSub, Int.reduceMul, Int.reduceNeg, Int.reduceToNat, Int.reducePow, Int.reduceAbs, Int.cast_ofNat_Int, List.map_cons, List.map_nil, List.append_nil, List.nil_append, List.cons_append, List.length_cons, List.length_nil, List.length_map, decide_true, decide_false, decide_eq_true_eq, Bool.not_eq_true', decide_eq_false_iff_not, Bool.and_eq_true, Bool.or_eq_true, not_true_eq_false, not_false_eq_true, Bool.not_true, Bool.not_false, Bool.true_and, Bool.and_true, Bool.false_and, Bool.and_false, Bool.or_false, Bool.false_or, Bool.true_or, Bool.or_true, Bool.false_eq_true, if_true, if_false, ite_true, ite_false, reduceIte, ite_self, beq_self_eq_true, Bool.true_eq_false]
    unfold meets
    cases ((a.zip b).any fun p => decide (p.2.2 < p.1.1) || decide (p.1.2 < p.2.1)) <;> rfl
  · intro p _
    unfold encP
    simp only [bind_ok, bind_no, bind_ex, bind_ite, gd_true, getS_0, getS_s, slV_sh, slB_ow, slO_ow, setS_0, setS_s, wipe_nil, wipe_cons, frS_ow, frS_sh, frS_no, tg_one, tg_tup, setVs_nil, setVs_cons, iteD_bl, and_bl, or_bl, and_blp, or_blp, nand_blp, nor_blp, ev_var, ev_bor, ev_con, ev_glb, ev_bin, ev_neg, negD_int, ev_nt, notD_bl, ev_cmp, ev_chain, ev_and, ev_or, ev_ite, ev_tup, ev_lst, ev_idx, ev_slc, ev_rvs, rvs_L, rvs_T, ev_bi, ev_isi, lends, lent_false, ev_call, ev_nil, ev_cons, ev_none, ev_some, intD_int, evE_comp, cmpT_none, cmpT_some, compD_map, compA_nil, compA_cons, cmpC_some, cmpC_none, compA_int, goB_nx, goB_bk, goB_ct, goB_rt, goB_ex, goB_ite, xB_nil, xB_cons, getX_0, getX_s, bodyOf_for, bodyOf_while, loopB_eq, condOf_while, thenOf_ite, elseOf_ite, seg_eq, List.drop_succ_cons, List.drop_zero, List.take_succ_cons, List.take_zero, x_asg, ownD_lst, x_own, x_unp, x_aug, x_put, x_app, x_ext, x_pop, popM_app, popM_one, x_ite, x_for, forT_eq, forD_nil, forD_cons, x_ret, ret_false, ret_int, ret_bl, ret_non, ret_tup, x_retR, x_retN, x_brk, x_cnt, x_pas, x_frz, x_del, endD_rt, endD_nx, endD_ex, endD_ite, iterO_nx, iterO_ct, iterO_bk, iterO_rt, iniS_0, iniS_n, iniS_c, b_add, b_sub, b_mul, b_addT, b_addL, b_rep, b_div, b_mod, b_pow, b_shl, b_shr, b_band, b_bor, b_bxor, a_add, a_sub, c_lt, c_le, c_gt, c_ge, c_eqi, c_nei, c_eqb, c_neb, c_isn, c_nisn, c_isb, c_nisb, eqD_ii, eqD_tt, eqD_ll, eqDs_n, eqDs_c, pl_int, pl_non, pl_bl, pl_tup, pl_lst, all_ints, List.all_cons, List.all_nil, fmod_e, fdiv_e, isNon_non, isNon_int, isNon_tup, isNon_lst, x_idxT, x_idxL, idxO_some, at_0, at_1, at_2, at_3, at_4, at_5, at_6, at_7, i_lenT, i_lenL, i_min2, i_max2, i_max3, i_min3, i_abs, i_sumi, i_sori, i_sorTi, i_tupT, i_tupL, i_lstT, i_lstL, i_inti, i_intb, ty_ii, ty_ib, ty_bi, ty_bb, ty_tt, ty_ti, noIns_int, noIns_bl, noIns_tup, noIns_lst, noIns_non, noIns_str, seqOf_tup, seqOf_lst, it_seqT, it_seqL, Nat.reduceAdd, Nat.reduceSub, Nat.reduceMul, Nat.reduceEqDiff, Nat.reduceLeDiff, Int.reduceEq, Int.reduceNe, Int.reduceLT, Int.reduceLE, Int.reduceGT, Int.reduceGE, Int.reduceAdd, Int.reduceSub, Int.reduceMul, Int.reduceNeg, Int.reduceToNat, Int.reducePow, Int.reduceAbs, Int.cast_ofNat_Int, List.map_cons, List.map_nil, List.append_nil, List.nil_append, List.cons_append, List.length_cons, List.length_nil, List.length_map, decide_true, decide_false, decide_eq_true_eq, Bool.not_eq_true', decide_eq_false_iff_not, Bool.and_eq_true, Bool.or_eq_true, not_true_eq_false, not_false_eq_true, Bool.not_true, Bool.not_false, Bool.true_and, Bool.and_true, Bool.false_and, Bool.and_false, Bool.or_false, Bool.false_or, Bool.true_or, Bool.or_true, Bool.false_eq_true, if_true, if_false, ite_true, ite_false, reduceIte, ite_self, beq_self_eq_true, Bool.true_eq_false]
theorem eqDs_map {α : Type} [DecidableEq α] (f : α → D) (h : ∀ a b, eqD (f a) (f b) = decide (a = b)) : ∀ xs ys : List α, eqDs (xs.map f) (ys.map f) = decide (xs = ys)
  | [], [] => by rw [List.map_nil, eqDs_n]; rfl
  | [], y :: ys => by rw [List.map_nil, List.map_cons]; unfold eqDs; rw [eq_comm, decide_eq_false]; exact fun z => nomatch z
  | x :: xs, [] => by rw [List.map_nil, List.map_cons]; unfold eqDs; rw [eq_comm, decide_eq_false]; exact fun z => nomatch z
  | x :: xs, y :: ys => by
    rw [List.map_cons, List.map_cons, eqDs_c, h, eqDs_map f h xs ys]
    by_cases e : x = y <;> by_cases e2 : xs = ys <;> simp [e, e2]
theorem eq_encP (a b : Int × Int) : eqD (encP a) (encP b) = decide (a = b) := by
  unfold encP
  rw [eqD_tt, eqDs_c, eqDs_c, eqDs_n, eqD_ii, eqD_ii, Bool.and_true]
  obtain ⟨a1, a2⟩ := a
  obtain ⟨b1, b2⟩ := b
  by_cases e : a1 = b1 <;> by_cases e2 : a2 = b2 <;> simp [e, e2]
theorem eq_encB (a b : List (Int × Int)) : eqD (encB a) (encB b) = decide (a = b) := by
  unfold encB
  rw [eqD_tt, eqDs_map encP eq_encP]
theorem plain_encB (b : List (Int × Int)) (n : Nat) : plainD (n + 2) (encB b) = true := by
  unfold encB
  rw [pl_tup, List.all_map, List.all_eq_true]
  intro p _
  show plainD (n + 1) (encP p) = true
  unfold encP
  rw [pl_tup, List.all_cons, List.all_cons, List.all_nil, pl_int, pl_int]; rfl
theorem c_eqB (a b : List (Int × Int)) : cmpD .eq (encB a) (encB b) = .ok (.bl (decide (a = b))) := by rw [c_eq, plain_encB a 58, plain_encB b 58, eq_encB]; rfl
theorem c_neB (a b : List (Int × Int)) : cmpD .ne (encB a) (encB b) = .ok (.bl (!decide (a = b))) := by rw [c_ne, plain_encB a 58, plain_encB b 58, eq_encB]; rfl
theorem cover_comm (a b : List (Int × Int)) : cover a b = cover b a := by
  unfold cover
  induction a generalizing b with
  | nil => simp
  | cons x a ih =>
    cases b with
    | nil => simp
    | cons y b =>
      simp only [List.zip_cons_cons, List.map_cons, ih b]
      congr 1
      rw [Int.min_comm, Int.max_comm]
theorem cover_len {a b : List (Int × Int)} (h : a.length = b.length) : (cover a b).length = a.length := by
  unfold cover; rw [List.length_map, List.length_zip, h]; omega
theorem inside_cons (p q : Int × Int) (a b : List (Int × Int)) : inside (p :: a) (q :: b) = (decide (q.1 ≤ p.1) && decide (p.2 ≤ q.2) && inside a b) := by
  unfold inside
  rw [List.zip_cons_cons, List.any_cons]
  simp only [Bool.not_or, ← decide_not, Int.not_lt]
theorem inside_nil (b : List (Int × Int)) : inside [] b = true := by unfold inside; simp
theorem inside_cover : ∀ {c f b : List (Int × Int)}, inside c f = true → c.length = f.length → f.length = b.length → inside c (cover f b) = true
  | [], f, b, _, _, _ => inside_nil _
  | x :: c, [], b, _, h, _ => by cases h
  | x :: c, y :: f, [], _, _, h => by cases h
  | x :: c, y :: f, z :: b, h, h1, h2 => by
    rw [inside_cons] at h
    simp only [Bool.and_eq_true, decide_eq_true_eq] at h
    have e : cover (y :: f) (z :: b) = (min y.1 z.1, max y.2 z.2) :: cover f b := rfl
    rw [e, inside_cons, inside_cover h.2 (by simpa using h1) (by simpa using h2), decide_eq_true (by simp only; omega), decide_eq_true (by simp only; omega)]; rfl
theorem inside_refl : ∀ (c : List (Int × Int)), inside c c = true
  | [] => inside_nil _
  | x :: c => by rw [inside_cons, inside_refl c, decide_eq_true (by omega), decide_eq_true (by omega)]; rfl
theorem inside_cover_r {c f : List (Int × Int)} (h : c.length = f.length) : inside c (cover f c) = true := by
  rw [cover_comm]; exact inside_cover (inside_refl c) rfl h
theorem meets_cons (p q : Int × Int) (a b : List (Int × Int)) : meets (p :: a) (q :: b) = (decide (p.1 ≤ q.2) && decide (q.1 ≤ p.2) && meets a b) := by
  unfold meets
  rw [List.zip_cons_cons, List.any_cons]
  simp only [Bool.not_or, ← decide_not, Int.not_lt]
theorem meets_of_inside' : ∀ {b f : List (Int × Int)}, inside b f = true → (∀ p ∈ b, GS p) → meets f b = true
  | [], f, _, _ => by unfold meets; simp
  | x :: b, [], _, _ => by unfold meets; simp
  | x :: b, y :: f, h, g => by
    rw [inside_cons] at h
    simp only [Bool.and_eq_true, decide_eq_true_eq] at h
    have g1 := g x List.mem_cons_self
    unfold GS at g1
    rw [meets_cons, meets_of_inside' h.2 (fun p hp => g p (List.mem_cons_of_mem _ hp)), decide_eq_true (by omega), decide_eq_true (by omega)]; rfl
theorem meets_of_inside {s : Nat} {b f : List (Int × Int)} (h : inside b f = true) (g : Box s b) : meets f b = true := meets_of_inside' h g.2
theorem inside_anti : ∀ {b f : List (Int × Int)}, inside b f = true → f.length = b.length → inside f b = decide (b = f)
  | [], [], _, _ => by rw [inside_nil]; rfl
  | [], y :: f, _, h => by cases h
  | x :: b, [], _, h => by cases h
  | x :: b, y :: f, h, h1 => by
    rw [inside_cons] at h ⊢
    simp only [Bool.and_eq_true, decide_eq_true_eq] at h
    rw [inside_anti h.2 (by simpa using h1)]
    obtain ⟨x1, x2⟩ := x
    obtain ⟨y1, y2⟩ := y
    simp only at h ⊢
    by_cases e : b = f
    · subst e
      by_cases e1 : x1 = y1 <;> by_cases e2 : x2 = y2 <;> simp [e1, e2] <;> omega
    · simp [e]
theorem itr2 : itD .rng1 [.int 2] = .ok [.int 0, .int 1] := nr rfl
theorem itr3 : itD .rng1 [.int 3] = .ok [.int 0, .int 1, .int 2] := nr rfl
theorem fit2 : fits 2 = true := nr rfl
theorem fit3 : fits 3 = true := nr rfl
def D2 {s : Nat} (hs : s = 2 ∨ s = 3) {α : Type} {a : List α} (h : a.length = s) : (s = 2 ∧ ∃ x y, a = [x, y]) ∨ (s = 3 ∧ ∃ x y z, a = [x, y, z]) := by
  rcases hs with rfl | rfl
  · exact .inl ⟨rfl, len2 h⟩
  · exact .inr ⟨rfl, len3 h⟩
theorem blEq {a b : Bool} (h : a = true ↔ b = true) : M.ok (D.bl a) = M.ok (D.bl b) := by rw [Bool.eq_iff_iff.2 h]
theorem meets_nil (b : List (Int × Int)) : meets [] b = true := by unfold meets; simp
def common (a b : List (Int × Int)) : List (Int × Int) := (a.zip b).map fun p => (max p.1.1 p.2.1, min p.1.2 p.2.2)
theorem box_common_ok (n : Nat) (a b : List (Int × Int)) (h : a.length ≤ 1000) : callN P (n + 2) n_box_common [encB a, encB b] = .ok (if meets a b = true then encB (common a b) else .non) := by
  rw [callN_eq P_box_common _ (by simp)]
  unfold b_box_common encB
  have hz : (a.zip b).length ≤ 1000000 := by rw [List.length_zip]; omega
  have e := boxes_meet_ok n a b
  unfold encB at e
  have hi : itD .zip [.tup (a.map encP), .tup (b.map encP)] = .ok ((a.zip b).map fun p => .tup [encP p.1, encP p.2]) := it_zipT encP encP a b
  simp only [bind_ok, bind_no, bind_ex, bind_ite, gd_true, getS_0, getS_s, slV_sh, slB_ow, slO_ow, setS_0, setS_s, wipe_nil, wipe_cons, frS_ow, frS_sh, frS_no, tg_one, tg_tup, setVs_nil, setVs_cons, iteD_bl, and_bl, or_bl, and_blp, or_blp, nand_blp, nor_blp, ev_var, ev_bor, ev_con, ev_glb, ev_bin, ev_neg, negD_int, ev_nt, notD_bl, ev_cmp, ev_chain, ev_and, ev_or, ev_ite, ev_tup, ev_lst, ev_idx, ev_slc, ev_rvs, rvs_L, rvs_T, ev_bi, ev_isi, lends, lent_false, ev_call, ev_nil, ev_cons, ev_none, ev_some, intD_int, evE_comp, cmpT_none, cmpT_some, compD_map, compA_nil, compA_cons, cmpC_some, cmpC_none, compA_int, goB_nx, goB_bk, goB_ct, goB_rt, goB_ex, goB_ite, xB_nil, xB_cons, getX_0, getX_s, bodyOf_for, bodyOf_while, loopB_eq, condOf_while, thenOf_ite, elseOf_ite, seg_eq, List.drop_succ_cons, List.drop_zero, List.take_succ_cons, List.take_zero, x_asg, ownD_lst, x_own, x_unp, x_aug, x_put, x_app, x_ext, x_pop, popM_app, popM_one, x_ite, x_for, forT_eq, forD_nil, forD_cons, x_ret, ret_false, ret_int, ret_bl, ret_non, ret_tup, x_retR, x_retN, x_brk, x_cnt, x_pas, x_frz, x_del, endD_rt, endD_nx, endD_ex, endD_ite, iterO_nx, iterO_ct, iterO_bk, iterO_rt, iniS_0, iniS_n, iniS_c, b_add, b_sub, b_mul, b_addT, b_addL, b_rep, b_div, b_mod, b_pow, b_shl, b_shr, b_band, b_bor, b_bxor, a_add, a_sub, c_lt, c_le, c_gt, c_ge, c_eqi, c_nei, c_eqb, c_neb, c_isn, c_nisn, c_isb, c_nisb, eqD_ii, eqD_tt, eqD_ll, eqDs_n, eqDs_c, pl_int, pl_non, pl_bl, pl_tup, pl_lst, all_ints, List.all_cons, List.all_nil, fmod_e, fdiv_e, isNon_non, isNon_int, isNon_tup, isNon_lst, x_idxT, x_idxL, idxO_some, at_0, at_1, at_2, at_3, at_4, at_5, at_6, at_7, i_lenT, i_lenL, i_min2, i_max2, i_max3, i_min3, i_abs, i_sumi, i_sori, i_sorTi, i_tupT, i_tupL, i_lstT, i_lstL, i_inti, i_intb, ty_ii, ty_ib, ty_bi, ty_bb, ty_tt, ty_ti, noIns_int, noIns_bl, noIns_tup, noIns_lst, noIns_non, noIns_str, seqOf_tup, seqOf_lst, it_seqT, it_seqL, Nat.reduceAdd, Nat.reduceSub, Nat.reduceMul, Nat.reduceEqDiff, Nat.reduceLeDiff, Int.reduceEq, Int.reduceNe, Int.reduceLT, Int.reduceLE, Int.reduceGT, Int.reduceGE, Int.reduceAdd, Int.reduceSub, Int.reduceMul, Int.reduceNeg, Int.reduceToNat, Int.reducePow, Int.reduceAbs, Int.cast_ofNat_Int, List.map_cons, List.map_nil, List.append_nil, List.nil_append, List.cons_append, List.length_cons, List.length_nil, List.length_map, decide_true, decide_false, decide_eq_true_eq, Bool.not_eq_true', decide_eq_false_iff_not, Bool.and_eq_true, Bool.or_eq_true, not_true_eq_false, not_false_eq_true, Bool.not_true, Bool.not_false, Bool.true_and, Bool.and_true, Bool.false_and, Bool.and_false, Bool.or_false, Bool.false_or, Bool.true_or, Bool.or_true, Bool.false_eq_true, if_true, if_false, ite_true, ite_false, reduceIte, ite_self, beq_self_eq_true, Bool.true_eq_false, e, hi, fits_of hz, compA_ok]
  cases h : meets a b
  · simp only [bind_ok, bind_no, bind_ex, bind_ite, gd_true, getS_0, getS_s, slV_sh, slB_ow, slO_ow, setS_0, setS_s, wipe_nil, wipe_cons, frS_ow, frS_sh, frS_no, tg_one, tg_tup, setVs_nil, setVs_cons, iteD_bl, and_bl, or_bl, and_blp, or_blp, nand_blp, nor_blp, ev_var, ev_bor, ev_con, ev_glb, ev_bin, ev_neg, negD_int, ev_nt, notD_bl, ev_cmp, ev_chain, ev_and, ev_or, ev_ite, ev_tup, ev_lst, ev_idx, ev_slc, ev_rvs, rvs_L, rvs_T, ev_bi, ev_isi, lends, lent_false, ev_call, ev_nil, ev_cons, ev_none, ev_some, intD_int, evE_comp, cmpT_none, cmpT_some, compD_map, compA_nil, compA_cons, cmpC_some, cmpC_none, compA_int, goB_nx, goB_bk, goB_ct, goB_rt, goB_ex, goB_ite, xB_nil, xB_cons, getX_0, getX_s, bodyOf_for, bodyOf_while, loopB_eq, condOf_while, thenOf_ite, elseOf_ite, seg_eq, List.drop_succ_cons, List.drop_zero, List.take_succ_cons, List.take_zero, x_asg, ownD_lst, x_own, x_unp, x_aug, x_put, x_app, x_ext, x_pop, popM_app, popM_one, x_ite, x_for, forT_eq, forD_nil, forD_cons, x_ret, ret_false, ret_int, ret_bl, ret_non, ret_tup, x_retR, x_retN, x_brk, x_cnt, x_pas, x_frz, x_del, endD_rt, endD_nx, endD_ex, endD_ite, iterO_nx, iterO_ct, iterO_bk, iterO_rt, iniS_0, iniS_n, iniS_c, b_add, b_sub, b_mul, b_addT, b_addL, b_rep, b_div, b_mod, b_pow, b_shl, b_shr, b_band, b_bor, b_bxor, a_add, a_sub, c_lt, c_le, c_gt, c_ge, c_eqi, c_nei, c_eqb, c_neb, c_isn, c_nisn, c_isb, c_nisb, eqD_ii, eqD_tt, eqD_ll, eqDs_n, eqDs_c, pl_int, pl_non, pl_bl, pl_tup, pl_lst, all_ints, List.all_cons, List.all_nil, fmod_e, fdiv_e, isNon_non, isNon_int, isNon_tup, isNon_lst, x_idxT, x_idxL, idxO_some, at_0, at_1, at_2, at_3, at_4, at_5, at_6, at_7, i_lenT, i_lenL, i_min2, i_max2, i_max3, i_min3, i_abs, i_sumi, i_sori, i_sorTi, i_tupT, i_tupL, i_lstT, i_lstL, i_inti, i_intb, ty_ii, ty_ib, ty_bi, ty_bb, ty_tt, ty_ti, noIns_int, noIns_bl, noIns_tup, noIns_lst, noIns_non, noIns_str, seqOf_tup, seqOf_lst, it_seqT, it_seqL, Nat.reduceAdd, Nat.reduceSub, Nat.reduceMul, Nat.reduceEqDiff, Nat.reduceLeDiff, Int.reduceEq, Int.reduceNe, Int.reduceLT, Int.reduceLE, Int.reduceGT, Int.reduceGE, Int.reduceAdd, Int.reduceSub, Int.reduceMul, Int.reduceNeg, Int.reduceToNat, Int.reducePow, Int.reduceAbs, Int.cast_ofNat_Int, List.map_cons, List.map_nil, List.append_nil, List.nil_append, List.cons_append, List.length_cons, List.length_nil, List.length_map, decide_true, decide_false, decide_eq_true_eq, Bool.not_eq_true', decide_eq_false_iff_not, Bool.and_eq_true, Bool.or_eq_true, not_true_eq_false, not_false_eq_true, Bool.not_true, Bool.not_false, Bool.true_and, Bool.and_true, Bool.false_and, Bool.and_false, Bool.or_false, Bool.false_or, Bool.true_or, Bool.or_true, Bool.false_eq_true, if_true, if_false, ite_true, ite_false, reduceIte, ite_self, beq_self_eq_true, Bool.true_eq_false, encP]
  · simp only [bind_ok, bind_no, bind_ex, bind_ite, gd_true, getS_0, getS_s, slV_sh, slB_ow, slO_ow, setS_0, setS_s, wipe_nil, wipe_cons, frS_ow, frS_sh, frS_no, tg_one, tg_tup, setVs_nil, setVs_cons, iteD_bl, and_bl, or_bl, and_blp, or_blp, nand_blp, nor_blp, ev_var, ev_bor, ev_con, ev_glb, ev_bin, ev_neg, negD_int, ev_nt, notD_bl, ev_cmp, ev_chain, ev_and, ev_or, ev_ite, ev_tup, ev_lst, ev_idx, ev_slc, ev_rvs, rvs_L, rvs_T, ev_bi, ev_isi, lends, lent_false, ev_call, ev_nil, ev_cons, ev_none, ev_some, intD_int, evE_comp, cmpT_none, cmpT_some, compD_map, compA_nil, compA_cons, cmpC_some, cmpC_none, compA_int, goB_nx, goB_bk, goB_ct, goB_rt, goB_ex, goB_ite, xB_nil, xB_cons, getX_0, getX_s, bodyOf_for, bodyOf_while, loopB_eq, condOf_while, thenOf_ite, elseOf_ite, seg_eq, List.drop_succ_cons, List.drop_zero, List.take_succ_cons, List.take_zero, x_asg, ownD_lst, x_own, x_unp, x_aug, x_put, x_app, x_ext, x_pop, popM_app, popM_one, x_ite, x_for, forT_eq, forD_nil, forD_cons, x_ret, ret_false, ret_int, ret_bl, ret_non, ret_tup, x_retR, x_retN, x_brk, x_cnt, x_pas, x_frz, x_del, endD_rt, endD_nx, endD_ex, endD_ite, iterO_nx, iterO_ct, iterO_bk, iterO_rt, iniS_0, iniS_n, iniS_c, b_add, b_sub, b_mul, b_addT, b_addL, b_rep, b_div, b_mod, b_pow, b_shl, b_shr, b_band, b_bor, b_bxor, a_add, a_sub, c_lt, c_le, c_gt, c_ge, c_eqi, c_nei, c_eqb, c_neb, c_isn, c_nisn, c_isb, c_nisb, eqD_ii, eqD_tt, eqD_ll, eqDs_n, eqDs_c, pl_int, pl_non, pl_bl, pl_tup, pl_lst, all_ints, List.all_cons, List.all_nil, fmod_e, fdiv_e, isNon_non, isNon_int, isNon_tup, isNon_lst, x_idxT, x_idxL, idxO_some, at_0, at_1, at_2, at_3, at_4, at_5, at_6, at_7, i_lenT, i_lenL, i_min2, i_max2, i_max3, i_min3, i_abs, i_sumi, i_sori, i_sorTi, i_tupT, i_tupL, i_lstT, i_lstL, i_inti, i_intb, ty_ii, ty_ib, ty_bi, ty_bb, ty_tt, ty_ti, noIns_int, noIns_bl, noIns_tup, noIns_lst, noIns_non, noIns_str, seqOf_tup, seqOf_lst, it_seqT, it_seqL, Nat.reduceAdd, Nat.reduceSub, Nat.reduceMul, Nat.reduceEqDiff, Nat.reduceLeDiff, Int.reduceEq, Int.reduceNe, Int.reduceLT, Int.reduceLE, Int.reduceGT, Int.reduceGE, Int.reduceAdd, Int.reduceSub, Int.reduceMul, Int.reduceNeg, Int.reduceToNat, Int.reducePow, Int.reduceAbs, Int.cast_ofNat_Int, List.map_cons, List.map_nil, List.append_nil, List.nil_append, List.cons_append, List.length_cons, List.length_nil, List.length_map, decide_true, decide_false, decide_eq_true_eq, Bool.not_eq_true', decide_eq_false_iff_not, Bool.and_eq_true, Bool.or_eq_true, not_true_eq_false, not_false_eq_true, Bool.not_true, Bool.not_false, Bool.true_and, Bool.and_true, Bool.false_and, Bool.and_false, Bool.or_false, Bool.false_or, Bool.true_or, Bool.or_true, Bool.false_eq_true, if_true, if_false, ite_true, ite_false, reduceIte, ite_self, beq_self_eq_true, Bool.true_eq_false, encP, fits_of hz, compA_ok]
    unfold common
    rw [List.map_map]; rfl
def turned (b : List (Int × Int)) (w : Nat) : List (Int × Int) := b.set w ((b.getD w (0, 0)).2, (b.getD w (0, 0)).1)
theorem turned_len (b : List (Int × Int)) (w : Nat) : (turned b w).length = b.length := by unfold turned; rw [List.length_set]
theorem law_turned_ok (n : Nat) (b : List (Int × Int)) {w : Nat} (h : w < b.length) : callN P (n + 1) n_law_turned [encB b, .int (w : Int)] = .ok (encB (turned b w)) := by
  rw [callN_eq P_law_turned _ (by simp)]
  unfold b_law_turned encB
  have e1 : L2.atI b (w : Int) = some (b.getD w (0, 0)) := at_nat (by rw [List.getD_eq_getElem?_getD, List.getElem?_eq_getElem h]; rfl)
  have e2 : L2.ixN b.length (w : Int) = some w := by unfold L2.ixN; rw [if_pos (by omega), if_pos (by omega)]; simp
  simp only [bind_ok, bind_no, bind_ex, bind_ite, gd_true, getS_0, getS_s, slV_sh, slB_ow, slO_ow, setS_0, setS_s, wipe_nil, wipe_cons, frS_ow, frS_sh, frS_no, tg_one, tg_tup, setVs_nil, setVs_cons, iteD_bl, and_bl, or_bl, and_blp, or_blp, nand_blp, nor_blp, ev_var, ev_bor, ev_con, ev_glb, ev_bin, ev_neg, negD_int, ev_nt, notD_bl, ev_cmp, ev_chain, ev_and, ev_or, ev_ite, ev_tup, ev_lst, ev_idx, ev_slc, ev_rvs, rvs_L, rvs_T, ev_bi, ev_isi, lends, lent_false, ev_call, ev_nil, ev_cons, ev_none, ev_some, intD_int, evE_comp, cmpT_none, cmpT_some, compD_map, compA_nil, compA_cons, cmpC_some, cmpC_none, compA_int, goB_nx, goB_bk, goB_ct, goB_rt, goB_ex, goB_ite, xB_nil, xB_cons, getX_0, getX_s, bodyOf_for, bodyOf_while, loopB_eq, condOf_while, thenOf_ite, elseOf_ite, seg_eq, List.drop_succ_cons, List.drop_zero, List.take_succ_cons, List.take_zero, x_asg, ownD_lst, x_own, x_unp, x_aug, x_put, x_app, x_ext, x_pop, popM_app, popM_one, x_ite, x_for, forT_eq, forD_nil, forD_cons, x_ret, ret_false, ret_int, ret_bl, ret_non, ret_tup, x_retR, x_retN, x_brk, x_cnt, x_pas, x_frz, x_del, endD_rt, endD_nx, endD_ex, endD_ite, iterO_nx, iterO_ct, iterO_bk, iterO_rt, iniS_0, iniS_n, iniS_c, b_add, b_sub, b_mul, b_addT, b_addL, b_rep, b_div, b_mod, b_pow, b_shl, b_shr, b_band, b_bor, b_bxor, a_add, a_sub, c_lt, c_le, c_gt, c_ge, c_eqi, c_nei, c_eqb, c_neb, c_isn, c_nisn, c_isb, c_nisb, eqD_ii, eqD_tt, eqD_ll, eqDs_n, eqDs_c, pl_int, pl_non, pl_bl, pl_tup, pl_lst, all_ints, List.all_cons, List.all_nil, fmod_e, fdiv_e, isNon_non, isNon_int, isNon_tup, isNon_lst, x_idxT, x_idxL, idxO_some, at_0, at_1, at_2, at_3, at_4, at_5, at_6, at_7, i_lenT, i_lenL, i_min2, i_max2, i_max3, i_min3, i_abs, i_sumi, i_sori, i_sorTi, i_tupT, i_tupL, i_lstT, i_lstL, i_inti, i_intb, ty_ii, ty_ib, ty_bi, ty_bb, ty_tt, ty_ti, noIns_int, noIns_bl, noIns_tup, noIns_lst, noIns_non, noIns_str, seqOf_tup, seqOf_lst, it_seqT, it_seqL, Nat.reduceAdd, Nat.reduceSub, Nat.reduceMul, Nat.reduceEqDiff, Nat.reduceLeDiff, Int.reduceEq, Int.reduceNe, Int.reduceLT, Int.reduceLE, Int.reduceGT, Int.reduceGE, Int.reduceAdd, Int.reduceSub, Int.reduceMul, Int.reduceNeg, Int.reduceToNat, Int.reducePow, Int.reduceAbs, Int.cast_ofNat_Int, List.map_cons, List.map_nil, List.append_nil, List.nil_append, List.cons_append, List.length_cons, List.length_nil, List.length_map, decide_true, decide_false, decide_eq_true_eq, Bool.not_eq_true', decide_eq_false_iff_not, Bool.and_eq_true, Bool.or_eq_true, not_true_eq_false, not_false_eq_true, Bool.not_true, Bool.not_false, Bool.true_and, Bool.and_true, Bool.false_and, Bool.and_false, Bool.or_false, Bool.false_or, Bool.true_or, Bool.or_true, Bool.false_eq_true, if_true, if_false, ite_true, ite_false, reduceIte, ite_self, beq_self_eq_true, Bool.true_eq_false, at_map, e1, Option.map_some, encP, putD, e2]
  unfold turned
  rw [List.map_set]; rfl
end Dw

namespace Dw
open PySem
abbrev Sd := Int × Int × Int × Int
def encS (p : Sd) : D := .tup [.int p.1, .int p.2.1, .int p.2.2.1, .int p.2.2.2]
def encF (f : List Sd) : D := .tup (f.map encS)
/-- a side of a swath within the bounds -/
def GW (p : Sd) : Prop := (-1000000000000000000000000000000 ≤ p.1 ∧ p.1 ≤ p.2.1 ∧ p.2.1 ≤ 1000000000000000000000000000000) ∧ -1000000000000000 ≤ p.2.2.1 ∧ p.2.2.1 ≤ p.2.2.2 ∧ p.2.2.2 ≤ 1000000000000000
theorem law_clip_ok (n : Nat) (x : Int) : ∃ y, callN P (n + 1) n_law_clip [.int x] = .ok (.int y) ∧ -1000000000000000000000000000000 ≤ y ∧ y ≤ 1000000000000000000000000000000 := by
  rw [callN_eq P_law_clip _ (by simp)]
  unfold b_law_clip
  have h30 : powOk 10 30 = true := by decide
  simp only [bind_ok, bind_no, bind_ex, bind_ite, gd_true, getS_0, getS_s, slV_sh, slB_ow, slO_ow, setS_0, setS_s, wipe_nil, wipe_cons, frS_ow, frS_sh, frS_no, tg_one, tg_tup, setVs_nil, setVs_cons, iteD_bl, and_bl, or_bl, and_blp, or_blp, nand_blp, nor_blp, ev_var, ev_bor, ev_con, ev_glb, ev_bin, ev_neg, negD_int, ev_nt, notD_bl, ev_cmp, ev_chain, ev_and, ev_or, ev_ite, ev_tup, ev_lst, ev_idx, ev_slc, ev_rvs, rvs_L, rvs_T, ev_bi, ev_isi, lends, lent_false, ev_call, ev_nil, ev_cons, ev_none, ev_some, intD_int, evE_comp, cmpT_none, cmpT_some, compD_map, compA_nil, compA_cons, cmpC_some, cmpC_none, compA_int, goB_nx, goB_bk, goB_ct, goB_rt, goB_ex, goB_ite, xB_nil, xB_cons, getX_0, getX_s, bodyOf_for, bodyOf_while, loopB_eq, condOf_while, thenOf_ite, elseOf_ite, seg_eq, List.drop_succ_cons, List.drop_zero, List.take_succ_cons, List.take_zero, x_asg, ownD_lst, x_own, x_unp, x_aug, x_put, x_app, x_ext, x_pop, popM_app, popM_one, x_ite, x_for, forT_eq, forD_nil, forD_cons, x_ret, ret_false, ret_int, ret_bl, ret_non, ret_tup, x_retR, x_retN, x_brk, x_cnt, x_pas, x_frz, x_del, endD_rt, endD_nx, endD_ex, endD_ite, iterO_nx, iterO_ct, iterO_bk, iterO_rt, iniS_0, iniS_n, iniS_c, b_add, b_sub, b_mul, b_addT, b_addL, b_rep, b_div, b_mod, b_pow, b_shl, b_shr, b_band, b_bor, b_bxor, a_add, a_sub, c_lt, c_le, c_gt, c_ge, c_eqi, c_nei, c_eqb, c_neb, c_isn, c_nisn, c_isb, c_nisb, eqD_ii, eqD_tt, eqD_ll, eqDs_n, eqDs_c, pl_int, pl_non, pl_bl, pl_tup, pl_lst, all_ints, List.all_cons, List.all_nil, fmod_e, fdiv_e, isNon_non, isNon_int, isNon_tup, isNon_lst, x_idxT, x_idxL, idxO_some, at_0, at_1, at_2, at_3, at_4, at_5, at_6, at_7, i_lenT, i_lenL, i_min2, i_max2, i_max3, i_min3, i_abs, i_sumi, i_sori, i_sorTi, i_tupT, i_tupL, i_lstT, i_lstL, i_inti, i_intb, ty_ii, ty_ib, ty_bi, ty_bb, ty_tt, ty_ti, noIns_int, noIns_bl, noIns_tup, noIns_lst, noIns_non, noIns_str, seqOf_tup, seqOf_lst, it_seqT, it_seqL, Nat.reduceAdd, Nat.reduceSub, Nat.reduceMul, Nat.reduceEqDiff, Nat.reduceLeDiff, Int.reduceEq, Int.reduceNe, Int.reduceLT, Int.reduceLE, Int.reduceGT, Int.reduceGE, Int.reduceAdd, Int.reduceSub, Int.reduceMul, Int.reduceNeg, Int.reduceToNat, Int.reducePow, Int.reduceAbs, Int.cast_ofNat_Int, List.map_cons, List.map_nil, List.append_nil, List.nil_append, List.cons_append, List.length_cons, List.length_nil, List.length_map, decide_true, decide_false, decide_eq_true_eq, Bool.not_eq_true', decide_eq_false_iff_not, Bool.and_eq_true, Bool.or_eq_true, not_true_eq_false, not_false_eq_true, Bool.not_true, Bool.not_false, Bool.true_and, Bool.and_true, Bool.false_and, Bool.and_false, Bool.or_false, Bool.false_or, Bool.true_or, Bool.or_true, Bool.false_eq_true, if_true, if_false, ite_true, ite_false, reduceIte, ite_self, beq_self_eq_true, Bool.true_eq_false, h30]
  exact ⟨_, rfl, by omega, by omega⟩
theorem law_speeds_ok (n : Nat) (l : Sd) (c o : Int) (h : GW l) : ∃ u v, callN P (n + 2) n_law_speeds [encS l, .int c, .int o] = .ok (.tup [.int u, .int v]) ∧ -1000000000000000 ≤ u ∧ u ≤ v ∧ v ≤ 1000000000000000 := by
  rw [callN_eq P_law_speeds _ (by simp)]
  unfold b_law_speeds encS
  have h15 : powOk 10 15 = true := by decide
  have d3 : divOk 3 = true := by decide
  have hp : (0 : Int) ≤ 1000000000000000 := by decide
  have e1 := even_range (c / 3) 1000000000000000 hp
  have e2 := even_range o 1000000000000000 hp
  unfold GW at h
  simp only [bind_ok, bind_no, bind_ex, bind_ite, gd_true, getS_0, getS_s, slV_sh, slB_ow, slO_ow, setS_0, setS_s, wipe_nil, wipe_cons, frS_ow, frS_sh, frS_no, tg_one, tg_tup, setVs_nil, setVs_cons, iteD_bl, and_bl, or_bl, and_blp, or_blp, nand_blp, nor_blp, ev_var, ev_bor, ev_con, ev_glb, ev_bin, ev_neg, negD_int, ev_nt, notD_bl, ev_cmp, ev_chain, ev_and, ev_or, ev_ite, ev_tup, ev_lst, ev_idx, ev_slc, ev_rvs, rvs_L, rvs_T, ev_bi, ev_isi, lends, lent_false, ev_call, ev_nil, ev_cons, ev_none, ev_some, intD_int, evE_comp, cmpT_none, cmpT_some, compD_map, compA_nil, compA_cons, cmpC_some, cmpC_none, compA_int, goB_nx, goB_bk, goB_ct, goB_rt, goB_ex, goB_ite, xB_nil, xB_cons, getX_0, getX_s, bodyOf_for, bodyOf_while, loopB_eq, condOf_while, thenOf_ite, elseOf_ite, seg_eq, List.drop_succ_cons, List.drop_zero, List.take_succ_cons, List.take_zero, x_asg, ownD_lst, x_own, x_unp, x_aug, x_put, x_app, x_ext, x_pop, popM_app, popM_one, x_ite, x_for, forT_eq, forD_nil, forD_cons, x_ret, ret_false, ret_int, ret_bl, ret_non, ret_tup, x_retR, x_retN, x_brk, x_cnt, x_pas, x_frz, x_del, endD_rt, endD_nx, endD_ex, endD_ite, iterO_nx, iterO_ct, iterO_bk, iterO_rt, iniS_0, iniS_n, iniS_c, b_add, b_sub, b_mul, b_addT, b_addL, b_rep, b_div, b_mod, b_pow, b_shl, b_shr, b_band, b_bor, b_bxor, a_add, a_sub, c_lt, c_le, c_gt, c_ge, c_eqi, c_nei, c_eqb, c_neb, c_isn, c_nisn, c_isb, c_nisb, eqD_ii, eqD_tt, eqD_ll, eqDs_n, eqDs_c, pl_int, pl_non, pl_bl, pl_tup, pl_lst, all_ints, List.all_cons, List.all_nil, fmod_e, fdiv_e, isNon_non, isNon_int, isNon_tup, isNon_lst, x_idxT, x_idxL, idxO_some, at_0, at_1, at_2, at_3, at_4, at_5, at_6, at_7, i_lenT, i_lenL, i_min2, i_max2, i_max3, i_min3, i_abs, i_sumi, i_sori, i_sorTi, i_tupT, i_tupL, i_lstT, i_lstL, i_inti, i_intb, ty_ii, ty_ib, ty_bi, ty_bb, ty_tt, ty_ti, noIns_int, noIns_bl, noIns_tup, noIns_lst, noIns_non, noIns_str, seqOf_tup, seqOf_lst, it_seqT, it_seqL, Nat.reduceAdd, Nat.reduceSub, Nat.reduceMul, Nat.reduceEqDiff, Nat.reduceLeDiff, Int.reduceEq, Int.reduceNe, Int.reduceLT, Int.reduceLE, Int.reduceGT, Int.reduceGE, Int.reduceAdd, Int.reduceSub, Int.reduceMul, Int.reduceNeg, Int.reduceToNat, Int.reducePow, Int.reduceAbs, Int.cast_ofNat_Int, List.map_cons, List.map_nil, List.append_nil, List.nil_append, List.cons_append, List.length_cons, List.length_nil, List.length_map, decide_true, decide_false, decide_eq_true_eq, Bool.not_eq_true', decide_eq_false_iff_not, Bool.and_eq_true, Bool.or_eq_true, not_true_eq_false, not_false_eq_true, Bool.not_true, Bool.not_false, Bool.true_and, Bool.and_true, Bool.false_and, Bool.and_false, Bool.or_false, Bool.false_or, Bool.true_or, Bool.or_true, Bool.false_eq_true, if_true, if_false, ite_true, ite_false, reduceIte, ite_self, beq_self_eq_true, Bool.true_eq_false, h15, d3, law_even_ok, hp]
  split
  · exact ⟨_, _, rfl, by omega, by omega, by omega⟩
  · split
    · exact ⟨_, _, rfl, by omega, by omega, by omega⟩
    · exact ⟨_, _, rfl, by omega, by omega, by omega⟩
theorem law_swath_side_ok (n : Nat) (l : Sd) (a b c d : Int) (beat : Int) (h : GW l) (hb : 0 ≤ beat ∧ beat ≤ 1000000000000000) : ∃ p, callN P (n + 3) n_law_swath_side [encS l, .lst [.int a, .int b, .int c, .int d], .int beat] = .ok (encS p) ∧ GW p := by
  rw [callN_eq P_law_swath_side _ (by simp)]
  obtain ⟨u, v, es, u1, u2, u3⟩ := law_speeds_ok n l c d h
  unfold b_law_swath_side
  have h30 : powOk 10 30 = true := by decide
  have d6 : divOk 6 = true := by decide
  have hp : (0 : Int) ≤ 1000000000000000000000000000000 := by decide
  have e1 := even_range (a / 6) 1000000000000000000000000000000 hp
  have e2 := even_range b 1000000000000000000000000000000 hp
  have f4 : fits 4 = true := rfl
  have hm : ∀ x : Int, mulOk x beat = true := fun x => mul_ok2 (by omega)
  obtain ⟨y2, c2, y2a, y2b⟩ := law_clip_ok (n + 1) (l.2.1 + (l.2.2.2 - u) * beat + 0)
  obtain ⟨y5, c5, y5a, y5b⟩ := law_clip_ok (n + 1) (l.2.1 + (l.2.2.2 - u) * beat + 1)
  obtain ⟨y3, c3, y3a, y3b⟩ := law_clip_ok (n + 1) (l.1 + (l.2.2.1 - v) * beat)
  unfold encS at es ⊢
  obtain ⟨l1, l2, l3, l4⟩ := l
  unfold GW at h
  simp only at h es c2 c3 c5 ⊢
  simp only [bind_ok, bind_no, bind_ex, bind_ite, gd_true, getS_0, getS_s, slV_sh, slB_ow, slO_ow, setS_0, setS_s, wipe_nil, wipe_cons, frS_ow, frS_sh, frS_no, tg_one, tg_tup, setVs_nil, setVs_cons, iteD_bl, and_bl, or_bl, and_blp, or_blp, nand_blp, nor_blp, ev_var, ev_bor, ev_con, ev_glb, ev_bin, ev_neg, negD_int, ev_nt, notD_bl, ev_cmp, ev_chain, ev_and, ev_or, ev_ite, ev_tup, ev_lst, ev_idx, ev_slc, ev_rvs, rvs_L, rvs_T, ev_bi, ev_isi, lends, lent_false, ev_call, ev_nil, ev_cons, ev_none, ev_some, intD_int, evE_comp, cmpT_none, cmpT_some, compD_map, compA_nil, compA_cons, cmpC_some, cmpC_none, compA_int, goB_nx, goB_bk, goB_ct, goB_rt, goB_ex, goB_ite, xB_nil, xB_cons, getX_0, getX_s, bodyOf_for, bodyOf_while, loopB_eq, condOf_while, thenOf_ite, elseOf_ite, seg_eq, List.drop_succ_cons, List.drop_zero, List.take_succ_cons, List.take_zero, x_asg, ownD_lst, x_own, x_unp, x_aug, x_put, x_app, x_ext, x_pop, popM_app, popM_one, x_ite, x_for, forT_eq, forD_nil, forD_cons, x_ret, ret_false, ret_int, ret_bl, ret_non, ret_tup, x_retR, x_retN, x_brk, x_cnt, x_pas, x_frz, x_del, endD_rt, endD_nx, endD_ex, endD_ite, iterO_nx, iterO_ct, iterO_bk, iterO_rt, iniS_0, iniS_n, iniS_c, b_add, b_sub, b_mul, b_addT, b_addL, b_rep, b_div, b_mod, b_pow, b_shl, b_shr, b_band, b_bor, b_bxor, a_add, a_sub, c_lt, c_le, c_gt, c_ge, c_eqi, c_nei, c_eqb, c_neb, c_isn, c_nisn, c_isb, c_nisb, eqD_ii, eqD_tt, eqD_ll, eqDs_n, eqDs_c, pl_int, pl_non, pl_bl, pl_tup, pl_lst, all_ints, List.all_cons, List.all_nil, fmod_e, fdiv_e, isNon_non, isNon_int, isNon_tup, isNon_lst, x_idxT, x_idxL, idxO_some, at_0, at_1, at_2, at_3, at_4, at_5, at_6, at_7, i_lenT, i_lenL, i_min2, i_max2, i_max3, i_min3, i_abs, i_sumi, i_sori, i_sorTi, i_tupT, i_tupL, i_lstT, i_lstL, i_inti, i_intb, ty_ii, ty_ib, ty_bi, ty_bb, ty_tt, ty_ti, noIns_int, noIns_bl, noIns_tup, noIns_lst, noIns_non, noIns_str, seqOf_tup, seqOf_lst, it_seqT, it_seqL, Nat.reduceAdd, Nat.reduceSub, Nat.reduceMul, Nat.reduceEqDiff, Nat.reduceLeDiff, Int.reduceEq, Int.reduceNe, Int.reduceLT, Int.reduceLE, Int.reduceGT, Int.reduceGE, Int.reduceAdd, Int.reduceSub, Int.reduceMul, Int.reduceNeg, Int.reduceToNat, Int.reducePow, Int.reduceAbs, Int.cast_ofNat_Int, List.map_cons, List.map_nil, List.append_nil, List.nil_append, List.cons_append, List.length_cons, List.length_nil, List.length_map, decide_true, decide_false, decide_eq_true_eq, Bool.not_eq_true', decide_eq_false_iff_not, Bool.and_eq_true, Bool.or_eq_true, not_true_eq_false, not_false_eq_true, Bool.not_true, Bool.not_false, Bool.true_and, Bool.and_true, Bool.false_and, Bool.and_false, Bool.or_false, Bool.false_or, Bool.true_or, Bool.or_true, Bool.false_eq_true, if_true, if_false, ite_true, ite_false, reduceIte, ite_self, beq_self_eq_true, Bool.true_eq_false, h30, d6, law_even_ok, hp, es, f4, hm]
  split
  · rename_i hw
    by_cases h5 : a % 6 = 5
    · simp only [bind_ok, bind_no, bind_ex, bind_ite, gd_true, getS_0, getS_s, slV_sh, slB_ow, slO_ow, setS_0, setS_s, wipe_nil, wipe_cons, frS_ow, frS_sh, frS_no, tg_one, tg_tup, setVs_nil, setVs_cons, iteD_bl, and_bl, or_bl, and_blp, or_blp, nand_blp, nor_blp, ev_var, ev_bor, ev_con, ev_glb, ev_bin, ev_neg, negD_int, ev_nt, notD_bl, ev_cmp, ev_chain, ev_and, ev_or, ev_ite, ev_tup, ev_lst, ev_idx, ev_slc, ev_rvs, rvs_L, rvs_T, ev_bi, ev_isi, lends, lent_false, ev_call, ev_nil, ev_cons, ev_none, ev_some, intD_int, evE_comp, cmpT_none, cmpT_some, compD_map, compA_nil, compA_cons, cmpC_some, cmpC_none, compA_int, goB_nx, goB_bk, goB_ct, goB_rt, goB_ex, goB_ite, xB_nil, xB_cons, getX_0, getX_s, bodyOf_for, bodyOf_while, loopB_eq, condOf_while, thenOf_ite, elseOf_ite, seg_eq, List.drop_succ_cons, List.drop_zero, List.take_succ_cons, List.take_zero, x_asg, ownD_lst, x_own, x_unp, x_aug, x_put, x_app, x_ext, x_pop, popM_app, popM_one, x_ite, x_for, forT_eq, forD_nil, forD_cons, x_ret, ret_false, ret_int, ret_bl, ret_non, ret_tup, x_retR, x_retN, x_brk, x_cnt, x_pas, x_frz, x_del, endD_rt, endD_nx, endD_ex, endD_ite, iterO_nx, iterO_ct, iterO_bk, iterO_rt, iniS_0, iniS_n, iniS_c, b_add, b_sub, b_mul, b_addT, b_addL, b_rep, b_div, b_mod, b_pow, b_shl, b_shr, b_band, b_bor, b_bxor, a_add, a_sub, c_lt, c_le, c_gt, c_ge, c_eqi, c_nei, c_eqb, c_neb, c_isn, c_nisn, c_isb, c_nisb, eqD_ii, eqD_tt, eqD_ll, eqDs_n, eqDs_c, pl_int, pl_non, pl_bl, pl_tup, pl_lst, all_ints, List.all_cons, List.all_nil, fmod_e, fdiv_e, isNon_non, isNon_int, isNon_tup, isNon_lst, x_idxT, x_idxL, idxO_some, at_0, at_1, at_2, at_3, at_4, at_5, at_6, at_7, i_lenT, i_lenL, i_min2, i_max2, i_max3, i_min3, i_abs, i_sumi, i_sori, i_sorTi, i_tupT, i_tupL, i_lstT, i_lstL, i_inti, i_intb, ty_ii, ty_ib, ty_bi, ty_bb, ty_tt, ty_ti, noIns_int, noIns_bl, noIns_tup, noIns_lst, noIns_non, noIns_str, seqOf_tup, seqOf_lst, it_seqT, it_seqL, Nat.reduceAdd, Nat.reduceSub, Nat.reduceMul, Nat.reduceEqDiff, Nat.reduceLeDiff, Int.reduceEq, Int.reduceNe, Int.reduceLT, Int.reduceLE, Int.reduceGT, Int.reduceGE, Int.reduceAdd, Int.reduceSub, Int.reduceMul, Int.reduceNeg, Int.reduceToNat, Int.reducePow, Int.reduceAbs, Int.cast_ofNat_Int, List.map_cons, List.map_nil, List.append_nil, List.nil_append, List.cons_append, List.length_cons, List.length_nil, List.length_map, decide_true, decide_false, decide_eq_true_eq, Bool.not_eq_true', decide_eq_false_iff_not, Bool.and_eq_true, Bool.or_eq_true, not_true_eq_false, not_false_eq_true, Bool.not_true, Bool.not_false, Bool.true_and, Bool.and_true, Bool.false_and, Bool.and_false, Bool.or_false, Bool.false_or, Bool.true_or, Bool.or_true, Bool.false_eq_true, if_true, if_false, ite_true, ite_false, reduceIte, ite_self, beq_self_eq_true, Bool.true_eq_false, h5, c5]
      exact ⟨(_, _, _, _), rfl, by unfold GW; simp only; omega⟩
    · simp only [bind_ok, bind_no, bind_ex, bind_ite, gd_true, getS_0, getS_s, slV_sh, slB_ow, slO_ow, setS_0, setS_s, wipe_nil, wipe_cons, frS_ow, frS_sh, frS_no, tg_one, tg_tup, setVs_nil, setVs_cons, iteD_bl, and_bl, or_bl, and_blp, or_blp, nand_blp, nor_blp, ev_var, ev_bor, ev_con, ev_glb, ev_bin, ev_neg, negD_int, ev_nt, notD_bl, ev_cmp, ev_chain, ev_and, ev_or, ev_ite, ev_tup, ev_lst, ev_idx, ev_slc, ev_rvs, rvs_L, rvs_T, ev_bi, ev_isi, lends, lent_false, ev_call, ev_nil, ev_cons, ev_none, ev_some, intD_int, evE_comp, cmpT_none, cmpT_some, compD_map, compA_nil, compA_cons, cmpC_some, cmpC_none, compA_int, goB_nx, goB_bk, goB_ct, goB_rt, goB_ex, goB_ite, xB_nil, xB_cons, getX_0, getX_s, bodyOf_for, bodyOf_while, loopB_eq, condOf_while, thenOf_ite, elseOf_ite, seg_eq, List.drop_succ_cons, List.drop_zero, List.take_succ_cons, List.take_zero, x_asg, ownD_lst, x_own, x_unp, x_aug, x_put, x_app, x_ext, x_pop, popM_app, popM_one, x_ite, x_for, forT_eq, forD_nil, forD_cons, x_ret, ret_false, ret_int, ret_bl, ret_non, ret_tup, x_retR, x_retN, x_brk, x_cnt, x_pas, x_frz, x_del, endD_rt, endD_nx, endD_ex, endD_ite, iterO_nx, iterO_ct, iterO_bk, iterO_rt, iniS_0, iniS_n, iniS_c, b_add, b_sub, b_mul, b_addT, b_addL, b_rep, b_div, b_mod, b_pow, b_shl, b_shr, b_band, b_bor, b_bxor, a_add, a_sub, c_lt, c_le, c_gt, c_ge, c_eqi, c_nei, c_eqb, c_neb, c_isn, c_nisn, c_isb, c_nisb, eqD_ii, eqD_tt, eqD_ll, eqDs_n, eqDs_c, pl_int, pl_non, pl_bl, pl_tup, pl_lst, all_ints, List.all_cons, List.all_nil, fmod_e, fdiv_e, isNon_non, isNon_int, isNon_tup, isNon_lst, x_idxT, x_idxL, idxO_some, at_0, at_1, at_2, at_3, at_4, at_5, at_6, at_7, i_lenT, i_lenL, i_min2, i_max2, i_max3, i_min3, i_abs, i_sumi, i_sori, i_sorTi, i_tupT, i_tupL, i_lstT, i_lstL, i_inti, i_intb, ty_ii, ty_ib, ty_bi, ty_bb, ty_tt, ty_ti, noIns_int, noIns_bl, noIns_tup, noIns_lst, noIns_non, noIns_str, seqOf_tup, seqOf_lst, it_seqT, it_seqL, Nat.reduceAdd, Nat.reduceSub, Nat.reduceMul, Nat.reduceEqDiff, Nat.reduceLeDiff, Int.reduceEq, Int.reduceNe, Int.reduceLT, Int.reduceLE, Int.reduceGT, Int.reduceGE, Int.reduceAdd, Int.reduceSub, Int.reduceMul, Int.reduceNeg, Int.reduceToNat, Int.reducePow, Int.reduceAbs, Int.cast_ofNat_Int, List.map_cons, List.map_nil, List.append_nil, List.nil_append, List.cons_append, List.length_cons, List.length_nil, List.length_map, decide_true, decide_false, decide_eq_true_eq, Bool.not_eq_true', decide_eq_false_iff_not, Bool.and_eq_true, Bool.or_eq_true, not_true_eq_false, not_false_eq_true, Bool.not_true, Bool.not_false, Bool.true_and, Bool.and_true, Bool.false_and, Bool.and_false, Bool.or_false, Bool.false_or, Bool.true_or, Bool.or_true, Bool.false_eq_true, if_true, if_false, ite_true, ite_false, reduceIte, ite_self, beq_self_eq_true, Bool.true_eq_false, h5, c2]
      exact ⟨(_, _, _, _), rfl, by unfold GW; simp only; omega⟩
  split
  · simp only [bind_ok, bind_no, bind_ex, bind_ite, gd_true, getS_0, getS_s, slV_sh, slB_ow, slO_ow, setS_0, setS_s, wipe_nil, wipe_cons, frS_ow, frS_sh, frS_no, tg_one, tg_tup, setVs_nil, setVs_cons, iteD_bl, and_bl, or_bl, and_blp, or_blp, nand_blp, nor_blp, ev_var, ev_bor, ev_con, ev_glb, ev_bin, ev_neg, negD_int, ev_nt, notD_bl, ev_cmp, ev_chain, ev_and, ev_or, ev_ite, ev_tup, ev_lst, ev_idx, ev_slc, ev_rvs, rvs_L, rvs_T, ev_bi, ev_isi, lends, lent_false, ev_call, ev_nil, ev_cons, ev_none, ev_some, intD_int, evE_comp, cmpT_none, cmpT_some, compD_map, compA_nil, compA_cons, cmpC_some, cmpC_none, compA_int, goB_nx, goB_bk, goB_ct, goB_rt, goB_ex, goB_ite, xB_nil, xB_cons, getX_0, getX_s, bodyOf_for, bodyOf_while, loopB_eq, condOf_while, thenOf_ite, elseOf_ite, seg_eq, List.drop_succ_cons, List.drop_zero, List.take_succ_cons, List.take_zero, x_asg, ownD_lst, x_own, x_unp, x_aug, x_put, x_app, x_ext, x_pop, popM_app, popM_one, x_ite, x_for, forT_eq, forD_nil, forD_cons, x_ret, ret_false, ret_int, ret_bl, ret_non, ret_tup, x_retR, x_retN, x_brk, x_cnt, x_pas, x_frz, x_del, endD_rt, endD_nx, endD_ex, endD_ite, iterO_nx, iterO_ct, iterO_bk, iterO_rt, iniS_0, iniS_n, iniS_c, b_add, b_sub, b_mul, b_addT, b_addL, b_rep, b_div, b_mod, b_pow, b_shl, b_shr, b_band, b_bor, b_bxor, a_add, a_sub, c_lt, c_le, c_gt, c_ge, c_eqi, c_nei, c_eqb, c_neb, c_isn, c_nisn, c_isb, c_nisb, eqD_ii, eqD_tt, eqD_ll, eqDs_n, eqDs_c, pl_int, pl_non, pl_bl, pl_tup, pl_lst, all_ints, List.all_cons, List.all_nil, fmod_e, fdiv_e, isNon_non, isNon_int, isNon_tup, isNon_lst, x_idxT, x_idxL, idxO_some, at_0, at_1, at_2, at_3, at_4, at_5, at_6, at_7, i_lenT, i_lenL, i_min2, i_max2, i_max3, i_min3, i_abs, i_sumi, i_sori, i_sorTi, i_tupT, i_tupL, i_lstT, i_lstL, i_inti, i_intb, ty_ii, ty_ib, ty_bi, ty_bb, ty_tt, ty_ti, noIns_int, noIns_bl, noIns_tup, noIns_lst, noIns_non, noIns_str, seqOf_tup, seqOf_lst, it_seqT, it_seqL, Nat.reduceAdd, Nat.reduceSub, Nat.reduceMul, Nat.reduceEqDiff, Nat.reduceLeDiff, Int.reduceEq, Int.reduceNe, Int.reduceLT, Int.reduceLE, Int.reduceGT, Int.reduceGE, Int.reduceAdd, Int.reduceSub, Int.reduceMul, Int.reduceNeg, Int.reduceToNat, Int.reducePow, Int.reduceAbs, Int.cast_ofNat_Int, List.map_cons, List.map_nil, List.append_nil, List.nil_append, List.cons_append, List.length_cons, List.length_nil, List.length_map, decide_true, decide_false, decide_eq_true_eq, Bool.not_eq_true', decide_eq_false_iff_not, Bool.and_eq_true, Bool.or_eq_true, not_true_eq_false, not_false_eq_true, Bool.not_true, Bool.not_false, Bool.true_and, Bool.and_true, Bool.false_and, Bool.and_false, Bool.or_false, Bool.false_or, Bool.true_or, Bool.or_true, Bool.false_eq_true, if_true, if_false, ite_true, ite_false, reduceIte, ite_self, beq_self_eq_true, Bool.true_eq_false, c3]
    exact ⟨(_, _, _, _), rfl, by unfold GW; simp only; omega⟩
  split
  · exact ⟨(_, _, _, _), rfl, by unfold GW; simp only; omega⟩
  · exact ⟨(_, _, _, _), rfl, by unfold GW; simp only; omega⟩
def Sw (s : Nat) (b : List Sd) : Prop := b.length = s ∧ ∀ p ∈ b, GW p
theorem cut4 (xs : List Int) (j : Nat) (h : 4 * j + 4 ≤ xs.length) : ∃ a b c d, cut xs (4 * (j : Int)) (4 * (j : Int) + 4) = [a, b, c, d] := by
  have hl : (cut xs (4 * (j : Int)) (4 * (j : Int) + 4)).length = 4 := by
    unfold cut
    rw [sIx_int _ _ (by omega), sIx_int _ _ (by omega), List.length_take, List.length_drop]
    omega
  generalize cut xs (4 * (j : Int)) (4 * (j : Int) + 4) = l at hl
  match l, hl with
  | [a, b, c, d], _ => exact ⟨a, b, c, d, rfl⟩
theorem swaths_turn (n : Nat) (cells : List Int) (hc : cells.length ≤ 1000) (s : Nat) (hs : s = 2 ∨ s = 3) (beat : Int) (hb : 0 ≤ beat ∧ beat ≤ 1000000000000000) (m : Nat) (hm2 : m ≤ 1003) (k : Nat) (hk : k < m) (row : List (List Sd)) (last : List Sd) (hl : row.length < m) {pl : Nat} (h1 : row.length = pl) (h2 : ∀ b ∈ row, Sw s b) (h3 : Sw s last) :
    ∃ ρ', forT (callN P (n + 3)) true [8] (loopB b_law_swaths 5) (.int (k : Int)) [.sh (.lst (cells.map D.int)), .sh (.int s), .no, .sh (.int beat), .ow (row.map encF), .sh (.lst (last.map encS)), .sh (.int (4 * (s : Int))), .sh (.int (m : Int)), .no, .no, .no] = .ok (.nx ρ') ∧ ∃ (row : List (List Sd)) (last : List Sd), ρ' = [.sh (.lst (cells.map D.int)), .sh (.int s), .no, .sh (.int beat), .ow (row.map encF), .sh (.lst (last.map encS)), .sh (.int (4 * (s : Int))), .sh (.int (m : Int)), .no, .no, .no] ∧ row.length = pl + 1 ∧ (∀ b ∈ row, Sw s b) ∧ Sw s last := by
  have hm : mulOk (4 * (s : Int)) (k : Int) = true := mul_ok1 (by omega)
  have hf : fits (List.range s).length = true := fits_of (by rw [List.length_range]; omega)
  have hr := it_rng1n (n := s) (by omega)
  have h0 : (0 : Int) ≤ 4 * (s : Int) * (k : Int) := Int.mul_nonneg (by omega) (by omega)
  have hcl := cut_len cells (a := 4 * (s : Int) * (k : Int)) (b := 4 * (s : Int) * (k : Int) + 4 * (s : Int)) h0 (by omega)
  generalize hcut : cut cells (4 * (s : Int) * (k : Int)) (4 * (s : Int) * (k : Int) + 4 * (s : Int)) = part at hcl
  have hp1 : part.length ≤ 12 := by omega
  generalize hpad : part ++ List.replicate (4 * (s : Int) - (part.length : Int)).toNat 0 = part'
  have hp2 : part'.length = 4 * s := by rw [← hpad, List.length_append, List.length_replicate]; omega
  have C : ∃ last' : List Sd, compA (fun j : Nat => cmpT (callN P (n + 3)) [.sh (.lst (cells.map D.int)), .sh (.int s), .no, .sh (.int beat), .ow (row.map encF), .sh (.lst (last.map encS)), .sh (.int (4 * (s : Int))), .sh (.int (m : Int)), .no, .sh (.lst (part'.map D.int)), .no] [10] none (.call n_law_swath_side [(.idx (.var 5) (.var 10)), (.slc (.var 9) (some (.bin .mul (.con (.int 4)) (.var 10))) (some (.bin .add (.bin .mul (.con (.int 4)) (.var 10)) (.con (.int 4))))), (.var 3)] []) (.int (j : Int))) (List.range s) = .ok (last'.map encS) ∧ last'.length = (List.range s).length ∧ ∀ p ∈ last', GW p := by
    refine compA_ex fun j hj => ?_
    have hj : j < s := List.mem_range.1 hj
    obtain ⟨q, q1, _, q2⟩ := at_int (xs := last) (i := (j : Int)) (by omega) (by have := h3.1; omega)
    obtain ⟨x, y, z, w, hc4⟩ := cut4 part' j (by omega)
    obtain ⟨p, e, g⟩ := law_swath_side_ok n q x y z w beat (h3.2 q q1) hb
    refine ⟨p, ?_, g⟩
    have hmj : mulOk 4 (j : Int) = true := mul_ok1 (by decide)
    simp only [bind_ok, bind_no, bind_ex, bind_ite, gd_true, getS_0, getS_s, slV_sh, slB_ow, slO_ow, setS_0, setS_s, wipe_nil, wipe_cons, frS_ow, frS_sh, frS_no, tg_one, tg_tup, setVs_nil, setVs_cons, iteD_bl, and_bl, or_bl, and_blp, or_blp, nand_blp, nor_blp, ev_var, ev_bor, ev_con, ev_glb, ev_bin, ev_neg, negD_int, ev_nt, notD_bl, ev_cmp, ev_chain, ev_and, ev_or, ev_ite, ev_tup, ev_lst, ev_idx, ev_slc, ev_rvs, rvs_L, rvs_T, ev_bi, ev_isi, lends, lent_false, ev_call, ev_nil, ev_cons, ev_none, ev_some, intD_int, evE_comp, cmpT_none, cmpT_some, compD_map, compA_nil, compA_cons, cmpC_some, cmpC_none, compA_int, goB_nx, goB_bk, goB_ct, goB_rt, goB_ex, goB_ite, xB_nil, xB_cons, getX_0, getX_s, bodyOf_for, bodyOf_while, loopB_eq, condOf_while, thenOf_ite, elseOf_ite, seg_eq, List.drop_succ_cons, List.drop_zero, List.take_succ_cons, List.take_zero, x_asg, ownD_lst, x_own, x_unp, x_aug, x_put, x_app, x_ext, x_pop, popM_app, popM_one, x_ite, x_for, forT_eq, forD_nil, forD_cons, x_ret, ret_false, ret_int, ret_bl, ret_non, ret_tup, x_retR, x_retN, x_brk, x_cnt, x_pas, x_frz, x_del, endD_rt, endD_nx, endD_ex, endD_ite, iterO_nx, iterO_ct, iterO_bk, iterO_rt, iniS_0, iniS_n, iniS_c, b_add, b_sub, b_mul, b_addT, b_addL, b_rep, b_div, b_mod, b_pow, b_shl, b_shr, b_band, b_bor, b_bxor, a_add, a_sub, c_lt, c_le, c_gt, c_ge, c_eqi, c_nei, c_eqb, c_neb, c_isn, c_nisn, c_isb, c_nisb, eqD_ii, eqD_tt, eqD_ll, eqDs_n, eqDs_c, pl_int, pl_non, pl_bl, pl_tup, pl_lst, all_ints, List.all_cons, List.all_nil, fmod_e, fdiv_e, isNon_non, isNon_int, isNon_tup, isNon_lst, x_idxT, x_idxL, idxO_some, at_0, at_1, at_2, at_3, at_4, at_5, at_6, at_7, i_lenT, i_lenL, i_min2, i_max2, i_max3, i_min3, i_abs, i_sumi, i_sori, i_sorTi, i_tupT, i_tupL, i_lstT, i_lstL, i_inti, i_intb, ty_ii, ty_ib, ty_bi, ty_bb, ty_tt, ty_ti, noIns_int, noIns_bl, noIns_tup, noIns_lst, noIns_non, noIns_str, seqOf_tup, seqOf_lst, it_seqT, it_seqL, Nat.reduceAdd, Nat.reduceSub, Nat.reduceMul, Nat.reduceEqDiff, Nat.reduceLeDiff, Int.reduceEq, Int.reduceNe, Int.reduceLT, Int.reduceLE, Int.reduceGT, Int.reduceGE, Int.reduceAdd, Int.reduceSub, Int.reduceMul, Int.reduceNeg, Int.reduceToNat, Int.reducePow, Int.reduceAbs, Int.cast_ofNat_Int, List.map_cons, List.map_nil, List.append_nil, List.nil_append, List.cons_append, List.length_cons, List.length_nil, List.length_map, decide_true, decide_false, decide_eq_true_eq, Bool.not_eq_true', decide_eq_false_iff_not, Bool.and_eq_true, Bool.or_eq_true, not_true_eq_false, not_false_eq_true, Bool.not_true, Bool.not_false, Bool.true_and, Bool.and_true, Bool.false_and, Bool.and_false, Bool.or_false, Bool.false_or, Bool.true_or, Bool.or_true, Bool.false_eq_true, if_true, if_false, ite_true, ite_false, reduceIte, ite_self, beq_self_eq_true, Bool.true_eq_false, at_map, q2, Option.map_some, hmj, slc_ints, hc4, e]
  obtain ⟨last', e, l1, l2⟩ := C
  refine ⟨_, ?_, row ++ [last'], last', rfl, by simp [h1], fun b hb => ?_, by rw [l1, List.length_range], l2⟩
  · unfold b_law_swaths
    simp only [bind_ok, bind_no, bind_ex, bind_ite, gd_true, getS_0, getS_s, slV_sh, slB_ow, slO_ow, setS_0, setS_s, wipe_nil, wipe_cons, frS_ow, frS_sh, frS_no, tg_one, tg_tup, setVs_nil, setVs_cons, iteD_bl, and_bl, or_bl, and_blp, or_blp, nand_blp, nor_blp, ev_var, ev_bor, ev_con, ev_glb, ev_bin, ev_neg, negD_int, ev_nt, notD_bl, ev_cmp, ev_chain, ev_and, ev_or, ev_ite, ev_tup, ev_lst, ev_idx, ev_slc, ev_rvs, rvs_L, rvs_T, ev_bi, ev_isi, lends, lent_false, ev_call, ev_nil, ev_cons, ev_none, ev_some, intD_int, evE_comp, cmpT_none, cmpT_some, compD_map, compA_nil, compA_cons, cmpC_some, cmpC_none, compA_int, goB_nx, goB_bk, goB_ct, goB_rt, goB_ex, goB_ite, xB_nil, xB_cons, getX_0, getX_s, bodyOf_for, bodyOf_while, loopB_eq, condOf_while, thenOf_ite, elseOf_ite, seg_eq, List.drop_succ_cons, List.drop_zero, List.take_succ_cons, List.take_zero, x_asg, ownD_lst, x_own, x_unp, x_aug, x_put, x_app, x_ext, x_pop, popM_app, popM_one, x_ite, x_for, forT_eq, forD_nil, forD_cons, x_ret, ret_false, ret_int, ret_bl, ret_non, ret_tup, x_retR, x_retN, x_brk, x_cnt, x_pas, x_frz, x_del, endD_rt, endD_nx, endD_ex, endD_ite, iterO_nx, iterO_ct, iterO_bk, iterO_rt, iniS_0, iniS_n, iniS_c, b_add, b_sub, b_mul, b_addT, b_addL, b_rep, b_div, b_mod, b_pow, b_shl, b_shr, b_band, b_bor, b_bxor, a_add, a_sub, c_lt, c_le, c_gt, c_ge, c_eqi, c_nei, c_eqb, c_neb, c_isn, c_nisn, c_isb, c_nisb, eqD_ii, eqD_tt, eqD_ll, eqDs_n, eqDs_c, pl_int, pl_non, pl_bl, pl_tup, pl_lst, all_ints, List.all_cons, List.all_nil, fmod_e, fdiv_e, isNon_non, isNon_int, isNon_tup, isNon_lst, x_idxT, x_idxL, idxO_some, at_0, at_1, at_2, at_3, at_4, at_5, at_6, at_7, i_lenT, i_lenL, i_min2, i_max2, i_max3, i_min3, i_abs, i_sumi, i_sori, i_sorTi, i_tupT, i_tupL, i_lstT, i_lstL, i_inti, i_intb, ty_ii, ty_ib, ty_bi, ty_bb, ty_tt, ty_ti, noIns_int, noIns_bl, noIns_tup, noIns_lst, noIns_non, noIns_str, seqOf_tup, seqOf_lst, it_seqT, it_seqL, Nat.reduceAdd, Nat.reduceSub, Nat.reduceMul, Nat.reduceEqDiff, Nat.reduceLeDiff, Int.reduceEq, Int.reduceNe, Int.reduceLT, Int.reduceLE, Int.reduceGT, Int.reduceGE, Int.reduceAdd, Int.reduceSub, Int.reduceMul, Int.reduceNeg, Int.reduceToNat, Int.reducePow, Int.reduceAbs, Int.cast_ofNat_Int, List.map_cons, List.map_nil, List.append_nil, List.nil_append, List.cons_append, List.length_cons, List.length_nil, List.length_map, decide_true, decide_false, decide_eq_true_eq, Bool.not_eq_true', decide_eq_false_iff_not, Bool.and_eq_true, Bool.or_eq_true, not_true_eq_false, not_false_eq_true, Bool.not_true, Bool.not_false, Bool.true_and, Bool.and_true, Bool.false_and, Bool.and_false, Bool.or_false, Bool.false_or, Bool.true_or, Bool.or_true, Bool.false_eq_true, if_true, if_false, ite_true, ite_false, reduceIte, ite_self, beq_self_eq_true, Bool.true_eq_false] at e
    simp only [bind_ok, bind_no, bind_ex, bind_ite, gd_true, getS_0, getS_s, slV_sh, slB_ow, slO_ow, setS_0, setS_s, wipe_nil, wipe_cons, frS_ow, frS_sh, frS_no, tg_one, tg_tup, setVs_nil, setVs_cons, iteD_bl, and_bl, or_bl, and_blp, or_blp, nand_blp, nor_blp, ev_var, ev_bor, ev_con, ev_glb, ev_bin, ev_neg, negD_int, ev_nt, notD_bl, ev_cmp, ev_chain, ev_and, ev_or, ev_ite, ev_tup, ev_lst, ev_idx, ev_slc, ev_rvs, rvs_L, rvs_T, ev_bi, ev_isi, lends, lent_false, ev_call, ev_nil, ev_cons, ev_none, ev_some, intD_int, evE_comp, cmpT_none, cmpT_some, compD_map, compA_nil, compA_cons, cmpC_some, cmpC_none, compA_int, goB_nx, goB_bk, goB_ct, goB_rt, goB_ex, goB_ite, xB_nil, xB_cons, getX_0, getX_s, bodyOf_for, bodyOf_while, loopB_eq, condOf_while, thenOf_ite, elseOf_ite, seg_eq, List.drop_succ_cons, List.drop_zero, List.take_succ_cons, List.take_zero, x_asg, ownD_lst, x_own, x_unp, x_aug, x_put, x_app, x_ext, x_pop, popM_app, popM_one, x_ite, x_for, forT_eq, forD_nil, forD_cons, x_ret, ret_false, ret_int, ret_bl, ret_non, ret_tup, x_retR, x_retN, x_brk, x_cnt, x_pas, x_frz, x_del, endD_rt, endD_nx, endD_ex, endD_ite, iterO_nx, iterO_ct, iterO_bk, iterO_rt, iniS_0, iniS_n, iniS_c, b_add, b_sub, b_mul, b_addT, b_addL, b_rep, b_div, b_mod, b_pow, b_shl, b_shr, b_band, b_bor, b_bxor, a_add, a_sub, c_lt, c_le, c_gt, c_ge, c_eqi, c_nei, c_eqb, c_neb, c_isn, c_nisn, c_isb, c_nisb, eqD_ii, eqD_tt, eqD_ll, eqDs_n, eqDs_c, pl_int, pl_non, pl_bl, pl_tup, pl_lst, all_ints, List.all_cons, List.all_nil, fmod_e, fdiv_e, isNon_non, isNon_int, isNon_tup, isNon_lst, x_idxT, x_idxL, idxO_some, at_0, at_1, at_2, at_3, at_4, at_5, at_6, at_7, i_lenT, i_lenL, i_min2, i_max2, i_max3, i_min3, i_abs, i_sumi, i_sori, i_sorTi, i_tupT, i_tupL, i_lstT, i_lstL, i_inti, i_intb, ty_ii, ty_ib, ty_bi, ty_bb, ty_tt, ty_ti, noIns_int, noIns_bl, noIns_tup, noIns_lst, noIns_non, noIns_str, seqOf_tup, seqOf_lst, it_seqT, it_seqL, Nat.reduceAdd, Nat.reduceSub, Nat.reduceMul, Nat.reduceEqDiff, Nat.reduceLeDiff, Int.reduceEq, Int.reduceNe, Int.reduceLT, Int.reduceLE, Int.reduceGT, Int.reduceGE, Int.reduceAdd, Int.reduceSub, Int.reduceMul, Int.reduceNeg, Int.reduceToNat, Int.reducePow, Int.reduceAbs, Int.cast_ofNat_Int, List.map_cons, List.map_nil, List.append_nil, List.nil_append, List.cons_append, List.length_cons, List.length_nil, List.length_map, decide_true, decide_false, decide_eq_true_eq, Bool.not_eq_true', decide_eq_false_iff_not, Bool.and_eq_true, Bool.or_eq_true, not_true_eq_false, not_false_eq_true, Bool.not_true, Bool.not_false, Bool.true_and, Bool.and_true, Bool.false_and, Bool.and_false, Bool.or_false, Bool.false_or, Bool.true_or, Bool.or_true, Bool.false_eq_true, if_true, if_false, ite_true, ite_false, reduceIte, ite_self, beq_self_eq_true, Bool.true_eq_false, e, hm, slc_ints, hcut, b_rep0 (j := 4 * (s : Int) - (part.length : Int)) 0 (by omega) (by omega), b_addI (xs := part) (ys := List.replicate (4 * (s : Int) - (part.length : Int)).toNat 0) (by rw [List.length_replicate]; omega), hpad, hr, hf, dec_size (show row.length < 1000000 by omega), List.map_append, encF]
  · rcases List.mem_append.1 hb with hb | hb
    · exact h2 b hb
    · rw [List.mem_singleton.1 hb]; exact ⟨by rw [l1, List.length_range], l2⟩
theorem law_swaths_ok (n : Nat) (cells : List Int) (hc : cells.length ≤ 1000) (s : Nat) (hs : s = 2 ∨ s = 3) (least : Nat) (hl : least ≤ 2) (beat : Int) (hb : 0 ≤ beat ∧ beat ≤ 1000000000000000) : ∃ row : List (List Sd), callN P (n + 4) n_law_swaths [.lst (cells.map D.int), .int s, .int least, .int beat] = .ok (.lst (row.map encF)) ∧ least ≤ row.length ∧ row.length ≤ 1003 ∧ ∀ b ∈ row, Sw s b := by
  rw [callN_eq P_law_swaths _ (by simp)]
  have hm : mulOk 4 (s : Int) = true := mul_ok1 (by decide)
  have hd : divOk (4 * (s : Int)) = true := div_ok' (by omega) (by omega)
  have hf : fits (List.range s).length = true := fits_of (by rw [List.length_range]; omega)
  have hr := it_rng1n (n := s) (by omega)
  have hsn : 0 ≤ 4 * (s : Int) := by omega
  obtain ⟨m, em⟩ : ∃ m : Nat, max (least : Int) (((cells.length : Int) + 4 * (s : Int) - 1) / (4 * (s : Int))) = (m : Int) := ⟨(max (least : Int) (((cells.length : Int) + 4 * (s : Int) - 1) / (4 * (s : Int)))).toNat, by omega⟩
  have hq : ((cells.length : Int) + 4 * (s : Int) - 1) / (4 * (s : Int)) ≤ 1000 := by
    rcases hs with rfl | rfl <;> simp only [Int.cast_ofNat_Int, Int.reduceMul] <;> omega
  have hm1 : least ≤ m := by omega
  have hm2 : m ≤ 1003 := by omega
  have A : exB (callN P (n + 3)) true (seg b_law_swaths 0 5) (iniS 11 [.lst (cells.map D.int), .int s, .int least, .int beat]) = .ok (.nx [.sh (.lst (cells.map D.int)), .sh (.int s), .no, .sh (.int beat), .ow [], .sh (.lst (((List.range s).map fun _ => (0, 0, 0, 0)).map encS)), .sh (.int (4 * (s : Int))), .sh (.int (m : Int)), .no, .no, .no]) := by
    unfold b_law_swaths
    simp only [bind_ok, bind_no, bind_ex, bind_ite, gd_true, getS_0, getS_s, slV_sh, slB_ow, slO_ow, setS_0, setS_s, wipe_nil, wipe_cons, frS_ow, frS_sh, frS_no, tg_one, tg_tup, setVs_nil, setVs_cons, iteD_bl, and_bl, or_bl, and_blp, or_blp, nand_blp, nor_blp, ev_var, ev_bor, ev_con, ev_glb, ev_bin, ev_neg, negD_int, ev_nt, notD_bl, ev_cmp, ev_chain, ev_and, ev_or, ev_ite, ev_tup, ev_lst, ev_idx, ev_slc, ev_rvs, rvs_L, rvs_T, ev_bi, ev_isi, lends, lent_false, ev_call, ev_nil, ev_cons, ev_none, ev_some, intD_int, evE_comp, cmpT_none, cmpT_some, compD_map, compA_nil, compA_cons, cmpC_some, cmpC_none, compA_int, goB_nx, goB_bk, goB_ct, goB_rt, goB_ex, goB_ite, xB_nil, xB_cons, getX_0, getX_s, bodyOf_for, bodyOf_while, loopB_eq, condOf_while, thenOf_ite, elseOf_ite, seg_eq, List.drop_succ_cons, List.drop_zero, List.take_succ_cons, List.take_zero, x_asg, ownD_lst, x_own, x_unp, x_aug, x_put, x_app, x_ext, x_pop, popM_app, popM_one, x_ite, x_for, forT_eq, forD_nil, forD_cons, x_ret, ret_false, ret_int, ret_bl, ret_non, ret_tup, x_retR, x_retN, x_brk, x_cnt, x_pas, x_frz, x_del, endD_rt, endD_nx, endD_ex, endD_ite, iterO_nx, iterO_ct, iterO_bk, iterO_rt, iniS_0, iniS_n, iniS_c, b_add, b_sub, b_mul, b_addT, b_addL, b_rep, b_div, b_mod, b_pow, b_shl, b_shr, b_band, b_bor, b_bxor, a_add, a_sub, c_lt, c_le, c_gt, c_ge, c_eqi, c_nei, c_eqb, c_neb, c_isn, c_nisn, c_isb, c_nisb, eqD_ii, eqD_tt, eqD_ll, eqDs_n, eqDs_c, pl_int, pl_non, pl_bl, pl_tup, pl_lst, all_ints, List.all_cons, List.all_nil, fmod_e, fdiv_e, isNon_non, isNon_int, isNon_tup, isNon_lst, x_idxT, x_idxL, idxO_some, at_0, at_1, at_2, at_3, at_4, at_5, at_6, at_7, i_lenT, i_lenL, i_min2, i_max2, i_max3, i_min3, i_abs, i_sumi, i_sori, i_sorTi, i_tupT, i_tupL, i_lstT, i_lstL, i_inti, i_intb, ty_ii, ty_ib, ty_bi, ty_bb, ty_tt, ty_ti, noIns_int, noIns_bl, noIns_tup, noIns_lst, noIns_non, noIns_str, seqOf_tup, seqOf_lst, it_seqT, it_seqL, Nat.reduceAdd, Nat.reduceSub, Nat.reduceMul, Nat.reduceEqDiff, Nat.reduceLeDiff, Int.reduceEq, Int.reduceNe, Int.reduceLT, Int.reduceLE, Int.reduceGT, Int.reduceGE, Int.reduceAdd, Int.reduceSub, Int.reduceMul, Int.reduceNeg, Int.reduceToNat, Int.reducePow, Int.reduceAbs, Int.cast_ofNat_Int, List.map_cons, List.map_nil, List.append_nil, List.nil_append, List.cons_append, List.length_cons, List.length_nil, List.length_map, decide_true, decide_false, decide_eq_true_eq, Bool.not_eq_true', decide_eq_false_iff_not, Bool.and_eq_true, Bool.or_eq_true, not_true_eq_false, not_false_eq_true, Bool.not_true, Bool.not_false, Bool.true_and, Bool.and_true, Bool.false_and, Bool.and_false, Bool.or_false, Bool.false_or, Bool.true_or, Bool.or_true, Bool.false_eq_true, if_true, if_false, ite_true, ite_false, reduceIte, ite_self, beq_self_eq_true, Bool.true_eq_false, hm, hd, hf, hr, compA_ok, fdiv_e, hsn, em]
    rw [List.map_map]; rfl
  rw [xB_seg0 b_law_swaths 5, A, goB_nx]
  clear A
  have key := for_rng (f := forT (callN P (n + 3)) true [8] (loopB b_law_swaths 5)) (g := fun k : Nat => D.int (k : Int)) (fun (k : Nat) (ρ : List Sl) => ∃ (row : List (List Sd)) (last : List Sd), ρ = [.sh (.lst (cells.map D.int)), .sh (.int s), .no, .sh (.int beat), .ow (row.map encF), .sh (.lst (last.map encS)), .sh (.int (4 * (s : Int))), .sh (.int (m : Int)), .no, .no, .no] ∧ row.length = k ∧ (∀ b ∈ row, Sw s b) ∧ Sw s last) m (ρ := [.sh (.lst (cells.map D.int)), .sh (.int s), .no, .sh (.int beat), .ow [], .sh (.lst (((List.range s).map fun _ => (0, 0, 0, 0)).map encS)), .sh (.int (4 * (s : Int))), .sh (.int (m : Int)), .no, .no, .no]) ⟨[], (List.range s).map fun _ => (0, 0, 0, 0), rfl, rfl, fun _ h => absurd h List.not_mem_nil, by simp, fun p hp => ?_⟩ ?_
  · obtain ⟨ρ', e, row, last, rfl, h1, h2, _⟩ := key
    refine ⟨row, ?_, by omega, by omega, h2⟩
    unfold b_law_swaths at e ⊢
    simp only [bind_ok, bind_no, bind_ex, bind_ite, gd_true, getS_0, getS_s, slV_sh, slB_ow, slO_ow, setS_0, setS_s, wipe_nil, wipe_cons, frS_ow, frS_sh, frS_no, tg_one, tg_tup, setVs_nil, setVs_cons, iteD_bl, and_bl, or_bl, and_blp, or_blp, nand_blp, nor_blp, ev_var, ev_bor, ev_con, ev_glb, ev_bin, ev_neg, negD_int, ev_nt, notD_bl, ev_cmp, ev_chain, ev_and, ev_or, ev_ite, ev_tup, ev_lst, ev_idx, ev_slc, ev_rvs, rvs_L, rvs_T, ev_bi, ev_isi, lends, lent_false, ev_call, ev_nil, ev_cons, ev_none, ev_some, intD_int, evE_comp, cmpT_none, cmpT_some, compD_map, compA_nil, compA_cons, cmpC_some, cmpC_none, compA_int, goB_nx, goB_bk, goB_ct, goB_rt, goB_ex, goB_ite, xB_nil, xB_cons, getX_0, getX_s, bodyOf_for, bodyOf_while, loopB_eq, condOf_while, thenOf_ite, elseOf_ite, seg_eq, List.drop_succ_cons, List.drop_zero, List.take_succ_cons, List.take_zero, x_asg, ownD_lst, x_own, x_unp, x_aug, x_put, x_app, x_ext, x_pop, popM_app, popM_one, x_ite, x_for, forT_eq, forD_nil, forD_cons, x_ret, ret_false, ret_int, ret_bl, ret_non, ret_tup, x_retR, x_retN, x_brk, x_cnt, x_pas, x_frz, x_del, endD_rt, endD_nx, endD_ex, endD_ite, iterO_nx, iterO_ct, iterO_bk, iterO_rt, iniS_0, iniS_n, iniS_c, b_add, b_sub, b_mul, b_addT, b_addL, b_rep, b_div, b_mod, b_pow, b_shl, b_shr, b_band, b_bor, b_bxor, a_add, a_sub, c_lt, c_le, c_gt, c_ge, c_eqi, c_nei, c_eqb, c_neb, c_isn, c_nisn, c_isb, c_nisb, eqD_ii, eqD_tt, eqD_ll, eqDs_n, eqDs_c, pl_int, pl_non, pl_bl, pl_tup, pl_lst, all_ints, List.all_cons, List.all_nil, fmod_e, fdiv_e, isNon_non, isNon_int, isNon_tup, isNon_lst, x_idxT, x_idxL, idxO_some, at_0, at_1, at_2, at_3, at_4, at_5, at_6, at_7, i_lenT, i_lenL, i_min2, i_max2, i_max3, i_min3, i_abs, i_sumi, i_sori, i_sorTi, i_tupT, i_tupL, i_lstT, i_lstL, i_inti, i_intb, ty_ii, ty_ib, ty_bi, ty_bb, ty_tt, ty_ti, noIns_int, noIns_bl, noIns_tup, noIns_lst, noIns_non, noIns_str, seqOf_tup, seqOf_lst, it_seqT, it_seqL, Nat.reduceAdd, Nat.reduceSub, Nat.reduceMul, Nat.reduceEqDiff, Nat.reduceLeDiff, Int.reduceEq, Int.reduceNe, Int.reduceLT, Int.reduceLE, Int.reduceGT, Int.reduceGE, Int.reduceAdd, Int.reduceSub, Int.reduceMul, Int.reduceNeg, Int.reduceToNat, Int.reducePow, Int.reduceAbs, Int.cast_ofNat_Int, List.map_cons, List.map_nil, List.append_nil, List.nil_append, List.cons_append, List.length_cons, List.length_nil, List.length_map, decide_true, decide_false, decide_eq_true_eq, Bool.not_eq_true', decide_eq_false_iff_not, Bool.and_eq_true, Bool.or_eq_true, not_true_eq_false, not_false_eq_true, Bool.not_true, Bool.not_false, Bool.true_and, Bool.and_true, Bool.false_and, Bool.and_false, Bool.or_false, Bool.false_or, Bool.true_or, Bool.or_true, Bool.false_eq_true, if_true, if_false, ite_true, ite_false, reduceIte, ite_self, beq_self_eq_true, Bool.true_eq_false] at e
    simp only [bind_ok, bind_no, bind_ex, bind_ite, gd_true, getS_0, getS_s, slV_sh, slB_ow, slO_ow, setS_0, setS_s, wipe_nil, wipe_cons, frS_ow, frS_sh, frS_no, tg_one, tg_tup, setVs_nil, setVs_cons, iteD_bl, and_bl, or_bl, and_blp, or_blp, nand_blp, nor_blp, ev_var, ev_bor, ev_con, ev_glb, ev_bin, ev_neg, negD_int, ev_nt, notD_bl, ev_cmp, ev_chain, ev_and, ev_or, ev_ite, ev_tup, ev_lst, ev_idx, ev_slc, ev_rvs, rvs_L, rvs_T, ev_bi, ev_isi, lends, lent_false, ev_call, ev_nil, ev_cons, ev_none, ev_some, intD_int, evE_comp, cmpT_none, cmpT_some, compD_map, compA_nil, compA_cons, cmpC_some, cmpC_none, compA_int, goB_nx, goB_bk, goB_ct, goB_rt, goB_ex, goB_ite, xB_nil, xB_cons, getX_0, getX_s, bodyOf_for, bodyOf_while, loopB_eq, condOf_while, thenOf_ite, elseOf_ite, seg_eq, List.drop_succ_cons, List.drop_zero, List.take_succ_cons, List.take_zero, x_asg, ownD_lst, x_own, x_unp, x_aug, x_put, x_app, x_ext, x_pop, popM_app, popM_one, x_ite, x_for, forT_eq, forD_nil, forD_cons, x_ret, ret_false, ret_int, ret_bl, ret_non, ret_tup, x_retR, x_retN, x_brk, x_cnt, x_pas, x_frz, x_del, endD_rt, endD_nx, endD_ex, endD_ite, iterO_nx, iterO_ct, iterO_bk, iterO_rt, iniS_0, iniS_n, iniS_c, b_add, b_sub, b_mul, b_addT, b_addL, b_rep, b_div, b_mod, b_pow, b_shl, b_shr, b_band, b_bor, b_bxor, a_add, a_sub, c_lt, c_le, c_gt, c_ge, c_eqi, c_nei, c_eqb, c_neb, c_isn, c_nisn, c_isb, c_nisb, eqD_ii, eqD_tt, eqD_ll, eqDs_n, eqDs_c, pl_int, pl_non, pl_bl, pl_tup, pl_lst, all_ints, List.all_cons, List.all_nil, fmod_e, fdiv_e, isNon_non, isNon_int, isNon_tup, isNon_lst, x_idxT, x_idxL, idxO_some, at_0, at_1, at_2, at_3, at_4, at_5, at_6, at_7, i_lenT, i_lenL, i_min2, i_max2, i_max3, i_min3, i_abs, i_sumi, i_sori, i_sorTi, i_tupT, i_tupL, i_lstT, i_lstL, i_inti, i_intb, ty_ii, ty_ib, ty_bi, ty_bb, ty_tt, ty_ti, noIns_int, noIns_bl, noIns_tup, noIns_lst, noIns_non, noIns_str, seqOf_tup, seqOf_lst, it_seqT, it_seqL, Nat.reduceAdd, Nat.reduceSub, Nat.reduceMul, Nat.reduceEqDiff, Nat.reduceLeDiff, Int.reduceEq, Int.reduceNe, Int.reduceLT, Int.reduceLE, Int.reduceGT, Int.reduceGE, Int.reduceAdd, Int.reduceSub, Int.reduceMul, Int.reduceNeg, Int.reduceToNat, Int.reducePow, Int.reduceAbs, Int.cast_ofNat_Int, List.map_cons, List.map_nil, List.append_nil, List.nil_append, List.cons_append, List.length_cons, List.length_nil, List.length_map, decide_true, decide_false, decide_eq_true_eq, Bool.not_eq_true', decide_eq_false_iff_not, Bool.and_eq_true, Bool.or_eq_true, not_true_eq_false, not_false_eq_true, Bool.not_true, Bool.not_false, Bool.true_and, Bool.and_true, Bool.false_and, Bool.and_false, Bool.or_false, Bool.false_or, Bool.true_or, Bool.or_true, Bool.false_eq_true, if_true, if_false, ite_true, ite_false, reduceIte, ite_self, beq_self_eq_true, Bool.true_eq_false, it_rng1n (show m < 2 ^ 62 by omega), e]
  · obtain ⟨_, _, rfl⟩ := List.mem_map.1 hp
    unfold GW; simp only; omega
  · intro k ρ hk h
    obtain ⟨row, last, rfl, h1, h2, h3⟩ := h
    exact swaths_turn n cells hc s hs beat hb m hm2 k hk row last (by omega) h1 h2 h3
def fat (f : List Sd) (t : Int) : List (Int × Int) := f.map fun p => (p.1 + p.2.2.1 * t, p.2.1 + p.2.2.2 * t)
theorem frame_at_ok (n : Nat) (f : List Sd) (t : Int) (h : f.length ≤ 1000) (ht : t.natAbs < 2 ^ 64) : callN P (n + 1) n_frame_at [encF f, .int t] = .ok (encB (fat f t)) := by
  rw [callN_eq P_frame_at _ (by simp)]
  unfold b_frame_at encF encB
  have hm : ∀ x : Int, mulOk x t = true := fun x => mul_ok2 ht
  simp only [bind_ok, bind_no, bind_ex, bind_ite, gd_true, getS_0, getS_s, slV_sh, slB_ow, slO_ow, setS_0, setS_s, wipe_nil, wipe_cons, frS_ow, frS_sh, frS_no, tg_one, tg_tup, setVs_nil, setVs_cons, iteD_bl, and_bl, or_bl, and_blp, or_blp, nand_blp, nor_blp, ev_var, ev_bor, ev_con, ev_glb, ev_bin, ev_neg, negD_int, ev_nt, notD_bl, ev_cmp, ev_chain, ev_and, ev_or, ev_ite, ev_tup, ev_lst, ev_idx, ev_slc, ev_rvs, rvs_L, rvs_T, ev_bi, ev_isi, lends, lent_false, ev_call, ev_nil, ev_cons, ev_none, ev_some, intD_int, evE_comp, cmpT_none, cmpT_some, compD_map, compA_nil, compA_cons, cmpC_some, cmpC_none, compA_int, goB_nx, goB_bk, goB_ct, goB_rt, goB_ex, goB_ite, xB_nil, xB_cons, getX_0, getX_s, bodyOf_for, bodyOf_while, loopB_eq, condOf_while, thenOf_ite, elseOf_ite, seg_eq, List.drop_succ_cons, List.drop_zero, List.take_succ_cons, List.take_zero, x_asg, ownD_lst, x_own, x_unp, x_aug, x_put, x_app, x_ext, x_pop, popM_app, popM_one, x_ite, x_for, forT_eq, forD_nil, forD_cons, x_ret, ret_false, ret_int, ret_bl, ret_non, ret_tup, x_retR, x_retN, x_brk, x_cnt, x_pas, x_frz, x_del, endD_rt, endD_nx, endD_ex, endD_ite, iterO_nx, iterO_ct, iterO_bk, iterO_rt, iniS_0, iniS_n, iniS_c, b_add, b_sub, b_mul, b_addT, b_addL, b_rep, b_div, b_mod, b_pow, b_shl, b_shr, b_band, b_bor, b_bxor, a_add, a_sub, c_lt, c_le, c_gt, c_ge, c_eqi, c_nei, c_eqb, c_neb, c_isn, c_nisn, c_isb, c_nisb, eqD_ii, eqD_tt, eqD_ll, eqDs_n, eqDs_c, pl_int, pl_non, pl_bl, pl_tup, pl_lst, all_ints, List.all_cons, List.all_nil, fmod_e, fdiv_e, isNon_non, isNon_int, isNon_tup, isNon_lst, x_idxT, x_idxL, idxO_some, at_0, at_1, at_2, at_3, at_4, at_5, at_6, at_7, i_lenT, i_lenL, i_min2, i_max2, i_max3, i_min3, i_abs, i_sumi, i_sori, i_sorTi, i_tupT, i_tupL, i_lstT, i_lstL, i_inti, i_intb, ty_ii, ty_ib, ty_bi, ty_bb, ty_tt, ty_ti, noIns_int, noIns_bl, noIns_tup, noIns_lst, noIns_non, noIns_str, seqOf_tup, seqOf_lst, it_seqT, it_seqL, Nat.reduceAdd, Nat.reduceSub, Nat.reduceMul, Nat.reduceEqDiff, Nat.reduceLeDiff, Int.reduceEq, Int.reduceNe, Int.reduceLT, Int.reduceLE, Int.reduceGT, Int.reduceGE, Int.reduceAdd, Int.reduceSub, Int.reduceMul, Int.reduceNeg, Int.reduceToNat, Int.reducePow, Int.reduceAbs, Int.cast_ofNat_Int, List.map_cons, List.map_nil, List.append_nil, List.nil_append, List.cons_append, List.length_cons, List.length_nil, List.length_map, decide_true, decide_false, decide_eq_true_eq, Bool.not_eq_true', decide_eq_false_iff_not, Bool.and_eq_true, Bool.or_eq_true, not_true_eq_false, not_false_eq_true, Bool.not_true, Bool.not_false, Bool.true_and, Bool.and_true, Bool.false_and, Bool.and_false, Bool.or_false, Bool.false_or, Bool.true_or, Bool.or_true, Bool.false_eq_true, if_true, if_false, ite_true, ite_false, reduceIte, ite_self, beq_self_eq_true, Bool.true_eq_false, fits_of (show f.length ≤ 1000000 by omega), encS, hm, compA_ok]
  unfold fat
  rw [List.map_map]; rfl
theorem eq_encS (a b : Sd) : eqD (encS a) (encS b) = decide (a = b) := by
  unfold encS
  rw [eqD_tt, eqDs_c, eqDs_c, eqDs_c, eqDs_c, eqDs_n, eqD_ii, eqD_ii, eqD_ii, eqD_ii, Bool.and_true]
  obtain ⟨a1, a2, a3, a4⟩ := a
  obtain ⟨b1, b2, b3, b4⟩ := b
  by_cases e : a1 = b1 <;> by_cases e2 : a2 = b2 <;> by_cases e3 : a3 = b3 <;> by_cases e4 : a4 = b4 <;> simp [e, e2, e3, e4]
theorem eq_encF (a b : List Sd) : eqD (encF a) (encF b) = decide (a = b) := by
  unfold encF
  rw [eqD_tt, eqDs_map encS eq_encS]
theorem plain_encF (b : List Sd) (n : Nat) : plainD (n + 2) (encF b) = true := by
  unfold encF
  rw [pl_tup, List.all_map, List.all_eq_true]
  intro p _
  show plainD (n + 1) (encS p) = true
  unfold encS
  rw [pl_tup]
  simp only [List.all_cons, List.all_nil, pl_int]; rfl
theorem c_eqF (a b : List Sd) : cmpD .eq (encF a) (encF b) = .ok (.bl (decide (a = b))) := by rw [c_eq, plain_encF a 58, plain_encF b 58, eq_encF]; rfl
theorem c_neF (a b : List Sd) : cmpD .ne (encF a) (encF b) = .ok (.bl (!decide (a = b))) := by rw [c_ne, plain_encF a 58, plain_encF b 58, eq_encF]; rfl
end Dw

namespace Dw
open PySem
def jn (p q : Sd) : Sd := (min p.1 q.1, max p.2.1 q.2.1, min p.2.2.1 q.2.2.1, max p.2.2.2 q.2.2.2)
def nw (p q : Sd) : Sd := (max p.1 q.1, min p.2.1 q.2.1, max p.2.2.1 q.2.2.1, min p.2.2.2 q.2.2.2)
def joined (a b : List Sd) : List Sd := (a.zip b).map fun p => jn p.1 p.2
def narrowed (a b : List Sd) : List Sd := (a.zip b).map fun p => nw p.1 p.2
theorem joined_cons (p q : Sd) (a b : List Sd) : joined (p :: a) (q :: b) = jn p q :: joined a b := rfl
theorem narrowed_cons (p q : Sd) (a b : List Sd) : narrowed (p :: a) (q :: b) = nw p q :: narrowed a b := rfl
theorem joined_nil (b : List Sd) : joined [] b = [] := rfl
theorem narrowed_nil (b : List Sd) : narrowed [] b = [] := rfl
theorem joined_len {a b : List Sd} (h : a.length = b.length) : (joined a b).length = a.length := by
  unfold joined; rw [List.length_map, List.length_zip, h]; omega
theorem narrowed_len {a b : List Sd} (h : a.length = b.length) : (narrowed a b).length = a.length := by
  unfold narrowed; rw [List.length_map, List.length_zip, h]; omega
theorem jn_comm (p q : Sd) : jn p q = jn q p := by
  unfold jn; rw [Int.min_comm p.1, Int.max_comm p.2.1, Int.min_comm p.2.2.1, Int.max_comm p.2.2.2]
theorem nw_comm (p q : Sd) : nw p q = nw q p := by
  unfold nw; rw [Int.max_comm p.1, Int.min_comm p.2.1, Int.max_comm p.2.2.1, Int.min_comm p.2.2.2]
theorem joined_comm : ∀ a b : List Sd, joined a b = joined b a
  | [], b => by unfold joined; simp
  | p :: a, [] => by unfold joined; simp
  | p :: a, q :: b => by rw [joined_cons, joined_cons, jn_comm, joined_comm a b]
theorem narrowed_comm : ∀ a b : List Sd, narrowed a b = narrowed b a
  | [], b => by unfold narrowed; simp
  | p :: a, [] => by unfold narrowed; simp
  | p :: a, q :: b => by rw [narrowed_cons, narrowed_cons, nw_comm, narrowed_comm a b]
theorem frames_joined_ok (n : Nat) (a b : List Sd) (h : a.length ≤ 1000) : callN P (n + 1) n_frames_joined [encF a, encF b] = .ok (encF (joined a b)) := by
  rw [callN_eq P_frames_joined _ (by simp)]
  unfold b_frames_joined encF
  have hz : (a.zip b).length ≤ 1000000 := by rw [List.length_zip]; omega
  simp only [bind_ok, bind_no, bind_ex, bind_ite, gd_true, getS_0, getS_s, slV_sh, slB_ow, slO_ow, setS_0, setS_s, wipe_nil, wipe_cons, frS_ow, frS_sh, frS_no, tg_one, tg_tup, setVs_nil, setVs_cons, iteD_bl, and_bl, or_bl, and_blp, or_blp, nand_blp, nor_blp, ev_var, ev_bor, ev_con, ev_glb, ev_bin, ev_neg, negD_int, ev_nt, notD_bl, ev_cmp, ev_chain, ev_and, ev_or, ev_ite, ev_tup, ev_lst, ev_idx, ev_slc, ev_rvs, rvs_L, rvs_T, ev_bi, ev_isi, lends, lent_false, ev_call, ev_nil, ev_cons, ev_none, ev_some, intD_int, evE_comp, cmpT_none, cmpT_some, compD_map, compA_nil, compA_cons, cmpC_some, cmpC_none, compA_int, goB_nx, goB_bk, goB_ct, goB_rt, goB_ex, goB_ite, xB_nil, xB_cons, getX_0, getX_s, bodyOf_for, bodyOf_while, loopB_eq, condOf_while, thenOf_ite, elseOf_ite, seg_eq, List.drop_succ_cons, List.drop_zero, List.take_succ_cons, List.take_zero, x_asg, ownD_lst, x_own, x_unp, x_aug, x_put, x_app, x_ext, x_pop, popM_app, popM_one, x_ite, x_for, forT_eq, forD_nil, forD_cons, x_ret, ret_false, ret_int, ret_bl, ret_non, ret_tup, x_retR, x_retN, x_brk, x_cnt, x_pas, x_frz, x_del, endD_rt, endD_nx, endD_ex, endD_ite, iterO_nx, iterO_ct, iterO_bk, iterO_rt, iniS_0, iniS_n, iniS_c, b_add, b_sub, b_mul, b_addT, b_addL, b_rep, b_div, b_mod, b_pow, b_shl, b_shr, b_band, b_bor, b_bxor, a_add, a_sub, c_lt, c_le, c_gt, c_ge, c_eqi, c_nei, c_eqb, c_neb, c_isn, c_nisn, c_isb, c_nisb, eqD_ii, eqD_tt, eqD_ll, eqDs_n, eqDs_c, pl_int, pl_non, pl_bl, pl_tup, pl_lst, all_ints, List.all_cons, List.all_nil, fmod_e, fdiv_e, isNon_non, isNon_int, isNon_tup, isNon_lst, x_idxT, x_idxL, idxO_some, at_0, at_1, at_2, at_3, at_4, at_5, at_6, at_7, i_lenT, i_lenL, i_min2, i_max2, i_max3, i_min3, i_abs, i_sumi, i_sori, i_sorTi, i_tupT, i_tupL, i_lstT, i_lstL, i_inti, i_intb, ty_ii, ty_ib, ty_bi, ty_bb, ty_tt, ty_ti, noIns_int, noIns_bl, noIns_tup, noIns_lst, noIns_non, noIns_str, seqOf_tup, seqOf_lst, it_seqT, it_seqL, Nat.reduceAdd, Nat.reduceSub, Nat.reduceMul, Nat.reduceEqDiff, Nat.reduceLeDiff, Int.reduceEq, Int.reduceNe, Int.reduceLT, Int.reduceLE, Int.reduceGT, Int.reduceGE, Int.reduceAdd, Int.reduceSub, Int.reduceMul, Int.reduceNeg, Int.reduceToNat, Int.reducePow, Int.reduceAbs, Int.cast_ofNat_Int, List.map_cons, List.map_nil, List.append_nil, List.nil_append, List.cons_append, List.length_cons, List.length_nil, List.length_map, decide_true, decide_false, decide_eq_true_eq, Bool.not_eq_true', decide_eq_false_iff_not, Bool.and_eq_true, Bool.or_eq_true, not_true_eq_false, not_false_eq_true, Bool.not_true, Bool.not_false, Bool.true_and, Bool.and_true, Bool.false_and, Bool.and_false, Bool.or_false, Bool.false_or, Bool.true_or, Bool.or_true, Bool.false_eq_true, if_true, if_false, ite_true, ite_false, reduceIte, ite_self, beq_self_eq_true, Bool.true_eq_false, it_zipT, fits_of hz, encS, compA_ok]
  unfold joined
  rw [List.map_map]; rfl
theorem frames_narrowed_ok (n : Nat) (a b : List Sd) (h : a.length ≤ 1000) : callN P (n + 1) n_frames_narrowed [encF a, encF b] = .ok (encF (narrowed a b)) := by
  rw [callN_eq P_frames_narrowed _ (by simp)]
  unfold b_frames_narrowed encF
  have hz : (a.zip b).length ≤ 1000000 := by rw [List.length_zip]; omega
  simp only [bind_ok, bind_no, bind_ex, bind_ite, gd_true, getS_0, getS_s, slV_sh, slB_ow, slO_ow, setS_0, setS_s, wipe_nil, wipe_cons, frS_ow, frS_sh, frS_no, tg_one, tg_tup, setVs_nil, setVs_cons, iteD_bl, and_bl, or_bl, and_blp, or_blp, nand_blp, nor_blp, ev_var, ev_bor, ev_con, ev_glb, ev_bin, ev_neg, negD_int, ev_nt, notD_bl, ev_cmp, ev_chain, ev_and, ev_or, ev_ite, ev_tup, ev_lst, ev_idx, ev_slc, ev_rvs, rvs_L, rvs_T, ev_bi, ev_isi, lends, lent_false, ev_call, ev_nil, ev_cons, ev_none, ev_some, intD_int, evE_comp, cmpT_none, cmpT_some, compD_map, compA_nil, compA_cons, cmpC_some, cmpC_none, compA_int, goB_nx, goB_bk, goB_ct, goB_rt, goB_ex, goB_ite, xB_nil, xB_cons, getX_0, getX_s, bodyOf_for, bodyOf_while, loopB_eq, condOf_while, thenOf_ite, elseOf_ite, seg_eq, List.drop_succ_cons, List.drop_zero, List.take_succ_cons, List.take_zero, x_asg, ownD_lst, x_own, x_unp, x_aug, x_put, x_app, x_ext, x_pop, popM_app, popM_one, x_ite, x_for, forT_eq, forD_nil, forD_cons, x_ret, ret_false, ret_int, ret_bl, ret_non, ret_tup, x_retR, x_retN, x_brk, x_cnt, x_pas, x_frz, x_del, endD_rt, endD_nx, endD_ex, endD_ite, iterO_nx, iterO_ct, iterO_bk, iterO_rt, iniS_0, iniS_n, iniS_c, b_add, b_sub, b_mul, b_addT, b_addL, b_rep, b_div, b_mod, b_pow, b_shl, b_shr, b_band, b_bor, b_bxor, a_add, a_sub, c_lt, c_le, c_gt, c_ge, c_eqi, c_nei, c_eqb, c_neb, c_isn, c_nisn, c_isb, c_nisb, eqD_ii, eqD_tt, eqD_ll, eqDs_n, eqDs_c, pl_int, pl_non, pl_bl, pl_tup, pl_lst, all_ints, List.all_cons, List.all_nil, fmod_e, fdiv_e, isNon_non, isNon_int, isNon_tup, isNon_lst, x_idxT, x_idxL, idxO_some, at_0, at_1, at_2, at_3, at_4, at_5, at_6, at_7, i_lenT, i_lenL, i_min2, i_max2, i_max3, i_min3, i_abs, i_sumi, i_sori, i_sorTi, i_tupT, i_tupL, i_lstT, i_lstL, i_inti, i_intb, ty_ii, ty_ib, ty_bi, ty_bb, ty_tt, ty_ti, noIns_int, noIns_bl, noIns_tup, noIns_lst, noIns_non, noIns_str, seqOf_tup, seqOf_lst, it_seqT, it_seqL, Nat.reduceAdd, Nat.reduceSub, Nat.reduceMul, Nat.reduceEqDiff, Nat.reduceLeDiff, Int.reduceEq, Int.reduceNe, Int.reduceLT, Int.reduceLE, Int.reduceGT, Int.reduceGE, Int.reduceAdd, Int.reduceSub, Int.reduceMul, Int.reduceNeg, Int.reduceToNat, Int.reducePow, Int.reduceAbs, Int.cast_ofNat_Int, List.map_cons, List.map_nil, List.append_nil, List.nil_append, List.cons_append, List.length_cons, List.length_nil, List.length_map, decide_true, decide_false, decide_eq_true_eq, Bool.not_eq_true', decide_eq_false_iff_not, Bool.and_eq_true, Bool.or_eq_true, not_true_eq_false, not_false_eq_true, Bool.not_true, Bool.not_false, Bool.true_and, Bool.and_true, Bool.false_and, Bool.and_false, Bool.or_false, Bool.false_or, Bool.true_or, Bool.or_true, Bool.false_eq_true, if_true, if_false, ite_true, ite_false, reduceIte, ite_self, beq_self_eq_true, Bool.true_eq_false, it_zipT, fits_of hz, encS, compA_ok]
  unfold narrowed
  rw [List.map_map]; rfl
/-- the first one is held by the second one -/
def hd (p q : Sd) : Bool := decide (q.1 ≤ p.1) && decide (p.2.1 ≤ q.2.1) && decide (q.2.2.1 ≤ p.2.2.1) && decide (p.2.2.2 ≤ q.2.2.2)
def held (a b : List Sd) : Bool := !(a.zip b).any fun p => !hd p.1 p.2
theorem held_cons (p q : Sd) (a b : List Sd) : held (p :: a) (q :: b) = (hd p q && held a b) := by
  unfold held
  rw [List.zip_cons_cons, List.any_cons]
  simp
theorem held_nil (b : List Sd) : held [] b = true := by unfold held; simp
theorem hd_iff (p q : Sd) : hd p q = true ↔ q.1 ≤ p.1 ∧ p.2.1 ≤ q.2.1 ∧ q.2.2.1 ≤ p.2.2.1 ∧ p.2.2.2 ≤ q.2.2.2 := by
  unfold hd; simp [and_assoc]
theorem held_refl : ∀ a : List Sd, held a a = true
  | [] => held_nil _
  | p :: a => by rw [held_cons, held_refl a, (hd_iff p p).2 (by omega)]; rfl
theorem held_trans : ∀ {a b c : List Sd}, held a b = true → held b c = true → a.length = b.length → held a c = true
  | [], b, c, _, _, _ => held_nil _
  | p :: a, [], c, _, _, h => by cases h
  | p :: a, q :: b, [], _, _, _ => by unfold held; simp
  | p :: a, q :: b, r :: c, h1, h2, h => by
    rw [held_cons, Bool.and_eq_true, hd_iff] at h1 h2
    rw [held_cons, Bool.and_eq_true, hd_iff]
    exact ⟨by omega, held_trans h1.2 h2.2 (by simpa using h)⟩
theorem held_joined : ∀ {a b : List Sd}, a.length = b.length → held a (joined a b) = true
  | [], b, _ => held_nil _
  | p :: a, [], h => by cases h
  | p :: a, q :: b, h => by
    rw [joined_cons, held_cons, held_joined (by simpa using h), (hd_iff p _).2 (by unfold jn; simp only; omega)]; rfl
theorem held_joined' {a b : List Sd} (h : a.length = b.length) : held b (joined a b) = true := by
  rw [joined_comm]; exact held_joined h.symm
theorem narrowed_held : ∀ {a b : List Sd}, a.length = b.length → held (narrowed a b) a = true
  | [], b, _ => held_nil _
  | p :: a, [], h => by cases h
  | p :: a, q :: b, h => by
    rw [narrowed_cons, held_cons, narrowed_held (by simpa using h), (hd_iff _ p).2 (by unfold nw; simp only; omega)]; rfl
theorem narrowed_held' {a b : List Sd} (h : a.length = b.length) : held (narrowed a b) b = true := by
  rw [narrowed_comm]; exact narrowed_held h.symm
/-- a held swath's sides at a beat lie inside -/
theorem fat_inside {t : Int} (ht : 0 ≤ t) : ∀ {a b : List Sd}, held a b = true → a.length = b.length → inside (fat a t) (fat b t) = true
  | [], b, _, _ => inside_nil _
  | p :: a, [], _, h => by cases h
  | p :: a, q :: b, h1, h => by
    rw [held_cons, Bool.and_eq_true, hd_iff] at h1
    have e : ∀ (p : Sd) (a : List Sd), fat (p :: a) t = (p.1 + p.2.2.1 * t, p.2.1 + p.2.2.2 * t) :: fat a t := fun _ _ => rfl
    rw [e, e, inside_cons, fat_inside ht h1.2 (by simpa using h), Bool.and_true, Bool.and_eq_true, decide_eq_true_eq, decide_eq_true_eq]
    have m1 := Int.mul_le_mul_of_nonneg_right h1.1.2.2.1 ht
    have m2 := Int.mul_le_mul_of_nonneg_right h1.1.2.2.2 ht
    simp only
    omega
theorem fat_len (a : List Sd) (t : Int) : (fat a t).length = a.length := by unfold fat; rw [List.length_map]
end Dw

namespace Dw
open PySem
theorem bnot_bnot (x : Int) : Builtin.bitNot (Builtin.bitNot x) = x := by unfold Builtin.bitNot; omega
theorem band_nat (a b : Nat) : Builtin.bitAnd (a : Int) (b : Int) = ((a &&& b : Nat) : Int) := by
  unfold Builtin.bitAnd
  rw [decide_eq_true (show (0 : Int) ≤ (a : Int) by omega), decide_eq_true (show (0 : Int) ≤ (b : Int) by omega)]
  rfl
theorem bor_nat (a b : Nat) : Builtin.bitOr (a : Int) (b : Int) = ((a ||| b : Nat) : Int) := by
  unfold Builtin.bitOr
  have h : Builtin.bitAnd (Builtin.bitNot (a : Int)) (Builtin.bitNot (b : Int)) = Builtin.bitNot ((a ||| b : Nat) : Int) := by
    unfold Builtin.bitAnd
    rw [decide_eq_false (show ¬ (0 : Int) ≤ Builtin.bitNot (a : Int) by unfold Builtin.bitNot; omega), decide_eq_false (show ¬ (0 : Int) ≤ Builtin.bitNot (b : Int) by unfold Builtin.bitNot; omega)]
    show Builtin.bitNot _ = _
    rw [bnot_bnot, bnot_bnot]; rfl
  rw [h, bnot_bnot]
theorem bxor_nat (a b : Nat) : Builtin.bitXor (a : Int) (b : Int) = ((a ^^^ b : Nat) : Int) := by
  unfold Builtin.bitXor
  rw [band_nat, bor_nat]
  have key : ∀ n a b : Nat, a < 2 ^ n → (a ||| b) = (a ^^^ b) + (a &&& b) := by
    intro n
    induction n with
    | zero => intro a b h; have : a = 0 := by simpa using h
              subst this; simp
    | succ n ih =>
      intro a b h
      have i := ih (a / 2) (b / 2) (by rw [Nat.pow_succ] at h; omega)
      have e1 := Nat.div_add_mod (a ||| b) 2
      have e2 := Nat.div_add_mod (a ^^^ b) 2
      have e3 := Nat.div_add_mod (a &&& b) 2
      rw [Nat.or_div_two] at e1
      rw [Nat.xor_div_two] at e2
      rw [Nat.and_div_two] at e3
      have m1 : (a ||| b) % 2 = (a ^^^ b) % 2 + (a &&& b) % 2 := by
        rw [Nat.or_mod_two_pow (n := 1), Nat.xor_mod_two_pow (n := 1), Nat.and_mod_two_pow (n := 1)]
        have ha : a % 2 = 0 ∨ a % 2 = 1 := by omega
        have hb : b % 2 = 0 ∨ b % 2 = 1 := by omega
        simp only [Nat.pow_one]
        rcases ha with ha | ha <;> rcases hb with hb | hb <;> rw [ha, hb] <;> decide
      omega
  have k := key (a + 1) a b (Nat.lt_of_lt_of_le (Nat.lt_two_pow_self) (Nat.pow_le_pow_right (by decide) (by omega)))
  omega
theorem or_low {p x N : Nat} (h : N < 2 ^ p) : N ||| x * 2 ^ p = N + x * 2 ^ p := by
  have := Nat.two_pow_add_eq_or_of_lt h x
  rw [Nat.or_comm, Nat.mul_comm, ← this, Nat.add_comm]
/-- a bit below one that is there -/
theorem or_two {p N b c : Nat} (h : N < 2 ^ p) (hb : b < 2) : (N + (2 * c) * 2 ^ p) ||| b * 2 ^ p = N + (2 * c + b) * 2 ^ p := by
  rw [← or_low h, Nat.or_assoc, ← or_low h]
  congr 1
  rw [← Nat.shiftLeft_eq, ← Nat.shiftLeft_eq, ← Nat.shiftLeft_eq, ← Nat.shiftLeft_or_distrib]
  congr 1
  have : 2 * c ||| b = 2 ^ 1 * c + b := by
    rw [Nat.two_pow_add_eq_or_of_lt (by simpa using hb)]
  simpa using this
/-- one more bit below two that are there -/
theorem or_three {p N b c : Nat} (h : N < 2 ^ p) (hb : b < 2) : (N + (2 * c) * 2 ^ p) ||| b * 2 ^ p = N + (2 * c + b) * 2 ^ p := or_two h hb
theorem shr1 (x k : Nat) : ((x : Int) / 2 ^ k) % 2 = ((x / 2 ^ k % 2 : Nat) : Int) := by
  have : ((2 : Int) ^ k) = ((2 ^ k : Nat) : Int) := by norm_cast
  rw [this]; norm_cast
theorem shr1n (x k : Nat) : (x : Int) / 2 ^ k = ((x / 2 ^ k : Nat) : Int) := by
  have : ((2 : Int) ^ k) = ((2 ^ k : Nat) : Int) := by norm_cast
  rw [this]; norm_cast
theorem shln (x k : Nat) : (x : Int) * 2 ^ k = ((x * 2 ^ k : Nat) : Int) := by
  have : ((2 : Int) ^ k) = ((2 ^ k : Nat) : Int) := by norm_cast
  rw [this]; norm_cast
/-! ### two sides woven -/
def W2 : Nat → Nat → Nat → Nat
  | 0, _, _ => 0
  | b + 1, x, y => y % 2 + 2 * (x % 2) + 4 * W2 b (x / 2) (y / 2)
def W3 : Nat → Nat → Nat → Nat → Nat
  | 0, _, _, _ => 0
  | b + 1, x, y, z => z % 2 + 2 * (y % 2) + 4 * (x % 2) + 8 * W3 b (x / 2) (y / 2) (z / 2)
theorem W2_lt : ∀ (b x y : Nat), W2 b x y < 2 ^ (2 * b)
  | 0, _, _ => by simp [W2]
  | b + 1, x, y => by
    have := W2_lt b (x / 2) (y / 2)
    rw [W2, show 2 * (b + 1) = 2 * b + 2 by omega, Nat.pow_add]
    omega
theorem W3_lt : ∀ (b x y z : Nat), W3 b x y z < 2 ^ (3 * b)
  | 0, _, _, _ => by simp [W3]
  | b + 1, x, y, z => by
    have := W3_lt b (x / 2) (y / 2) (z / 2)
    rw [W3, show 3 * (b + 1) = 3 * b + 3 by omega, Nat.pow_add]
    omega
theorem W2_succ : ∀ (b x y : Nat), W2 (b + 1) x y = W2 b x y + (2 * (x / 2 ^ b % 2) + y / 2 ^ b % 2) * 2 ^ (2 * b)
  | 0, x, y => by simp [W2]; omega
  | b + 1, x, y => by
    have e : (2 : Nat) ^ (2 * (b + 1)) = 4 * 2 ^ (2 * b) := by rw [show 2 * (b + 1) = 2 + 2 * b by omega, Nat.pow_add]
    rw [W2, W2_succ b (x / 2) (y / 2), W2, e, Nat.div_div_eq_div_mul, Nat.div_div_eq_div_mul, ← Nat.pow_add_one']
    have : ∀ a c : Nat, 4 * (a + c * 2 ^ (2 * b)) = 4 * a + c * (4 * 2 ^ (2 * b)) := fun a c => by
      rw [Nat.mul_add, Nat.mul_left_comm]
    rw [this]; omega
theorem W3_succ : ∀ (b x y z : Nat), W3 (b + 1) x y z = W3 b x y z + (2 * (2 * (x / 2 ^ b % 2) + y / 2 ^ b % 2) + z / 2 ^ b % 2) * 2 ^ (3 * b)
  | 0, x, y, z => by simp [W3]; omega
  | b + 1, x, y, z => by
    have e : (2 : Nat) ^ (3 * (b + 1)) = 8 * 2 ^ (3 * b) := by rw [show 3 * (b + 1) = 3 + 3 * b by omega, Nat.pow_add]
    rw [W3, W3_succ b (x / 2) (y / 2) (z / 2), W3, e, Nat.div_div_eq_div_mul, Nat.div_div_eq_div_mul, Nat.div_div_eq_div_mul, ← Nat.pow_add_one']
    have : ∀ a c : Nat, 8 * (a + c * 2 ^ (3 * b)) = 8 * a + c * (8 * 2 ^ (3 * b)) := fun a c => by
      rw [Nat.mul_add, Nat.mul_left_comm]
    rw [this]; omega
end Dw

namespace Dw
open PySem
theorem shl_ok {i j : Int} (h0 : 0 ≤ j) (h1 : j ≤ 1000000) (h2 : i.natAbs < 2 ^ 1000) : shlOk i j = true := by
  unfold shlOk mulB
  rw [decide_eq_true h0, decide_eq_true h1, decide_eq_true (Nat.lt_of_lt_of_le h2 (by decide))]; rfl
theorem bit1 (x k : Nat) : Builtin.bitAnd ((x : Int) / 2 ^ k) 1 = ((x / 2 ^ k % 2 : Nat) : Int) := by
  rw [shr1n, show (1 : Int) = ((1 : Nat) : Int) from rfl, band_nat, Nat.and_one_is_mod]
/-- the turn of a level, two sides -/
theorem lev2 (N x y k : Nat) (h : N < 2 ^ (2 * k)) : Builtin.bitOr (Builtin.bitOr (N : Int) (((x / 2 ^ k % 2 : Nat) : Int) * 2 ^ (2 * k + 1))) (((y / 2 ^ k % 2 : Nat) : Int) * 2 ^ (2 * k)) = ((N + (2 * (x / 2 ^ k % 2) + y / 2 ^ k % 2) * 2 ^ (2 * k) : Nat) : Int) := by
  rw [shln, shln, bor_nat, bor_nat]
  congr 1
  have e : x / 2 ^ k % 2 * 2 ^ (2 * k + 1) = (2 * (x / 2 ^ k % 2)) * 2 ^ (2 * k) := by rw [Nat.pow_succ, Nat.mul_comm 2 (x / 2 ^ k % 2), Nat.mul_assoc, Nat.mul_comm 2 (2 ^ (2 * k))]
  rw [e, or_low h, or_two h (Nat.mod_lt _ (by decide))]
theorem lev3 (N x y z k : Nat) (h : N < 2 ^ (3 * k)) : Builtin.bitOr (Builtin.bitOr (Builtin.bitOr (N : Int) (((x / 2 ^ k % 2 : Nat) : Int) * 2 ^ (3 * k + 2))) (((y / 2 ^ k % 2 : Nat) : Int) * 2 ^ (3 * k + 1))) (((z / 2 ^ k % 2 : Nat) : Int) * 2 ^ (3 * k)) = ((N + (2 * (2 * (x / 2 ^ k % 2) + y / 2 ^ k % 2) + z / 2 ^ k % 2) * 2 ^ (3 * k) : Nat) : Int) := by
  rw [shln, shln, shln, bor_nat, bor_nat, bor_nat]
  congr 1
  generalize x / 2 ^ k % 2 = a
  have hb : y / 2 ^ k % 2 < 2 := Nat.mod_lt _ (by decide)
  have hc : z / 2 ^ k % 2 < 2 := Nat.mod_lt _ (by decide)
  generalize y / 2 ^ k % 2 = b at *
  generalize z / 2 ^ k % 2 = c at *
  have h1 : N < 2 ^ (3 * k + 1) := Nat.lt_of_lt_of_le h (Nat.pow_le_pow_right (by decide) (by omega))
  have e : a * 2 ^ (3 * k + 2) = (2 * a) * 2 ^ (3 * k + 1) := by rw [Nat.pow_succ 2 (3 * k + 1), Nat.mul_comm 2 a, Nat.mul_assoc, Nat.mul_comm 2 (2 ^ (3 * k + 1))]
  have e2 : ∀ d : Nat, d * 2 ^ (3 * k + 1) = (2 * d) * 2 ^ (3 * k) := fun d => by rw [Nat.pow_succ, Nat.mul_comm 2 d, Nat.mul_assoc, Nat.mul_comm 2 (2 ^ (3 * k))]
  rw [e, or_low h1, or_two h1 hb, e2, or_two h hc]
theorem woven2 (n : Nat) (x y b : Nat) (hb : b ≤ 400) : callN P (n + 1) n_woven [.tup [.int x, .int y], .int b] = .ok (.int (W2 b x y : Nat)) := by
  rw [callN_eq P_woven _ (by simp)]
  have key := for_rng (f := forT (callN P n) false [4] (loopB b_woven 2)) (g := fun k : Nat => D.int (k : Int)) (fun k ρ => ρ = [.sh (.tup [.int x, .int y]), .sh (.int b), .sh (.int 2), .sh (.int (W2 k x y : Nat)), .no, .no, .no]) b (ρ := [.sh (.tup [.int x, .int y]), .sh (.int b), .sh (.int 2), .sh (.int 0), .no, .no, .no]) rfl ?_
  · obtain ⟨ρ', e, rfl⟩ := key
    unfold b_woven at e ⊢
    simp only [bind_ok, bind_no, bind_ex, bind_ite, gd_true, getS_0, getS_s, slV_sh, slB_ow, slO_ow, setS_0, setS_s, wipe_nil, wipe_cons, frS_ow, frS_sh, frS_no, tg_one, tg_tup, setVs_nil, setVs_cons, iteD_bl, and_bl, or_bl, and_blp, or_blp, nand_blp, nor_blp, ev_var, ev_bor, ev_con, ev_glb, ev_bin, ev_neg, negD_int, ev_nt, notD_bl, ev_cmp, ev_chain, ev_and, ev_or, ev_ite, ev_tup, ev_lst, ev_idx, ev_slc, ev_rvs, rvs_L, rvs_T, ev_bi, ev_isi, lends, lent_false, ev_call, ev_nil, ev_cons, ev_none, ev_some, intD_int, evE_comp, cmpT_none, cmpT_some, compD_map, compA_nil, compA_cons, cmpC_some, cmpC_none, compA_int, goB_nx, goB_bk, goB_ct, goB_rt, goB_ex, goB_ite, xB_nil, xB_cons, getX_0, getX_s, bodyOf_for, bodyOf_while, loopB_eq, condOf_while, thenOf_ite, elseOf_ite, seg_eq, List.drop_succ_cons, List.drop_zero, List.take_succ_cons, List.take_zero, x_asg, ownD_lst, x_own, x_unp, x_aug, x_put, x_app, x_ext, x_pop, popM_app, popM_one, x_ite, x_for, forT_eq, forD_nil, forD_cons, x_ret, ret_false, ret_int, ret_bl, ret_non, ret_tup, x_retR, x_retN, x_brk, x_cnt, x_pas, x_frz, x_del, endD_rt, endD_nx, endD_ex, endD_ite, iterO_nx, iterO_ct, iterO_bk, iterO_rt, iniS_0, iniS_n, iniS_c, b_add, b_sub, b_mul, b_addT, b_addL, b_rep, b_div, b_mod, b_pow, b_shl, b_shr, b_band, b_bor, b_bxor, a_add, a_sub, c_lt, c_le, c_gt, c_ge, c_eqi, c_nei, c_eqb, c_neb, c_isn, c_nisn, c_isb, c_nisb, eqD_ii, eqD_tt, eqD_ll, eqDs_n, eqDs_c, pl_int, pl_non, pl_bl, pl_tup, pl_lst, all_ints, List.all_cons, List.all_nil, fmod_e, fdiv_e, isNon_non, isNon_int, isNon_tup, isNon_lst, x_idxT, x_idxL, idxO_some, at_0, at_1, at_2, at_3, at_4, at_5, at_6, at_7, i_lenT, i_lenL, i_min2, i_max2, i_max3, i_min3, i_abs, i_sumi, i_sori, i_sorTi, i_tupT, i_tupL, i_lstT, i_lstL, i_inti, i_intb, ty_ii, ty_ib, ty_bi, ty_bb, ty_tt, ty_ti, noIns_int, noIns_bl, noIns_tup, noIns_lst, noIns_non, noIns_str, seqOf_tup, seqOf_lst, it_seqT, it_seqL, Nat.reduceAdd, Nat.reduceSub, Nat.reduceMul, Nat.reduceEqDiff, Nat.reduceLeDiff, Int.reduceEq, Int.reduceNe, Int.reduceLT, Int.reduceLE, Int.reduceGT, Int.reduceGE, Int.reduceAdd, Int.reduceSub, Int.reduceMul, Int.reduceNeg, Int.reduceToNat, Int.reducePow, Int.reduceAbs, Int.cast_ofNat_Int, List.map_cons, List.map_nil, List.append_nil, List.nil_append, List.cons_append, List.length_cons, List.length_nil, List.length_map, decide_true, decide_false, decide_eq_true_eq, Bool.not_eq_true', decide_eq_false_iff_not, Bool.and_eq_true, Bool.or_eq_true, not_true_eq_false, not_false_eq_true, Bool.not_true, Bool.not_false, Bool.true_and, Bool.and_true, Bool.false_and, Bool.and_false, Bool.or_false, Bool.false_or, Bool.true_or, Bool.or_true, Bool.false_eq_true, if_true, if_false, ite_true, ite_false, reduceIte, ite_self, beq_self_eq_true, Bool.true_eq_false] at e
    simp only [bind_ok, bind_no, bind_ex, bind_ite, gd_true, getS_0, getS_s, slV_sh, slB_ow, slO_ow, setS_0, setS_s, wipe_nil, wipe_cons, frS_ow, frS_sh, frS_no, tg_one, tg_tup, setVs_nil, setVs_cons, iteD_bl, and_bl, or_bl, and_blp, or_blp, nand_blp, nor_blp, ev_var, ev_bor, ev_con, ev_glb, ev_bin, ev_neg, negD_int, ev_nt, notD_bl, ev_cmp, ev_chain, ev_and, ev_or, ev_ite, ev_tup, ev_lst, ev_idx, ev_slc, ev_rvs, rvs_L, rvs_T, ev_bi, ev_isi, lends, lent_false, ev_call, ev_nil, ev_cons, ev_none, ev_some, intD_int, evE_comp, cmpT_none, cmpT_some, compD_map, compA_nil, compA_cons, cmpC_some, cmpC_none, compA_int, goB_nx, goB_bk, goB_ct, goB_rt, goB_ex, goB_ite, xB_nil, xB_cons, getX_0, getX_s, bodyOf_for, bodyOf_while, loopB_eq, condOf_while, thenOf_ite, elseOf_ite, seg_eq, List.drop_succ_cons, List.drop_zero, List.take_succ_cons, List.take_zero, x_asg, ownD_lst, x_own, x_unp, x_aug, x_put, x_app, x_ext, x_pop, popM_app, popM_one, x_ite, x_for, forT_eq, forD_nil, forD_cons, x_ret, ret_false, ret_int, ret_bl, ret_non, ret_tup, x_retR, x_retN, x_brk, x_cnt, x_pas, x_frz, x_del, endD_rt, endD_nx, endD_ex, endD_ite, iterO_nx, iterO_ct, iterO_bk, iterO_rt, iniS_0, iniS_n, iniS_c, b_add, b_sub, b_mul, b_addT, b_addL, b_rep, b_div, b_mod, b_pow, b_shl, b_shr, b_band, b_bor, b_bxor, a_add, a_sub, c_lt, c_le, c_gt, c_ge, c_eqi, c_nei, c_eqb, c_neb, c_isn, c_nisn, c_isb, c_nisb, eqD_ii, eqD_tt, eqD_ll, eqDs_n, eqDs_c, pl_int, pl_non, pl_bl, pl_tup, pl_lst, all_ints, List.all_cons, List.all_nil, fmod_e, fdiv_e, isNon_non, isNon_int, isNon_tup, isNon_lst, x_idxT, x_idxL, idxO_some, at_0, at_1, at_2, at_3, at_4, at_5, at_6, at_7, i_lenT, i_lenL, i_min2, i_max2, i_max3, i_min3, i_abs, i_sumi, i_sori, i_sorTi, i_tupT, i_tupL, i_lstT, i_lstL, i_inti, i_intb, ty_ii, ty_ib, ty_bi, ty_bb, ty_tt, ty_ti, noIns_int, noIns_bl, noIns_tup, noIns_lst, noIns_non, noIns_str, seqOf_tup, seqOf_lst, it_seqT, it_seqL, Nat.reduceAdd, Nat.reduceSub, Nat.reduceMul, Nat.reduceEqDiff, Nat.reduceLeDiff, Int.reduceEq, Int.reduceNe, Int.reduceLT, Int.reduceLE, Int.reduceGT, Int.reduceGE, Int.reduceAdd, Int.reduceSub, Int.reduceMul, Int.reduceNeg, Int.reduceToNat, Int.reducePow, Int.reduceAbs, Int.cast_ofNat_Int, List.map_cons, List.map_nil, List.append_nil, List.nil_append, List.cons_append, List.length_cons, List.length_nil, List.length_map, decide_true, decide_false, decide_eq_true_eq, Bool.not_eq_true', decide_eq_false_iff_not, Bool.and_eq_true, Bool.or_eq_true, not_true_eq_false, not_false_eq_true, Bool.not_true, Bool.not_false, Bool.true_and, Bool.and_true, Bool.false_and, Bool.and_false, Bool.or_false, Bool.false_or, Bool.true_or, Bool.or_true, Bool.false_eq_true, if_true, if_false, ite_true, ite_false, reduceIte, ite_self, beq_self_eq_true, Bool.true_eq_false, it_rng1n (show b < 2 ^ 62 by omega), e]
  · intro k ρ hk h
    subst h
    refine ⟨_, ?_, rfl⟩
    have k0 : (0 : Int) ≤ k := by omega
    have m : mulOk (k : Int) 2 = true := mul_ok2 (by decide)
    have b1 := Nat.mod_lt (x / 2 ^ k) (show 0 < 2 by decide)
    have b2 := Nat.mod_lt (y / 2 ^ k) (show 0 < 2 by decide)
    have s1 : shlOk ((x / 2 ^ k % 2 : Nat) : Int) ((k : Int) * 2 + 2 - 1 - 0) = true := shl_ok (by omega) (by omega) (Nat.lt_of_lt_of_le (show _ < 2 by omega) (by decide))
    have s2 : shlOk ((y / 2 ^ k % 2 : Nat) : Int) ((k : Int) * 2 + 2 - 1 - 1) = true := shl_ok (by omega) (by omega) (Nat.lt_of_lt_of_le (show _ < 2 by omega) (by decide))
    have t1 : ((k : Int) * 2 + 2 - 1 - 0).toNat = 2 * k + 1 := by omega
    have t2 : ((k : Int) * 2 + 2 - 1 - 1).toNat = 2 * k := by omega
    have l := lev2 (W2 k x y) x y k (W2_lt k x y)
    rw [← W2_succ] at l
    unfold b_woven
    simp only [bind_ok, bind_no, bind_ex, bind_ite, gd_true, getS_0, getS_s, slV_sh, slB_ow, slO_ow, setS_0, setS_s, wipe_nil, wipe_cons, frS_ow, frS_sh, frS_no, tg_one, tg_tup, setVs_nil, setVs_cons, iteD_bl, and_bl, or_bl, and_blp, or_blp, nand_blp, nor_blp, ev_var, ev_bor, ev_con, ev_glb, ev_bin, ev_neg, negD_int, ev_nt, notD_bl, ev_cmp, ev_chain, ev_and, ev_or, ev_ite, ev_tup, ev_lst, ev_idx, ev_slc, ev_rvs, rvs_L, rvs_T, ev_bi, ev_isi, lends, lent_false, ev_call, ev_nil, ev_cons, ev_none, ev_some, intD_int, evE_comp, cmpT_none, cmpT_some, compD_map, compA_nil, compA_cons, cmpC_some, cmpC_none, compA_int, goB_nx, goB_bk, goB_ct, goB_rt, goB_ex, goB_ite, xB_nil, xB_cons, getX_0, getX_s, bodyOf_for, bodyOf_while, loopB_eq, condOf_while, thenOf_ite, elseOf_ite, seg_eq, List.drop_succ_cons, List.drop_zero, List.take_succ_cons, List.take_zero, x_asg, ownD_lst, x_own, x_unp, x_aug, x_put, x_app, x_ext, x_pop, popM_app, popM_one, x_ite, x_for, forT_eq, forD_nil, forD_cons, x_ret, ret_false, ret_int, ret_bl, ret_non, ret_tup, x_retR, x_retN, x_brk, x_cnt, x_pas, x_frz, x_del, endD_rt, endD_nx, endD_ex, endD_ite, iterO_nx, iterO_ct, iterO_bk, iterO_rt, iniS_0, iniS_n, iniS_c, b_add, b_sub, b_mul, b_addT, b_addL, b_rep, b_div, b_mod, b_pow, b_shl, b_shr, b_band, b_bor, b_bxor, a_add, a_sub, c_lt, c_le, c_gt, c_ge, c_eqi, c_nei, c_eqb, c_neb, c_isn, c_nisn, c_isb, c_nisb, eqD_ii, eqD_tt, eqD_ll, eqDs_n, eqDs_c, pl_int, pl_non, pl_bl, pl_tup, pl_lst, all_ints, List.all_cons, List.all_nil, fmod_e, fdiv_e, isNon_non, isNon_int, isNon_tup, isNon_lst, x_idxT, x_idxL, idxO_some, at_0, at_1, at_2, at_3, at_4, at_5, at_6, at_7, i_lenT, i_lenL, i_min2, i_max2, i_max3, i_min3, i_abs, i_sumi, i_sori, i_sorTi, i_tupT, i_tupL, i_lstT, i_lstL, i_inti, i_intb, ty_ii, ty_ib, ty_bi, ty_bb, ty_tt, ty_ti, noIns_int, noIns_bl, noIns_tup, noIns_lst, noIns_non, noIns_str, seqOf_tup, seqOf_lst, it_seqT, it_seqL, Nat.reduceAdd, Nat.reduceSub, Nat.reduceMul, Nat.reduceEqDiff, Nat.reduceLeDiff, Int.reduceEq, Int.reduceNe, Int.reduceLT, Int.reduceLE, Int.reduceGT, Int.reduceGE, Int.reduceAdd, Int.reduceSub, Int.reduceMul, Int.reduceNeg, Int.reduceToNat, Int.reducePow, Int.reduceAbs, Int.cast_ofNat_Int, List.map_cons, List.map_nil, List.append_nil, List.nil_append, List.cons_append, List.length_cons, List.length_nil, List.length_map, decide_true, decide_false, decide_eq_true_eq, Bool.not_eq_true', decide_eq_false_iff_not, Bool.and_eq_true, Bool.or_eq_true, not_true_eq_false, not_false_eq_true, Bool.not_true, Bool.not_false, Bool.true_and, Bool.and_true, Bool.false_and, Bool.and_false, Bool.or_false, Bool.false_or, Bool.true_or, Bool.or_true, Bool.false_eq_true, if_true, if_false, ite_true, ite_false, reduceIte, ite_self, beq_self_eq_true, Bool.true_eq_false, itr2, k0, m, Int.toNat_natCast, bit1, s1, s2, t1, t2, l]
theorem woven3 (n : Nat) (x y z b : Nat) (hb : b ≤ 400) : callN P (n + 1) n_woven [.tup [.int x, .int y, .int z], .int b] = .ok (.int (W3 b x y z : Nat)) := by
  rw [callN_eq P_woven _ (by simp)]
  have key := for_rng (f := forT (callN P n) false [4] (loopB b_woven 2)) (g := fun k : Nat => D.int (k : Int)) (fun k ρ => ρ = [.sh (.tup [.int x, .int y, .int z]), .sh (.int b), .sh (.int 3), .sh (.int (W3 k x y z : Nat)), .no, .no, .no]) b (ρ := [.sh (.tup [.int x, .int y, .int z]), .sh (.int b), .sh (.int 3), .sh (.int 0), .no, .no, .no]) rfl ?_
  · obtain ⟨ρ', e, rfl⟩ := key
    unfold b_woven at e ⊢
    simp only [bind_ok, bind_no, bind_ex, bind_ite, gd_true, getS_0, getS_s, slV_sh, slB_ow, slO_ow, setS_0, setS_s, wipe_nil, wipe_cons, frS_ow, frS_sh, frS_no, tg_one, tg_tup, setVs_nil, setVs_cons, iteD_bl, and_bl, or_bl, and_blp, or_blp, nand_blp, nor_blp, ev_var, ev_bor, ev_con, ev_glb, ev_bin, ev_neg, negD_int, ev_nt, notD_bl, ev_cmp, ev_chain, ev_and, ev_or, ev_ite, ev_tup, ev_lst, ev_idx, ev_slc, ev_rvs, rvs_L, rvs_T, ev_bi, ev_isi, lends, lent_false, ev_call, ev_nil, ev_cons, ev_none, ev_some, intD_int, evE_comp, cmpT_none, cmpT_some, compD_map, compA_nil, compA_cons, cmpC_some, cmpC_none, compA_int, goB_nx, goB_bk, goB_ct, goB_rt, goB_ex, goB_ite, xB_nil, xB_cons, getX_0, getX_s, bodyOf_for, bodyOf_while, loopB_eq, condOf_while, thenOf_ite, elseOf_ite, seg_eq, List.drop_succ_cons, List.drop_zero, List.take_succ_cons, List.take_zero, x_asg, ownD_lst, x_own, x_unp, x_aug, x_put, x_app, x_ext, x_pop, popM_app, popM_one, x_ite, x_for, forT_eq, forD_nil, forD_cons, x_ret, ret_false, ret_int, ret_bl, ret_non, ret_tup, x_retR, x_retN, x_brk, x_cnt, x_pas, x_frz, x_del, endD_rt, endD_nx, endD_ex, endD_ite, iterO_nx, iterO_ct, iterO_bk, iterO_rt, iniS_0, iniS_n, iniS_c, b_add, b_sub, b_mul, b_addT, b_addL, b_rep, b_div, b_mod, b_pow, b_shl, b_shr, b_band, b_bor, b_bxor, a_add, a_sub, c_lt, c_le, c_gt, c_ge, c_eqi, c_nei, c_eqb, c_neb, c_isn, c_nisn, c_isb, c_nisb, eqD_ii, eqD_tt, eqD_ll, eqDs_n, eqDs_c, pl_int, pl_non, pl_bl, pl_tup, pl_lst, all_ints, List.all_cons, List.all_nil, fmod_e, fdiv_e, isNon_non, isNon_int, isNon_tup, isNon_lst, x_idxT, x_idxL, idxO_some, at_0, at_1, at_2, at_3, at_4, at_5, at_6, at_7, i_lenT, i_lenL, i_min2, i_max2, i_max3, i_min3, i_abs, i_sumi, i_sori, i_sorTi, i_tupT, i_tupL, i_lstT, i_lstL, i_inti, i_intb, ty_ii, ty_ib, ty_bi, ty_bb, ty_tt, ty_ti, noIns_int, noIns_bl, noIns_tup, noIns_lst, noIns_non, noIns_str, seqOf_tup, seqOf_lst, it_seqT, it_seqL, Nat.reduceAdd, Nat.reduceSub, Nat.reduceMul, Nat.reduceEqDiff, Nat.reduceLeDiff, Int.reduceEq, Int.reduceNe, Int.reduceLT, Int.reduceLE, Int.reduceGT, Int.reduceGE, Int.reduceAdd, Int.reduceSub, Int.reduceMul, Int.reduceNeg, Int.reduceToNat, Int.reducePow, Int.reduceAbs, Int.cast_ofNat_Int, List.map_cons, List.map_nil, List.append_nil, List.nil_append, List.cons_append, List.length_cons, List.length_nil, List.length_map, decide_true, decide_false, decide_eq_true_eq, Bool.not_eq_true', decide_eq_false_iff_not, Bool.and_eq_true, Bool.or_eq_true, not_true_eq_false, not_false_eq_true, Bool.not_true, Bool.not_false, Bool.true_and, Bool.and_true, Bool.false_and, Bool.and_false, Bool.or_false, Bool.false_or, Bool.true_or, Bool.or_true, Bool.false_eq_true, if_true, if_false, ite_true, ite_false, reduceIte, ite_self, beq_self_eq_true, Bool.true_eq_false] at e
    simp only [bind_ok, bind_no, bind_ex, bind_ite, gd_true, getS_0, getS_s, slV_sh, slB_ow, slO_ow, setS_0, setS_s, wipe_nil, wipe_cons, frS_ow, frS_sh, frS_no, tg_one, tg_tup, setVs_nil, setVs_cons, iteD_bl, and_bl, or_bl, and_blp, or_blp, nand_blp, nor_blp, ev_var, ev_bor, ev_con, ev_glb, ev_bin, ev_neg, negD_int, ev_nt, notD_bl, ev_cmp, ev_chain, ev_and, ev_or, ev_ite, ev_tup, ev_lst, ev_idx, ev_slc, ev_rvs, rvs_L, rvs_T, ev_bi, ev_isi, lends, lent_false, ev_call, ev_nil, ev_cons, ev_none, ev_some, intD_int, evE_comp, cmpT_none, cmpT_some, compD_map, compA_nil, compA_cons, cmpC_some, cmpC_none, compA_int, goB_nx, goB_bk, goB_ct, goB_rt, goB_ex, goB_ite, xB_nil, xB_cons, getX_0, getX_s, bodyOf_for, bodyOf_while, loopB_eq, condOf_while, thenOf_ite, elseOf_ite, seg_eq, List.drop_succ_cons, List.drop_zero, List.take_succ_cons, List.take_zero, x_asg, ownD_lst, x_own, x_unp, x_aug, x_put, x_app, x_ext, x_pop, popM_app, popM_one, x_ite, x_for, forT_eq, forD_nil, forD_cons, x_ret, ret_false, ret_int, ret_bl, ret_non, ret_tup, x_retR, x_retN, x_brk, x_cnt, x_pas, x_frz, x_del, endD_rt, endD_nx, endD_ex, endD_ite, iterO_nx, iterO_ct, iterO_bk, iterO_rt, iniS_0, iniS_n, iniS_c, b_add, b_sub, b_mul, b_addT, b_addL, b_rep, b_div, b_mod, b_pow, b_shl, b_shr, b_band, b_bor, b_bxor, a_add, a_sub, c_lt, c_le, c_gt, c_ge, c_eqi, c_nei, c_eqb, c_neb, c_isn, c_nisn, c_isb, c_nisb, eqD_ii, eqD_tt, eqD_ll, eqDs_n, eqDs_c, pl_int, pl_non, pl_bl, pl_tup, pl_lst, all_ints, List.all_cons, List.all_nil, fmod_e, fdiv_e, isNon_non, isNon_int, isNon_tup, isNon_lst, x_idxT, x_idxL, idxO_some, at_0, at_1, at_2, at_3, at_4, at_5, at_6, at_7, i_lenT, i_lenL, i_min2, i_max2, i_max3, i_min3, i_abs, i_sumi, i_sori, i_sorTi, i_tupT, i_tupL, i_lstT, i_lstL, i_inti, i_intb, ty_ii, ty_ib, ty_bi, ty_bb, ty_tt, ty_ti, noIns_int, noIns_bl, noIns_tup, noIns_lst, noIns_non, noIns_str, seqOf_tup, seqOf_lst, it_seqT, it_seqL, Nat.reduceAdd, Nat.reduceSub, Nat.reduceMul, Nat.reduceEqDiff, Nat.reduceLeDiff, Int.reduceEq, Int.reduceNe, Int.reduceLT, Int.reduceLE, Int.reduceGT, Int.reduceGE, Int.reduceAdd, Int.reduceSub, Int.reduceMul, Int.reduceNeg, Int.reduceToNat, Int.reducePow, Int.reduceAbs, Int.cast_ofNat_Int, List.map_cons, List.map_nil, List.append_nil, List.nil_append, List.cons_append, List.length_cons, List.length_nil, List.length_map, decide_true, decide_false, decide_eq_true_eq, Bool.not_eq_true', decide_eq_false_iff_not, Bool.and_eq_true, Bool.or_eq_true, not_true_eq_false, not_false_eq_true, Bool.not_true, Bool.not_false, Bool.true_and, Bool.and_true, Bool.false_and, Bool.and_false, Bool.or_false, Bool.false_or, Bool.true_or, Bool.or_true, Bool.false_eq_true, if_true, if_false, ite_true, ite_false, reduceIte, ite_self, beq_self_eq_true, Bool.true_eq_false, it_rng1n (show b < 2 ^ 62 by omega), e]
  · intro k ρ hk h
    subst h
    refine ⟨_, ?_, rfl⟩
    have k0 : (0 : Int) ≤ k := by omega
    have m : mulOk (k : Int) 3 = true := mul_ok2 (by decide)
    have b1 := Nat.mod_lt (x / 2 ^ k) (show 0 < 2 by decide)
    have b2 := Nat.mod_lt (y / 2 ^ k) (show 0 < 2 by decide)
    have b3 := Nat.mod_lt (z / 2 ^ k) (show 0 < 2 by decide)
    have s1 : shlOk ((x / 2 ^ k % 2 : Nat) : Int) ((k : Int) * 3 + 3 - 1 - 0) = true := shl_ok (by omega) (by omega) (Nat.lt_of_lt_of_le (show _ < 2 by omega) (by decide))
    have s2 : shlOk ((y / 2 ^ k % 2 : Nat) : Int) ((k : Int) * 3 + 3 - 1 - 1) = true := shl_ok (by omega) (by omega) (Nat.lt_of_lt_of_le (show _ < 2 by omega) (by decide))
    have s3 : shlOk ((z / 2 ^ k % 2 : Nat) : Int) ((k : Int) * 3 + 3 - 1 - 2) = true := shl_ok (by omega) (by omega) (Nat.lt_of_lt_of_le (show _ < 2 by omega) (by decide))
    have t1 : ((k : Int) * 3 + 3 - 1 - 0).toNat = 3 * k + 2 := by omega
    have t2 : ((k : Int) * 3 + 3 - 1 - 1).toNat = 3 * k + 1 := by omega
    have t3 : ((k : Int) * 3 + 3 - 1 - 2).toNat = 3 * k := by omega
    have l := lev3 (W3 k x y z) x y z k (W3_lt k x y z)
    rw [← W3_succ] at l
    unfold b_woven
    simp only [bind_ok, bind_no, bind_ex, bind_ite, gd_true, getS_0, getS_s, slV_sh, slB_ow, slO_ow, setS_0, setS_s, wipe_nil, wipe_cons, frS_ow, frS_sh, frS_no, tg_one, tg_tup, setVs_nil, setVs_cons, iteD_bl, and_bl, or_bl, and_blp, or_blp, nand_blp, nor_blp, ev_var, ev_bor, ev_con, ev_glb, ev_bin, ev_neg, negD_int, ev_nt, notD_bl, ev_cmp, ev_chain, ev_and, ev_or, ev_ite, ev_tup, ev_lst, ev_idx, ev_slc, ev_rvs, rvs_L, rvs_T, ev_bi, ev_isi, lends, lent_false, ev_call, ev_nil, ev_cons, ev_none, ev_some, intD_int, evE_comp, cmpT_none, cmpT_some, compD_map, compA_nil, compA_cons, cmpC_some, cmpC_none, compA_int, goB_nx, goB_bk, goB_ct, goB_rt, goB_ex, goB_ite, xB_nil, xB_cons, getX_0, getX_s, bodyOf_for, bodyOf_while, loopB_eq, condOf_while, thenOf_ite, elseOf_ite, seg_eq, List.drop_succ_cons, List.drop_zero, List.take_succ_cons, List.take_zero, x_asg, ownD_lst, x_own, x_unp, x_aug, x_put, x_app, x_ext, x_pop, popM_app, popM_one, x_ite, x_for, forT_eq, forD_nil, forD_cons, x_ret, ret_false, ret_int, ret_bl, ret_non, ret_tup, x_retR, x_retN, x_brk, x_cnt, x_pas, x_frz, x_del, endD_rt, endD_nx, endD_ex, endD_ite, iterO_nx, iterO_ct, iterO_bk, iterO_rt, iniS_0, iniS_n, iniS_c, b_add, b_sub, b_mul, b_addT, b_addL, b_rep, b_div, b_mod, b_pow, b_shl, b_shr, b_band, b_bor, b_bxor, a_add, a_sub, c_lt, c_le, c_gt, c_ge, c_eqi, c_nei, c_eqb, c_neb, c_isn, c_nisn, c_isb, c_nisb, eqD_ii, eqD_tt, eqD_ll, eqDs_n, eqDs_c, pl_int, pl_non, pl_bl, pl_tup, pl_lst, all_ints, List.all_cons, List.all_nil, fmod_e, fdiv_e, isNon_non, isNon_int, isNon_tup, isNon_lst, x_idxT, x_idxL, idxO_some, at_0, at_1, at_2, at_3, at_4, at_5, at_6, at_7, i_lenT, i_lenL, i_min2, i_max2, i_max3, i_min3, i_abs, i_sumi, i_sori, i_sorTi, i_tupT, i_tupL, i_lstT, i_lstL, i_inti, i_intb, ty_ii, ty_ib, ty_bi, ty_bb, ty_tt, ty_ti, noIns_int, noIns_bl, noIns_tup, noIns_lst, noIns_non, noIns_str, seqOf_tup, seqOf_lst, it_seqT, it_seqL, Nat.reduceAdd, Nat.reduceSub, Nat.reduceMul, Nat.reduceEqDiff, Nat.reduceLeDiff, Int.reduceEq, Int.reduceNe, Int.reduceLT, Int.reduceLE, Int.reduceGT, Int.reduceGE, Int.reduceAdd, Int.reduceSub, Int.reduceMul, Int.reduceNeg, Int.reduceToNat, Int.reducePow, Int.reduceAbs, Int.cast_ofNat_Int, List.map_cons, List.map_nil, List.append_nil, List.nil_append, List.cons_append, List.length_cons, List.length_nil, List.length_map, decide_true, decide_false, decide_eq_true_eq, Bool.not_eq_true', decide_eq_false_iff_not, Bool.and_eq_true, Bool.or_eq_true, not_true_eq_false, not_false_eq_true, Bool.not_true, Bool.not_false, Bool.true_and, Bool.and_true, Bool.false_and, Bool.and_false, Bool.or_false, Bool.false_or, Bool.true_or, Bool.or_true, Bool.false_eq_true, if_true, if_false, ite_true, ite_false, reduceIte, ite_self, beq_self_eq_true, Bool.true_eq_false, itr3, k0, m, Int.toNat_natCast, bit1, s1, s2, s3, t1, t2, t3, l]
theorem woven2L (n : Nat) (x y b : Nat) (hb : b ≤ 400) : callN P (n + 1) n_woven [.lst [.int x, .int y], .int b] = .ok (.int (W2 b x y : Nat)) := by
  rw [callN_eq P_woven _ (by simp)]
  have key := for_rng (f := forT (callN P n) false [4] (loopB b_woven 2)) (g := fun k : Nat => D.int (k : Int)) (fun k ρ => ρ = [.sh (.lst [.int x, .int y]), .sh (.int b), .sh (.int 2), .sh (.int (W2 k x y : Nat)), .no, .no, .no]) b (ρ := [.sh (.lst [.int x, .int y]), .sh (.int b), .sh (.int 2), .sh (.int 0), .no, .no, .no]) rfl ?_
  · obtain ⟨ρ', e, rfl⟩ := key
    unfold b_woven at e ⊢
    simp only [bind_ok, bind_no, bind_ex, bind_ite, gd_true, getS_0, getS_s, slV_sh, slB_ow, slO_ow, setS_0, setS_s, wipe_nil, wipe_cons, frS_ow, frS_sh, frS_no, tg_one, tg_tup, setVs_nil, setVs_cons, iteD_bl, and_bl, or_bl, and_blp, or_blp, nand_blp, nor_blp, ev_var, ev_bor, ev_con, ev_glb, ev_bin, ev_neg, negD_int, ev_nt, notD_bl, ev_cmp, ev_chain, ev_and, ev_or, ev_ite, ev_tup, ev_lst, ev_idx, ev_slc, ev_rvs, rvs_L, rvs_T, ev_bi, ev_isi, lends, lent_false, ev_call, ev_nil, ev_cons, ev_none, ev_some, intD_int, evE_comp, cmpT_none, cmpT_some, compD_map, compA_nil, compA_cons, cmpC_some, cmpC_none, compA_int, goB_nx, goB_bk, goB_ct, goB_rt, goB_ex, goB_ite, xB_nil, xB_cons, getX_0, getX_s, bodyOf_for, bodyOf_while, loopB_eq, condOf_while, thenOf_ite, elseOf_ite, seg_eq, List.drop_succ_cons, List.drop_zero, List.take_succ_cons, List.take_zero, x_asg, ownD_lst, x_own, x_unp, x_aug, x_put, x_app, x_ext, x_pop, popM_app, popM_one, x_ite, x_for, forT_eq, forD_nil, forD_cons, x_ret, ret_false, ret_int, ret_bl, ret_non, ret_tup, x_retR, x_retN, x_brk, x_cnt, x_pas, x_frz, x_del, endD_rt, endD_nx, endD_ex, endD_ite, iterO_nx, iterO_ct, iterO_bk, iterO_rt, iniS_0, iniS_n, iniS_c, b_add, b_sub, b_mul, b_addT, b_addL, b_rep, b_div, b_mod, b_pow, b_shl, b_shr, b_band, b_bor, b_bxor, a_add, a_sub, c_lt, c_le, c_gt, c_ge, c_eqi, c_nei, c_eqb, c_neb, c_isn, c_nisn, c_isb, c_nisb, eqD_ii, eqD_tt, eqD_ll, eqDs_n, eqDs_c, pl_int, pl_non, pl_bl, pl_tup, pl_lst, all_ints, List.all_cons, List.all_nil, fmod_e, fdiv_e, isNon_non, isNon_int, isNon_tup, isNon_lst, x_idxT, x_idxL, idxO_some, at_0, at_1, at_2, at_3, at_4, at_5, at_6, at_7, i_lenT, i_lenL, i_min2, i_max2, i_max3, i_min3, i_abs, i_sumi, i_sori, i_sorTi, i_tupT, i_tupL, i_lstT, i_lstL, i_inti, i_intb, ty_ii, ty_ib, ty_bi, ty_bb, ty_tt, ty_ti, noIns_int, noIns_bl, noIns_tup, noIns_lst, noIns_non, noIns_str, seqOf_tup, seqOf_lst, it_seqT, it_seqL, Nat.reduceAdd, Nat.reduceSub, Nat.reduceMul, Nat.reduceEqDiff, Nat.reduceLeDiff, Int.reduceEq, Int.reduceNe, Int.reduceLT, Int.reduceLE, Int.reduceGT, Int.reduceGE, Int.reduceAdd, Int.reduceSub, Int.reduceMul, Int.reduceNeg, Int.reduceToNat, Int.reducePow, Int.reduceAbs, Int.cast_ofNat_Int, List.map_cons, List.map_nil, List.append_nil, List.nil_append, List.cons_append, List.length_cons, List.length_nil, List.length_map, decide_true, decide_false, decide_eq_true_eq, Bool.not_eq_true', decide_eq_false_iff_not, Bool.and_eq_true, Bool.or_eq_true, not_true_eq_false, not_false_eq_true, Bool.not_true, Bool.not_false, Bool.true_and, Bool.and_true, Bool.false_and, Bool.and_false, Bool.or_false, Bool.false_or, Bool.true_or, Bool.or_true, Bool.false_eq_true, if_true, if_false, ite_true, ite_false, reduceIte, ite_self, beq_self_eq_true, Bool.true_eq_false] at e
    simp only [bind_ok, bind_no, bind_ex, bind_ite, gd_true, getS_0, getS_s, slV_sh, slB_ow, slO_ow, setS_0, setS_s, wipe_nil, wipe_cons, frS_ow, frS_sh, frS_no, tg_one, tg_tup, setVs_nil, setVs_cons, iteD_bl, and_bl, or_bl, and_blp, or_blp, nand_blp, nor_blp, ev_var, ev_bor, ev_con, ev_glb, ev_bin, ev_neg, negD_int, ev_nt, notD_bl, ev_cmp, ev_chain, ev_and, ev_or, ev_ite, ev_tup, ev_lst, ev_idx, ev_slc, ev_rvs, rvs_L, rvs_T, ev_bi, ev_isi, lends, lent_false, ev_call, ev_nil, ev_cons, ev_none, ev_some, intD_int, evE_comp, cmpT_none, cmpT_some, compD_map, compA_nil, compA_cons, cmpC_some, cmpC_none, compA_int, goB_nx, goB_bk, goB_ct, goB_rt, goB_ex, goB_ite, xB_nil, xB_cons, getX_0, getX_s, bodyOf_for, bodyOf_while, loopB_eq, condOf_while, thenOf_ite, elseOf_ite, seg_eq, List.drop_succ_cons, List.drop_zero, List.take_succ_cons, List.take_zero, x_asg, ownD_lst, x_own, x_unp, x_aug, x_put, x_app, x_ext, x_pop, popM_app, popM_one, x_ite, x_for, forT_eq, forD_nil, forD_cons, x_ret, ret_false, ret_int, ret_bl, ret_non, ret_tup, x_retR, x_retN, x_brk, x_cnt, x_pas, x_frz, x_del, endD_rt, endD_nx, endD_ex, endD_ite, iterO_nx, iterO_ct, iterO_bk, iterO_rt, iniS_0, iniS_n, iniS_c, b_add, b_sub, b_mul, b_addT, b_addL, b_rep, b_div, b_mod, b_pow, b_shl, b_shr, b_band, b_bor, b_bxor, a_add, a_sub, c_lt, c_le, c_gt, c_ge, c_eqi, c_nei, c_eqb, c_neb, c_isn, c_nisn, c_isb, c_nisb, eqD_ii, eqD_tt, eqD_ll, eqDs_n, eqDs_c, pl_int, pl_non, pl_bl, pl_tup, pl_lst, all_ints, List.all_cons, List.all_nil, fmod_e, fdiv_e, isNon_non, isNon_int, isNon_tup, isNon_lst, x_idxT, x_idxL, idxO_some, at_0, at_1, at_2, at_3, at_4, at_5, at_6, at_7, i_lenT, i_lenL, i_min2, i_max2, i_max3, i_min3, i_abs, i_sumi, i_sori, i_sorTi, i_tupT, i_tupL, i_lstT, i_lstL, i_inti, i_intb, ty_ii, ty_ib, ty_bi, ty_bb, ty_tt, ty_ti, noIns_int, noIns_bl, noIns_tup, noIns_lst, noIns_non, noIns_str, seqOf_tup, seqOf_lst, it_seqT, it_seqL, Nat.reduceAdd, Nat.reduceSub, Nat.reduceMul, Nat.reduceEqDiff, Nat.reduceLeDiff, Int.reduceEq, Int.reduceNe, Int.reduceLT, Int.reduceLE, Int.reduceGT, Int.reduceGE, Int.reduceAdd, Int.reduceSub, Int.reduceMul, Int.reduceNeg, Int.reduceToNat, Int.reducePow, Int.reduceAbs, Int.cast_ofNat_Int, List.map_cons, List.map_nil, List.append_nil, List.nil_append, List.cons_append, List.length_cons, List.length_nil, List.length_map, decide_true, decide_false, decide_eq_true_eq, Bool.not_eq_true', decide_eq_false_iff_not, Bool.and_eq_true, Bool.or_eq_true, not_true_eq_false, not_false_eq_true, Bool.not_true, Bool.not_false, Bool.true_and, Bool.and_true, Bool.false_and, Bool.and_false, Bool.or_false, Bool.false_or, Bool.true_or, Bool.or_true, Bool.false_eq_true, if_true, if_false, ite_true, ite_false, reduceIte, ite_self, beq_self_eq_true, Bool.true_eq_false, it_rng1n (show b < 2 ^ 62 by omega), e]
  · intro k ρ hk h
    subst h
    refine ⟨_, ?_, rfl⟩
    have k0 : (0 : Int) ≤ k := by omega
    have m : mulOk (k : Int) 2 = true := mul_ok2 (by decide)
    have b1 := Nat.mod_lt (x / 2 ^ k) (show 0 < 2 by decide)
    have b2 := Nat.mod_lt (y / 2 ^ k) (show 0 < 2 by decide)
    have s1 : shlOk ((x / 2 ^ k % 2 : Nat) : Int) ((k : Int) * 2 + 2 - 1 - 0) = true := shl_ok (by omega) (by omega) (Nat.lt_of_lt_of_le (show _ < 2 by omega) (by decide))
    have s2 : shlOk ((y / 2 ^ k % 2 : Nat) : Int) ((k : Int) * 2 + 2 - 1 - 1) = true := shl_ok (by omega) (by omega) (Nat.lt_of_lt_of_le (show _ < 2 by omega) (by decide))
    have t1 : ((k : Int) * 2 + 2 - 1 - 0).toNat = 2 * k + 1 := by omega
    have t2 : ((k : Int) * 2 + 2 - 1 - 1).toNat = 2 * k := by omega
    have l := lev2 (W2 k x y) x y k (W2_lt k x y)
    rw [← W2_succ] at l
    unfold b_woven
    simp only [bind_ok, bind_no, bind_ex, bind_ite, gd_true, getS_0, getS_s, slV_sh, slB_ow, slO_ow, setS_0, setS_s, wipe_nil, wipe_cons, frS_ow, frS_sh, frS_no, tg_one, tg_tup, setVs_nil, setVs_cons, iteD_bl, and_bl, or_bl, and_blp, or_blp, nand_blp, nor_blp, ev_var, ev_bor, ev_con, ev_glb, ev_bin, ev_neg, negD_int, ev_nt, notD_bl, ev_cmp, ev_chain, ev_and, ev_or, ev_ite, ev_tup, ev_lst, ev_idx, ev_slc, ev_rvs, rvs_L, rvs_T, ev_bi, ev_isi, lends, lent_false, ev_call, ev_nil, ev_cons, ev_none, ev_some, intD_int, evE_comp, cmpT_none, cmpT_some, compD_map, compA_nil, compA_cons, cmpC_some, cmpC_none, compA_int, goB_nx, goB_bk, goB_ct, goB_rt, goB_ex, goB_ite, xB_nil, xB_cons, getX_0, getX_s, bodyOf_for, bodyOf_while, loopB_eq, condOf_while, thenOf_ite, elseOf_ite, seg_eq, List.drop_succ_cons, List.drop_zero, List.take_succ_cons, List.take_zero, x_asg, ownD_lst, x_own, x_unp, x_aug, x_put, x_app, x_ext, x_pop, popM_app, popM_one, x_ite, x_for, forT_eq, forD_nil, forD_cons, x_ret, ret_false, ret_int, ret_bl, ret_non, ret_tup, x_retR, x_retN, x_brk, x_cnt, x_pas, x_frz, x_del, endD_rt, endD_nx, endD_ex, endD_ite, iterO_nx, iterO_ct, iterO_bk, iterO_rt, iniS_0, iniS_n, iniS_c, b_add, b_sub, b_mul, b_addT, b_addL, b_rep, b_div, b_mod, b_pow, b_shl, b_shr, b_band, b_bor, b_bxor, a_add, a_sub, c_lt, c_le, c_gt, c_ge, c_eqi, c_nei, c_eqb, c_neb, c_isn, c_nisn, c_isb, c_nisb, eqD_ii, eqD_tt, eqD_ll, eqDs_n, eqDs_c, pl_int, pl_non, pl_bl, pl_tup, pl_lst, all_ints, List.all_cons, List.all_nil, fmod_e, fdiv_e, isNon_non, isNon_int, isNon_tup, isNon_lst, x_idxT, x_idxL, idxO_some, at_0, at_1, at_2, at_3, at_4, at_5, at_6, at_7, i_lenT, i_lenL, i_min2, i_max2, i_max3, i_min3, i_abs, i_sumi, i_sori, i_sorTi, i_tupT, i_tupL, i_lstT, i_lstL, i_inti, i_intb, ty_ii, ty_ib, ty_bi, ty_bb, ty_tt, ty_ti, noIns_int, noIns_bl, noIns_tup, noIns_lst, noIns_non, noIns_str, seqOf_tup, seqOf_lst, it_seqT, it_seqL, Nat.reduceAdd, Nat.reduceSub, Nat.reduceMul, Nat.reduceEqDiff, Nat.reduceLeDiff, Int.reduceEq, Int.reduceNe, Int.reduceLT, Int.reduceLE, Int.reduceGT, Int.reduceGE, Int.reduceAdd, Int.reduceSub, Int.reduceMul, Int.reduceNeg, Int.reduceToNat, Int.reducePow, Int.reduceAbs, Int.cast_ofNat_Int, List.map_cons, List.map_nil, List.append_nil, List.nil_append, List.cons_append, List.length_cons, List.length_nil, List.length_map, decide_true, decide_false, decide_eq_true_eq, Bool.not_eq_true', decide_eq_false_iff_not, Bool.and_eq_true, Bool.or_eq_true, not_true_eq_false, not_false_eq_true, Bool.not_true, Bool.not_false, Bool.true_and, Bool.and_true, Bool.false_and, Bool.and_false, Bool.or_false, Bool.false_or, Bool.true_or, Bool.or_true, Bool.false_eq_true, if_true, if_false, ite_true, ite_false, reduceIte, ite_self, beq_self_eq_true, Bool.true_eq_false, itr2, k0, m, Int.toNat_natCast, bit1, s1, s2, t1, t2, l]
theorem woven3L (n : Nat) (x y z b : Nat) (hb : b ≤ 400) : callN P (n + 1) n_woven [.lst [.int x, .int y, .int z], .int b] = .ok (.int (W3 b x y z : Nat)) := by
  rw [callN_eq P_woven _ (by simp)]
  have key := for_rng (f := forT (callN P n) false [4] (loopB b_woven 2)) (g := fun k : Nat => D.int (k : Int)) (fun k ρ => ρ = [.sh (.lst [.int x, .int y, .int z]), .sh (.int b), .sh (.int 3), .sh (.int (W3 k x y z : Nat)), .no, .no, .no]) b (ρ := [.sh (.lst [.int x, .int y, .int z]), .sh (.int b), .sh (.int 3), .sh (.int 0), .no, .no, .no]) rfl ?_
  · obtain ⟨ρ', e, rfl⟩ := key
    unfold b_woven at e ⊢
    simp only [bind_ok, bind_no, bind_ex, bind_ite, gd_true, getS_0, getS_s, slV_sh, slB_ow, slO_ow, setS_0, setS_s, wipe_nil, wipe_cons, frS_ow, frS_sh, frS_no, tg_one, tg_tup, setVs_nil, setVs_cons, iteD_bl, and_bl, or_bl, and_blp, or_blp, nand_blp, nor_blp, ev_var, ev_bor, ev_con, ev_glb, ev_bin, ev_neg, negD_int, ev_nt, notD_bl, ev_cmp, ev_chain, ev_and, ev_or, ev_ite, ev_tup, ev_lst, ev_idx, ev_slc, ev_rvs, rvs_L, rvs_T, ev_bi, ev_isi, lends, lent_false, ev_call, ev_nil, ev_cons, ev_none, ev_some, intD_int, evE_comp, cmpT_none, cmpT_some, compD_map, compA_nil, compA_cons, cmpC_some, cmpC_none, compA_int, goB_nx, goB_bk, goB_ct, goB_rt, goB_ex, goB_ite, xB_nil, xB_cons, getX_0, getX_s, bodyOf_for, bodyOf_while, loopB_eq, condOf_while, thenOf_ite, elseOf_ite, seg_eq, List.drop_succ_cons, List.drop_zero, List.take_succ_cons, List.take_zero, x_asg, ownD_lst, x_own, x_unp, x_aug, x_put, x_app, x_ext, x_pop, popM_app, popM_one, x_ite, x_for, forT_eq, forD_nil, forD_cons, x_ret, ret_false, ret_int, ret_bl, ret_non, ret_tup, x_retR, x_retN, x_brk, x_cnt, x_pas, x_frz, x_del, endD_rt, endD_nx, endD_ex, endD_ite, iterO_nx, iterO_ct, iterO_bk, iterO_rt, iniS_0, iniS_n, iniS_c, b_add, b_sub, b_mul, b_addT, b_addL, b_rep, b_div, b_mod, b_pow, b_shl, b_shr, b_band, b_bor, b_bxor, a_add, a_sub, c_lt, c_le, c_gt, c_ge, c_eqi, c_nei, c_eqb, c_neb, c_isn, c_nisn, c_isb, c_nisb, eqD_ii, eqD_tt, eqD_ll, eqDs_n, eqDs_c, pl_int, pl_non, pl_bl, pl_tup, pl_lst, all_ints, List.all_cons, List.all_nil, fmod_e, fdiv_e, isNon_non, isNon_int, isNon_tup, isNon_lst, x_idxT, x_idxL, idxO_some, at_0, at_1, at_2, at_3, at_4, at_5, at_6, at_7, i_lenT, i_lenL, i_min2, i_max2, i_max3, i_min3, i_abs, i_sumi, i_sori, i_sorTi, i_tupT, i_tupL, i_lstT, i_lstL, i_inti, i_intb, ty_ii, ty_ib, ty_bi, ty_bb, ty_tt, ty_ti, noIns_int, noIns_bl, noIns_tup, noIns_lst, noIns_non, noIns_str, seqOf_tup, seqOf_lst, it_seqT, it_seqL, Nat.reduceAdd, Nat.reduceSub, Nat.reduceMul, Nat.reduceEqDiff, Nat.reduceLeDiff, Int.reduceEq, Int.reduceNe, Int.reduceLT, Int.reduceLE, Int.reduceGT, Int.reduceGE, Int.reduceAdd, Int.reduceSub, Int.reduceMul, Int.reduceNeg, Int.reduceToNat, Int.reducePow, Int.reduceAbs, Int.cast_ofNat_Int, List.map_cons, List.map_nil, List.append_nil, List.nil_append, List.cons_append, List.length_cons, List.length_nil, List.length_map, decide_true, decide_false, decide_eq_true_eq, Bool.not_eq_true', decide_eq_false_iff_not, Bool.and_eq_true, Bool.or_eq_true, not_true_eq_false, not_false_eq_true, Bool.not_true, Bool.not_false, Bool.true_and, Bool.and_true, Bool.false_and, Bool.and_false, Bool.or_false, Bool.false_or, Bool.true_or, Bool.or_true, Bool.false_eq_true, if_true, if_false, ite_true, ite_false, reduceIte, ite_self, beq_self_eq_true, Bool.true_eq_false] at e
    simp only [bind_ok, bind_no, bind_ex, bind_ite, gd_true, getS_0, getS_s, slV_sh, slB_ow, slO_ow, setS_0, setS_s, wipe_nil, wipe_cons, frS_ow, frS_sh, frS_no, tg_one, tg_tup, setVs_nil, setVs_cons, iteD_bl, and_bl, or_bl, and_blp, or_blp, nand_blp, nor_blp, ev_var, ev_bor, ev_con, ev_glb, ev_bin, ev_neg, negD_int, ev_nt, notD_bl, ev_cmp, ev_chain, ev_and, ev_or, ev_ite, ev_tup, ev_lst, ev_idx, ev_slc, ev_rvs, rvs_L, rvs_T, ev_bi, ev_isi, lends, lent_false, ev_call, ev_nil, ev_cons, ev_none, ev_some, intD_int, evE_comp, cmpT_none, cmpT_some, compD_map, compA_nil, compA_cons, cmpC_some, cmpC_none, compA_int, goB_nx, goB_bk, goB_ct, goB_rt, goB_ex, goB_ite, xB_nil, xB_cons, getX_0, getX_s, bodyOf_for, bodyOf_while, loopB_eq, condOf_while, thenOf_ite, elseOf_ite, seg_eq, List.drop_succ_cons, List.drop_zero, List.take_succ_cons, List.take_zero, x_asg, ownD_lst, x_own, x_unp, x_aug, x_put, x_app, x_ext, x_pop, popM_app, popM_one, x_ite, x_for, forT_eq, forD_nil, forD_cons, x_ret, ret_false, ret_int, ret_bl, ret_non, ret_tup, x_retR, x_retN, x_brk, x_cnt, x_pas, x_frz, x_del, endD_rt, endD_nx, endD_ex, endD_ite, iterO_nx, iterO_ct, iterO_bk, iterO_rt, iniS_0, iniS_n, iniS_c, b_add, b_sub, b_mul, b_addT, b_addL, b_rep, b_div, b_mod, b_pow, b_shl, b_shr, b_band, b_bor, b_bxor, a_add, a_sub, c_lt, c_le, c_gt, c_ge, c_eqi, c_nei, c_eqb, c_neb, c_isn, c_nisn, c_isb, c_nisb, eqD_ii, eqD_tt, eqD_ll, eqDs_n, eqDs_c, pl_int, pl_non, pl_bl, pl_tup, pl_lst, all_ints, List.all_cons, List.all_nil, fmod_e, fdiv_e, isNon_non, isNon_int, isNon_tup, isNon_lst, x_idxT, x_idxL, idxO_some, at_0, at_1, at_2, at_3, at_4, at_5, at_6, at_7, i_lenT, i_lenL, i_min2, i_max2, i_max3, i_min3, i_abs, i_sumi, i_sori, i_sorTi, i_tupT, i_tupL, i_lstT, i_lstL, i_inti, i_intb, ty_ii, ty_ib, ty_bi, ty_bb, ty_tt, ty_ti, noIns_int, noIns_bl, noIns_tup, noIns_lst, noIns_non, noIns_str, seqOf_tup, seqOf_lst, it_seqT, it_seqL, Nat.reduceAdd, Nat.reduceSub, Nat.reduceMul, Nat.reduceEqDiff, Nat.reduceLeDiff, Int.reduceEq, Int.reduceNe, Int.reduceLT, Int.reduceLE, Int.reduceGT, Int.reduceGE, Int.reduceAdd, Int.reduceSub, Int.reduceMul, Int.reduceNeg, Int.reduceToNat, Int.reducePow, Int.reduceAbs, Int.cast_ofNat_Int, List.map_cons, List.map_nil, List.append_nil, List.nil_append, List.cons_append, List.length_cons, List.length_nil, List.length_map, decide_true, decide_false, decide_eq_true_eq, Bool.not_eq_true', decide_eq_false_iff_not, Bool.and_eq_true, Bool.or_eq_true, not_true_eq_false, not_false_eq_true, Bool.not_true, Bool.not_false, Bool.true_and, Bool.and_true, Bool.false_and, Bool.and_false, Bool.or_false, Bool.false_or, Bool.true_or, Bool.or_true, Bool.false_eq_true, if_true, if_false, ite_true, ite_false, reduceIte, ite_self, beq_self_eq_true, Bool.true_eq_false, it_rng1n (show b < 2 ^ 62 by omega), e]
  · intro k ρ hk h
    subst h
    refine ⟨_, ?_, rfl⟩
    have k0 : (0 : Int) ≤ k := by omega
    have m : mulOk (k : Int) 3 = true := mul_ok2 (by decide)
    have b1 := Nat.mod_lt (x / 2 ^ k) (show 0 < 2 by decide)
    have b2 := Nat.mod_lt (y / 2 ^ k) (show 0 < 2 by decide)
    have b3 := Nat.mod_lt (z / 2 ^ k) (show 0 < 2 by decide)
    have s1 : shlOk ((x / 2 ^ k % 2 : Nat) : Int) ((k : Int) * 3 + 3 - 1 - 0) = true := shl_ok (by omega) (by omega) (Nat.lt_of_lt_of_le (show _ < 2 by omega) (by decide))
    have s2 : shlOk ((y / 2 ^ k % 2 : Nat) : Int) ((k : Int) * 3 + 3 - 1 - 1) = true := shl_ok (by omega) (by omega) (Nat.lt_of_lt_of_le (show _ < 2 by omega) (by decide))
    have s3 : shlOk ((z / 2 ^ k % 2 : Nat) : Int) ((k : Int) * 3 + 3 - 1 - 2) = true := shl_ok (by omega) (by omega) (Nat.lt_of_lt_of_le (show _ < 2 by omega) (by decide))
    have t1 : ((k : Int) * 3 + 3 - 1 - 0).toNat = 3 * k + 2 := by omega
    have t2 : ((k : Int) * 3 + 3 - 1 - 1).toNat = 3 * k + 1 := by omega
    have t3 : ((k : Int) * 3 + 3 - 1 - 2).toNat = 3 * k := by omega
    have l := lev3 (W3 k x y z) x y z k (W3_lt k x y z)
    rw [← W3_succ] at l
    unfold b_woven
    simp only [bind_ok, bind_no, bind_ex, bind_ite, gd_true, getS_0, getS_s, slV_sh, slB_ow, slO_ow, setS_0, setS_s, wipe_nil, wipe_cons, frS_ow, frS_sh, frS_no, tg_one, tg_tup, setVs_nil, setVs_cons, iteD_bl, and_bl, or_bl, and_blp, or_blp, nand_blp, nor_blp, ev_var, ev_bor, ev_con, ev_glb, ev_bin, ev_neg, negD_int, ev_nt, notD_bl, ev_cmp, ev_chain, ev_and, ev_or, ev_ite, ev_tup, ev_lst, ev_idx, ev_slc, ev_rvs, rvs_L, rvs_T, ev_bi, ev_isi, lends, lent_false, ev_call, ev_nil, ev_cons, ev_none, ev_some, intD_int, evE_comp, cmpT_none, cmpT_some, compD_map, compA_nil, compA_cons, cmpC_some, cmpC_none, compA_int, goB_nx, goB_bk, goB_ct, goB_rt, goB_ex, goB_ite, xB_nil, xB_cons, getX_0, getX_s, bodyOf_for, bodyOf_while, loopB_eq, condOf_while, thenOf_ite, elseOf_ite, seg_eq, List.drop_succ_cons, List.drop_zero, List.take_succ_cons, List.take_zero, x_asg, ownD_lst, x_own, x_unp, x_aug, x_put, x_app, x_ext, x_pop, popM_app, popM_one, x_ite, x_for, forT_eq, forD_nil, forD_cons, x_ret, ret_false, ret_int, ret_bl, ret_non, ret_tup, x_retR, x_retN, x_brk, x_cnt, x_pas, x_frz, x_del, endD_rt, endD_nx, endD_ex, endD_ite, iterO_nx, iterO_ct, iterO_bk, iterO_rt, iniS_0, iniS_n, iniS_c, b_add, b_sub, b_mul, b_addT, b_addL, b_rep, b_div, b_mod, b_pow, b_shl, b_shr, b_band, b_bor, b_bxor, a_add, a_sub, c_lt, c_le, c_gt, c_ge, c_eqi, c_nei, c_eqb, c_neb, c_isn, c_nisn, c_isb, c_nisb, eqD_ii, eqD_tt, eqD_ll, eqDs_n, eqDs_c, pl_int, pl_non, pl_bl, pl_tup, pl_lst, all_ints, List.all_cons, List.all_nil, fmod_e, fdiv_e, isNon_non, isNon_int, isNon_tup, isNon_lst, x_idxT, x_idxL, idxO_some, at_0, at_1, at_2, at_3, at_4, at_5, at_6, at_7, i_lenT, i_lenL, i_min2, i_max2, i_max3, i_min3, i_abs, i_sumi, i_sori, i_sorTi, i_tupT, i_tupL, i_lstT, i_lstL, i_inti, i_intb, ty_ii, ty_ib, ty_bi, ty_bb, ty_tt, ty_ti, noIns_int, noIns_bl, noIns_tup, noIns_lst, noIns_non, noIns_str, seqOf_tup, seqOf_lst, it_seqT, it_seqL, Nat.reduceAdd, Nat.reduceSub, Nat.reduceMul, Nat.reduceEqDiff, Nat.reduceLeDiff, Int.reduceEq, Int.reduceNe, Int.reduceLT, Int.reduceLE, Int.reduceGT, Int.reduceGE, Int.reduceAdd, Int.reduceSub, Int.reduceMul, Int.reduceNeg, Int.reduceToNat, Int.reducePow, Int.reduceAbs, Int.cast_ofNat_Int, List.map_cons, List.map_nil, List.append_nil, List.nil_append, List.cons_append, List.length_cons, List.length_nil, List.length_map, decide_true, decide_false, decide_eq_true_eq, Bool.not_eq_true', decide_eq_false_iff_not, Bool.and_eq_true, Bool.or_eq_true, not_true_eq_false, not_false_eq_true, Bool.not_true, Bool.not_false, Bool.true_and, Bool.and_true, Bool.false_and, Bool.and_false, Bool.or_false, Bool.false_or, Bool.true_or, Bool.or_true, Bool.false_eq_true, if_true, if_false, ite_true, ite_false, reduceIte, ite_self, beq_self_eq_true, Bool.true_eq_false, itr3, k0, m, Int.toNat_natCast, bit1, s1, s2, s3, t1, t2, t3, l]
theorem div_ok2 : divOk 2 = true := by decide
theorem rvr2 : itD .rvr1 [.int 2] = .ok [.int 1, .int 0] := nr rfl
theorem rvr3 : itD .rvr1 [.int 3] = .ok [.int 2, .int 1, .int 0] := nr rfl
theorem ix20 : L2.ixN 2 0 = some 0 := nr rfl
theorem ix21 : L2.ixN 2 1 = some 1 := nr rfl
theorem ix30 : L2.ixN 3 0 = some 0 := nr rfl
theorem ix31 : L2.ixN 3 1 = some 1 := nr rfl
theorem ix32 : L2.ixN 3 2 = some 2 := nr rfl
theorem c2 (a : Nat) : (a : Int) / 2 = ((a / 2 : Nat) : Int) := by omega
theorem weaves2 (n : Nat) (x y b : Nat) (hb : b ≤ 400) (hx : x < 2 ^ b) (hy : y < 2 ^ b) : callN P (n + 2) n_law_weaves [.int (W2 b x y : Nat), .tup [.int x, .int y], .int b] = .ok (.bl true) := by
  rw [callN_eq P_law_weaves _ (by simp)]
  have nn : ¬ ((W2 b x y : Nat) : Int) < 0 := by omega
  have key := for_rng (f := forT (callN P (n + 1)) false [5] (loopB b_law_weaves 4)) (g := fun k : Nat => D.int (k : Int)) (fun k ρ => ρ = [.no, .sh (.tup [.int x, .int y]), .sh (.int b), .sh (.int (W2 (b - k) (x / 2 ^ k) (y / 2 ^ k) : Nat)), .ow [.int (x / 2 ^ k : Nat), .int (y / 2 ^ k : Nat)], .no, .no]) b (ρ := [.no, .sh (.tup [.int x, .int y]), .sh (.int b), .sh (.int (W2 b x y : Nat)), .ow [.int x, .int y], .no, .no]) (by simp) ?_
  · obtain ⟨ρ', e, rfl⟩ := key
    rw [Nat.sub_self, Nat.div_eq_of_lt hx, Nat.div_eq_of_lt hy] at e
    have z : ((W2 0 0 0 : Nat) : Int) = 0 := rfl
    have sm : biD .sum [.lst [.int ((0 : Nat) : Int), .int ((0 : Nat) : Int)]] = .ok (.int 0) := i_sumi [0, 0]
    unfold b_law_weaves at e ⊢
    simp only [bind_ok, bind_no, bind_ex, bind_ite, gd_true, getS_0, getS_s, slV_sh, slB_ow, slO_ow, setS_0, setS_s, wipe_nil, wipe_cons, frS_ow, frS_sh, frS_no, tg_one, tg_tup, setVs_nil, setVs_cons, iteD_bl, and_bl, or_bl, and_blp, or_blp, nand_blp, nor_blp, ev_var, ev_bor, ev_con, ev_glb, ev_bin, ev_neg, negD_int, ev_nt, notD_bl, ev_cmp, ev_chain, ev_and, ev_or, ev_ite, ev_tup, ev_lst, ev_idx, ev_slc, ev_rvs, rvs_L, rvs_T, ev_bi, ev_isi, lends, lent_false, ev_call, ev_nil, ev_cons, ev_none, ev_some, intD_int, evE_comp, cmpT_none, cmpT_some, compD_map, compA_nil, compA_cons, cmpC_some, cmpC_none, compA_int, goB_nx, goB_bk, goB_ct, goB_rt, goB_ex, goB_ite, xB_nil, xB_cons, getX_0, getX_s, bodyOf_for, bodyOf_while, loopB_eq, condOf_while, thenOf_ite, elseOf_ite, seg_eq, List.drop_succ_cons, List.drop_zero, List.take_succ_cons, List.take_zero, x_asg, ownD_lst, x_own, x_unp, x_aug, x_put, x_app, x_ext, x_pop, popM_app, popM_one, x_ite, x_for, forT_eq, forD_nil, forD_cons, x_ret, ret_false, ret_int, ret_bl, ret_non, ret_tup, x_retR, x_retN, x_brk, x_cnt, x_pas, x_frz, x_del, endD_rt, endD_nx, endD_ex, endD_ite, iterO_nx, iterO_ct, iterO_bk, iterO_rt, iniS_0, iniS_n, iniS_c, b_add, b_sub, b_mul, b_addT, b_addL, b_rep, b_div, b_mod, b_pow, b_shl, b_shr, b_band, b_bor, b_bxor, a_add, a_sub, c_lt, c_le, c_gt, c_ge, c_eqi, c_nei, c_eqb, c_neb, c_isn, c_nisn, c_isb, c_nisb, eqD_ii, eqD_tt, eqD_ll, eqDs_n, eqDs_c, pl_int, pl_non, pl_bl, pl_tup, pl_lst, all_ints, List.all_cons, List.all_nil, fmod_e, fdiv_e, isNon_non, isNon_int, isNon_tup, isNon_lst, x_idxT, x_idxL, idxO_some, at_0, at_1, at_2, at_3, at_4, at_5, at_6, at_7, i_lenT, i_lenL, i_min2, i_max2, i_max3, i_min3, i_abs, i_sumi, i_sori, i_sorTi, i_tupT, i_tupL, i_lstT, i_lstL, i_inti, i_intb, ty_ii, ty_ib, ty_bi, ty_bb, ty_tt, ty_ti, noIns_int, noIns_bl, noIns_tup, noIns_lst, noIns_non, noIns_str, seqOf_tup, seqOf_lst, it_seqT, it_seqL, Nat.reduceAdd, Nat.reduceSub, Nat.reduceMul, Nat.reduceEqDiff, Nat.reduceLeDiff, Int.reduceEq, Int.reduceNe, Int.reduceLT, Int.reduceLE, Int.reduceGT, Int.reduceGE, Int.reduceAdd, Int.reduceSub, Int.reduceMul, Int.reduceNeg, Int.reduceToNat, Int.reducePow, Int.reduceAbs, Int.cast_ofNat_Int, List.map_cons, List.map_nil, List.append_nil, List.nil_append, List.cons_append, List.length_cons, List.length_nil, List.length_map, decide_true, decide_false, decide_eq_true_eq, Bool.not_eq_true', decide_eq_false_iff_not, Bool.and_eq_true, Bool.or_eq_true, not_true_eq_false, not_false_eq_true, Bool.not_true, Bool.not_false, Bool.true_and, Bool.and_true, Bool.false_and, Bool.and_false, Bool.or_false, Bool.false_or, Bool.true_or, Bool.or_true, Bool.false_eq_true, if_true, if_false, ite_true, ite_false, reduceIte, ite_self, beq_self_eq_true, Bool.true_eq_false] at e
    simp only [bind_ok, bind_no, bind_ex, bind_ite, gd_true, getS_0, getS_s, slV_sh, slB_ow, slO_ow, setS_0, setS_s, wipe_nil, wipe_cons, frS_ow, frS_sh, frS_no, tg_one, tg_tup, setVs_nil, setVs_cons, iteD_bl, and_bl, or_bl, and_blp, or_blp, nand_blp, nor_blp, ev_var, ev_bor, ev_con, ev_glb, ev_bin, ev_neg, negD_int, ev_nt, notD_bl, ev_cmp, ev_chain, ev_and, ev_or, ev_ite, ev_tup, ev_lst, ev_idx, ev_slc, ev_rvs, rvs_L, rvs_T, ev_bi, ev_isi, lends, lent_false, ev_call, ev_nil, ev_cons, ev_none, ev_some, intD_int, evE_comp, cmpT_none, cmpT_some, compD_map, compA_nil, compA_cons, cmpC_some, cmpC_none, compA_int, goB_nx, goB_bk, goB_ct, goB_rt, goB_ex, goB_ite, xB_nil, xB_cons, getX_0, getX_s, bodyOf_for, bodyOf_while, loopB_eq, condOf_while, thenOf_ite, elseOf_ite, seg_eq, List.drop_succ_cons, List.drop_zero, List.take_succ_cons, List.take_zero, x_asg, ownD_lst, x_own, x_unp, x_aug, x_put, x_app, x_ext, x_pop, popM_app, popM_one, x_ite, x_for, forT_eq, forD_nil, forD_cons, x_ret, ret_false, ret_int, ret_bl, ret_non, ret_tup, x_retR, x_retN, x_brk, x_cnt, x_pas, x_frz, x_del, endD_rt, endD_nx, endD_ex, endD_ite, iterO_nx, iterO_ct, iterO_bk, iterO_rt, iniS_0, iniS_n, iniS_c, b_add, b_sub, b_mul, b_addT, b_addL, b_rep, b_div, b_mod, b_pow, b_shl, b_shr, b_band, b_bor, b_bxor, a_add, a_sub, c_lt, c_le, c_gt, c_ge, c_eqi, c_nei, c_eqb, c_neb, c_isn, c_nisn, c_isb, c_nisb, eqD_ii, eqD_tt, eqD_ll, eqDs_n, eqDs_c, pl_int, pl_non, pl_bl, pl_tup, pl_lst, all_ints, List.all_cons, List.all_nil, fmod_e, fdiv_e, isNon_non, isNon_int, isNon_tup, isNon_lst, x_idxT, x_idxL, idxO_some, at_0, at_1, at_2, at_3, at_4, at_5, at_6, at_7, i_lenT, i_lenL, i_min2, i_max2, i_max3, i_min3, i_abs, i_sumi, i_sori, i_sorTi, i_tupT, i_tupL, i_lstT, i_lstL, i_inti, i_intb, ty_ii, ty_ib, ty_bi, ty_bb, ty_tt, ty_ti, noIns_int, noIns_bl, noIns_tup, noIns_lst, noIns_non, noIns_str, seqOf_tup, seqOf_lst, it_seqT, it_seqL, Nat.reduceAdd, Nat.reduceSub, Nat.reduceMul, Nat.reduceEqDiff, Nat.reduceLeDiff, Int.reduceEq, Int.reduceNe, Int.reduceLT, Int.reduceLE, Int.reduceGT, Int.reduceGE, Int.reduceAdd, Int.reduceSub, Int.reduceMul, Int.reduceNeg, Int.reduceToNat, Int.reducePow, Int.reduceAbs, Int.cast_ofNat_Int, List.map_cons, List.map_nil, List.append_nil, List.nil_append, List.cons_append, List.length_cons, List.length_nil, List.length_map, decide_true, decide_false, decide_eq_true_eq, Bool.not_eq_true', decide_eq_false_iff_not, Bool.and_eq_true, Bool.or_eq_true, not_true_eq_false, not_false_eq_true, Bool.not_true, Bool.not_false, Bool.true_and, Bool.and_true, Bool.false_and, Bool.and_false, Bool.or_false, Bool.false_or, Bool.true_or, Bool.or_true, Bool.false_eq_true, if_true, if_false, ite_true, ite_false, reduceIte, ite_self, beq_self_eq_true, Bool.true_eq_false, law_whole_ok, nn, it_rng1n (show b < 2 ^ 62 by omega), e, z]
    have sm : biD .sum [.lst [.int 0, .int 0]] = .ok (.int 0) := i_sumi [0, 0]
    simp only [bind_ok, bind_no, bind_ex, bind_ite, gd_true, getS_0, getS_s, slV_sh, slB_ow, slO_ow, setS_0, setS_s, wipe_nil, wipe_cons, frS_ow, frS_sh, frS_no, tg_one, tg_tup, setVs_nil, setVs_cons, iteD_bl, and_bl, or_bl, and_blp, or_blp, nand_blp, nor_blp, ev_var, ev_bor, ev_con, ev_glb, ev_bin, ev_neg, negD_int, ev_nt, notD_bl, ev_cmp, ev_chain, ev_and, ev_or, ev_ite, ev_tup, ev_lst, ev_idx, ev_slc, ev_rvs, rvs_L, rvs_T, ev_bi, ev_isi, lends, lent_false, ev_call, ev_nil, ev_cons, ev_none, ev_some, intD_int, evE_comp, cmpT_none, cmpT_some, compD_map, compA_nil, compA_cons, cmpC_some, cmpC_none, compA_int, goB_nx, goB_bk, goB_ct, goB_rt, goB_ex, goB_ite, xB_nil, xB_cons, getX_0, getX_s, bodyOf_for, bodyOf_while, loopB_eq, condOf_while, thenOf_ite, elseOf_ite, seg_eq, List.drop_succ_cons, List.drop_zero, List.take_succ_cons, List.take_zero, x_asg, ownD_lst, x_own, x_unp, x_aug, x_put, x_app, x_ext, x_pop, popM_app, popM_one, x_ite, x_for, forT_eq, forD_nil, forD_cons, x_ret, ret_false, ret_int, ret_bl, ret_non, ret_tup, x_retR, x_retN, x_brk, x_cnt, x_pas, x_frz, x_del, endD_rt, endD_nx, endD_ex, endD_ite, iterO_nx, iterO_ct, iterO_bk, iterO_rt, iniS_0, iniS_n, iniS_c, b_add, b_sub, b_mul, b_addT, b_addL, b_rep, b_div, b_mod, b_pow, b_shl, b_shr, b_band, b_bor, b_bxor, a_add, a_sub, c_lt, c_le, c_gt, c_ge, c_eqi, c_nei, c_eqb, c_neb, c_isn, c_nisn, c_isb, c_nisb, eqD_ii, eqD_tt, eqD_ll, eqDs_n, eqDs_c, pl_int, pl_non, pl_bl, pl_tup, pl_lst, all_ints, List.all_cons, List.all_nil, fmod_e, fdiv_e, isNon_non, isNon_int, isNon_tup, isNon_lst, x_idxT, x_idxL, idxO_some, at_0, at_1, at_2, at_3, at_4, at_5, at_6, at_7, i_lenT, i_lenL, i_min2, i_max2, i_max3, i_min3, i_abs, i_sumi, i_sori, i_sorTi, i_tupT, i_tupL, i_lstT, i_lstL, i_inti, i_intb, ty_ii, ty_ib, ty_bi, ty_bb, ty_tt, ty_ti, noIns_int, noIns_bl, noIns_tup, noIns_lst, noIns_non, noIns_str, seqOf_tup, seqOf_lst, it_seqT, it_seqL, Nat.reduceAdd, Nat.reduceSub, Nat.reduceMul, Nat.reduceEqDiff, Nat.reduceLeDiff, Int.reduceEq, Int.reduceNe, Int.reduceLT, Int.reduceLE, Int.reduceGT, Int.reduceGE, Int.reduceAdd, Int.reduceSub, Int.reduceMul, Int.reduceNeg, Int.reduceToNat, Int.reducePow, Int.reduceAbs, Int.cast_ofNat_Int, List.map_cons, List.map_nil, List.append_nil, List.nil_append, List.cons_append, List.length_cons, List.length_nil, List.length_map, decide_true, decide_false, decide_eq_true_eq, Bool.not_eq_true', decide_eq_false_iff_not, Bool.and_eq_true, Bool.or_eq_true, not_true_eq_false, not_false_eq_true, Bool.not_true, Bool.not_false, Bool.true_and, Bool.and_true, Bool.false_and, Bool.and_false, Bool.or_false, Bool.false_or, Bool.true_or, Bool.or_true, Bool.false_eq_true, if_true, if_false, ite_true, ite_false, reduceIte, ite_self, beq_self_eq_true, Bool.true_eq_false, sm]
  · intro k ρ hk h
    subst h
    refine ⟨_, ?_, rfl⟩
    obtain ⟨m, hm⟩ : ∃ m, b - k = m + 1 := ⟨b - k - 1, by omega⟩
    rw [hm, show b - (k + 1) = m by omega, Nat.pow_succ, ← Nat.div_div_eq_div_mul, ← Nat.div_div_eq_div_mul]
    generalize x / 2 ^ k = x'
    generalize y / 2 ^ k = y'
    have h1 : ((W2 (m + 1) x' y' : Nat) : Int) % 2 = (y' : Int) % 2 := by rw [W2]; omega
    have h2 : ((W2 (m + 1) x' y' : Nat) : Int) / 2 = ((x' % 2 + 2 * W2 m (x' / 2) (y' / 2) : Nat) : Int) := by rw [W2]; omega
    have h3 : ((x' % 2 + 2 * W2 m (x' / 2) (y' / 2) : Nat) : Int) % 2 = (x' : Int) % 2 := by omega
    have h4 : ((x' % 2 + 2 * W2 m (x' / 2) (y' / 2) : Nat) : Int) / 2 = ((W2 m (x' / 2) (y' / 2) : Nat) : Int) := by omega
    unfold b_law_weaves
    simp only [bind_ok, bind_no, bind_ex, bind_ite, gd_true, getS_0, getS_s, slV_sh, slB_ow, slO_ow, setS_0, setS_s, wipe_nil, wipe_cons, frS_ow, frS_sh, frS_no, tg_one, tg_tup, setVs_nil, setVs_cons, iteD_bl, and_bl, or_bl, and_blp, or_blp, nand_blp, nor_blp, ev_var, ev_bor, ev_con, ev_glb, ev_bin, ev_neg, negD_int, ev_nt, notD_bl, ev_cmp, ev_chain, ev_and, ev_or, ev_ite, ev_tup, ev_lst, ev_idx, ev_slc, ev_rvs, rvs_L, rvs_T, ev_bi, ev_isi, lends, lent_false, ev_call, ev_nil, ev_cons, ev_none, ev_some, intD_int, evE_comp, cmpT_none, cmpT_some, compD_map, compA_nil, compA_cons, cmpC_some, cmpC_none, compA_int, goB_nx, goB_bk, goB_ct, goB_rt, goB_ex, goB_ite, xB_nil, xB_cons, getX_0, getX_s, bodyOf_for, bodyOf_while, loopB_eq, condOf_while, thenOf_ite, elseOf_ite, seg_eq, List.drop_succ_cons, List.drop_zero, List.take_succ_cons, List.take_zero, x_asg, ownD_lst, x_own, x_unp, x_aug, x_put, x_app, x_ext, x_pop, popM_app, popM_one, x_ite, x_for, forT_eq, forD_nil, forD_cons, x_ret, ret_false, ret_int, ret_bl, ret_non, ret_tup, x_retR, x_retN, x_brk, x_cnt, x_pas, x_frz, x_del, endD_rt, endD_nx, endD_ex, endD_ite, iterO_nx, iterO_ct, iterO_bk, iterO_rt, iniS_0, iniS_n, iniS_c, b_add, b_sub, b_mul, b_addT, b_addL, b_rep, b_div, b_mod, b_pow, b_shl, b_shr, b_band, b_bor, b_bxor, a_add, a_sub, c_lt, c_le, c_gt, c_ge, c_eqi, c_nei, c_eqb, c_neb, c_isn, c_nisn, c_isb, c_nisb, eqD_ii, eqD_tt, eqD_ll, eqDs_n, eqDs_c, pl_int, pl_non, pl_bl, pl_tup, pl_lst, all_ints, List.all_cons, List.all_nil, fmod_e, fdiv_e, isNon_non, isNon_int, isNon_tup, isNon_lst, x_idxT, x_idxL, idxO_some, at_0, at_1, at_2, at_3, at_4, at_5, at_6, at_7, i_lenT, i_lenL, i_min2, i_max2, i_max3, i_min3, i_abs, i_sumi, i_sori, i_sorTi, i_tupT, i_tupL, i_lstT, i_lstL, i_inti, i_intb, ty_ii, ty_ib, ty_bi, ty_bb, ty_tt, ty_ti, noIns_int, noIns_bl, noIns_tup, noIns_lst, noIns_non, noIns_str, seqOf_tup, seqOf_lst, it_seqT, it_seqL, Nat.reduceAdd, Nat.reduceSub, Nat.reduceMul, Nat.reduceEqDiff, Nat.reduceLeDiff, Int.reduceEq, Int.reduceNe, Int.reduceLT, Int.reduceLE, Int.reduceGT, Int.reduceGE, Int.reduceAdd, Int.reduceSub, Int.reduceMul, Int.reduceNeg, Int.reduceToNat, Int.reducePow, Int.reduceAbs, Int.cast_ofNat_Int, List.map_cons, List.map_nil, List.append_nil, List.nil_append, List.cons_append, List.length_cons, List.length_nil, List.length_map, decide_true, decide_false, decide_eq_true_eq, Bool.not_eq_true', decide_eq_false_iff_not, Bool.and_eq_true, Bool.or_eq_true, not_true_eq_false, not_false_eq_true, Bool.not_true, Bool.not_false, Bool.true_and, Bool.and_true, Bool.false_and, Bool.and_false, Bool.or_false, Bool.false_or, Bool.true_or, Bool.or_true, Bool.false_eq_true, if_true, if_false, ite_true, ite_false, reduceIte, ite_self, beq_self_eq_true, Bool.true_eq_false, rvr2, h1, h2, h3, h4, div_ok2, putD, ix20, ix21, List.set_cons_succ, List.set_cons_zero, c2]
theorem weaves3 (n : Nat) (x y z b : Nat) (hb : b ≤ 400) (hx : x < 2 ^ b) (hy : y < 2 ^ b) (hz : z < 2 ^ b) : callN P (n + 2) n_law_weaves [.int (W3 b x y z : Nat), .tup [.int x, .int y, .int z], .int b] = .ok (.bl true) := by
  rw [callN_eq P_law_weaves _ (by simp)]
  have nn : ¬ ((W3 b x y z : Nat) : Int) < 0 := by omega
  have key := for_rng (f := forT (callN P (n + 1)) false [5] (loopB b_law_weaves 4)) (g := fun k : Nat => D.int (k : Int)) (fun k ρ => ρ = [.no, .sh (.tup [.int x, .int y, .int z]), .sh (.int b), .sh (.int (W3 (b - k) (x / 2 ^ k) (y / 2 ^ k) (z / 2 ^ k) : Nat)), .ow [.int (x / 2 ^ k : Nat), .int (y / 2 ^ k : Nat), .int (z / 2 ^ k : Nat)], .no, .no]) b (ρ := [.no, .sh (.tup [.int x, .int y, .int z]), .sh (.int b), .sh (.int (W3 b x y z : Nat)), .ow [.int x, .int y, .int z], .no, .no]) (by simp) ?_
  · obtain ⟨ρ', e, rfl⟩ := key
    rw [Nat.sub_self, Nat.div_eq_of_lt hx, Nat.div_eq_of_lt hy, Nat.div_eq_of_lt hz] at e
    have z : ((W3 0 0 0 0 : Nat) : Int) = 0 := rfl
    unfold b_law_weaves at e ⊢
    simp only [bind_ok, bind_no, bind_ex, bind_ite, gd_true, getS_0, getS_s, slV_sh, slB_ow, slO_ow, setS_0, setS_s, wipe_nil, wipe_cons, frS_ow, frS_sh, frS_no, tg_one, tg_tup, setVs_nil, setVs_cons, iteD_bl, and_bl, or_bl, and_blp, or_blp, nand_blp, nor_blp, ev_var, ev_bor, ev_con, ev_glb, ev_bin, ev_neg, negD_int, ev_nt, notD_bl, ev_cmp, ev_chain, ev_and, ev_or, ev_ite, ev_tup, ev_lst, ev_idx, ev_slc, ev_rvs, rvs_L, rvs_T, ev_bi, ev_isi, lends, lent_false, ev_call, ev_nil, ev_cons, ev_none, ev_some, intD_int, evE_comp, cmpT_none, cmpT_some, compD_map, compA_nil, compA_cons, cmpC_some, cmpC_none, compA_int, goB_nx, goB_bk, goB_ct, goB_rt, goB_ex, goB_ite, xB_nil, xB_cons, getX_0, getX_s, bodyOf_for, bodyOf_while, loopB_eq, condOf_while, thenOf_ite, elseOf_ite, seg_eq, List.drop_succ_cons, List.drop_zero, List.take_succ_cons, List.take_zero, x_asg, ownD_lst, x_own, x_unp, x_aug, x_put, x_app, x_ext, x_pop, popM_app, popM_one, x_ite, x_for, forT_eq, forD_nil, forD_cons, x_ret, ret_false, ret_int, ret_bl, ret_non, ret_tup, x_retR, x_retN, x_brk, x_cnt, x_pas, x_frz, x_del, endD_rt, endD_nx, endD_ex, endD_ite, iterO_nx, iterO_ct, iterO_bk, iterO_rt, iniS_0, iniS_n, iniS_c, b_add, b_sub, b_mul, b_addT, b_addL, b_rep, b_div, b_mod, b_pow, b_shl, b_shr, b_band, b_bor, b_bxor, a_add, a_sub, c_lt, c_le, c_gt, c_ge, c_eqi, c_nei, c_eqb, c_neb, c_isn, c_nisn, c_isb, c_nisb, eqD_ii, eqD_tt, eqD_ll, eqDs_n, eqDs_c, pl_int, pl_non, pl_bl, pl_tup, pl_lst, all_ints, List.all_cons, List.all_nil, fmod_e, fdiv_e, isNon_non, isNon_int, isNon_tup, isNon_lst, x_idxT, x_idxL, idxO_some, at_0, at_1, at_2, at_3, at_4, at_5, at_6, at_7, i_lenT, i_lenL, i_min2, i_max2, i_max3, i_min3, i_abs, i_sumi, i_sori, i_sorTi, i_tupT, i_tupL, i_lstT, i_lstL, i_inti, i_intb, ty_ii, ty_ib, ty_bi, ty_bb, ty_tt, ty_ti, noIns_int, noIns_bl, noIns_tup, noIns_lst, noIns_non, noIns_str, seqOf_tup, seqOf_lst, it_seqT, it_seqL, Nat.reduceAdd, Nat.reduceSub, Nat.reduceMul, Nat.reduceEqDiff, Nat.reduceLeDiff, Int.reduceEq, Int.reduceNe, Int.reduceLT, Int.reduceLE, Int.reduceGT, Int.reduceGE, Int.reduceAdd, Int.reduceSub, Int.reduceMul, Int.reduceNeg, Int.reduceToNat, Int.reducePow, Int.reduceAbs, Int.cast_ofNat_Int, List.map_cons, List.map_nil, List.append_nil, List.nil_append, List.cons_append, List.length_cons, List.length_nil, List.length_map, decide_true, decide_false, decide_eq_true_eq, Bool.not_eq_true', decide_eq_false_iff_not, Bool.and_eq_true, Bool.or_eq_true, not_true_eq_false, not_false_eq_true, Bool.not_true, Bool.not_false, Bool.true_and, Bool.and_true, Bool.false_and, Bool.and_false, Bool.or_false, Bool.false_or, Bool.true_or, Bool.or_true, Bool.false_eq_true, if_true, if_false, ite_true, ite_false, reduceIte, ite_self, beq_self_eq_true, Bool.true_eq_false] at e
    simp only [bind_ok, bind_no, bind_ex, bind_ite, gd_true, getS_0, getS_s, slV_sh, slB_ow, slO_ow, setS_0, setS_s, wipe_nil, wipe_cons, frS_ow, frS_sh, frS_no, tg_one, tg_tup, setVs_nil, setVs_cons, iteD_bl, and_bl, or_bl, and_blp, or_blp, nand_blp, nor_blp, ev_var, ev_bor, ev_con, ev_glb, ev_bin, ev_neg, negD_int, ev_nt, notD_bl, ev_cmp, ev_chain, ev_and, ev_or, ev_ite, ev_tup, ev_lst, ev_idx, ev_slc, ev_rvs, rvs_L, rvs_T, ev_bi, ev_isi, lends, lent_false, ev_call, ev_nil, ev_cons, ev_none, ev_some, intD_int, evE_comp, cmpT_none, cmpT_some, compD_map, compA_nil, compA_cons, cmpC_some, cmpC_none, compA_int, goB_nx, goB_bk, goB_ct, goB_rt, goB_ex, goB_ite, xB_nil, xB_cons, getX_0, getX_s, bodyOf_for, bodyOf_while, loopB_eq, condOf_while, thenOf_ite, elseOf_ite, seg_eq, List.drop_succ_cons, List.drop_zero, List.take_succ_cons, List.take_zero, x_asg, ownD_lst, x_own, x_unp, x_aug, x_put, x_app, x_ext, x_pop, popM_app, popM_one, x_ite, x_for, forT_eq, forD_nil, forD_cons, x_ret, ret_false, ret_int, ret_bl, ret_non, ret_tup, x_retR, x_retN, x_brk, x_cnt, x_pas, x_frz, x_del, endD_rt, endD_nx, endD_ex, endD_ite, iterO_nx, iterO_ct, iterO_bk, iterO_rt, iniS_0, iniS_n, iniS_c, b_add, b_sub, b_mul, b_addT, b_addL, b_rep, b_div, b_mod, b_pow, b_shl, b_shr, b_band, b_bor, b_bxor, a_add, a_sub, c_lt, c_le, c_gt, c_ge, c_eqi, c_nei, c_eqb, c_neb, c_isn, c_nisn, c_isb, c_nisb, eqD_ii, eqD_tt, eqD_ll, eqDs_n, eqDs_c, pl_int, pl_non, pl_bl, pl_tup, pl_lst, all_ints, List.all_cons, List.all_nil, fmod_e, fdiv_e, isNon_non, isNon_int, isNon_tup, isNon_lst, x_idxT, x_idxL, idxO_some, at_0, at_1, at_2, at_3, at_4, at_5, at_6, at_7, i_lenT, i_lenL, i_min2, i_max2, i_max3, i_min3, i_abs, i_sumi, i_sori, i_sorTi, i_tupT, i_tupL, i_lstT, i_lstL, i_inti, i_intb, ty_ii, ty_ib, ty_bi, ty_bb, ty_tt, ty_ti, noIns_int, noIns_bl, noIns_tup, noIns_lst, noIns_non, noIns_str, seqOf_tup, seqOf_lst, it_seqT, it_seqL, Nat.reduceAdd, Nat.reduceSub, Nat.reduceMul, Nat.reduceEqDiff, Nat.reduceLeDiff, Int.reduceEq, Int.reduceNe, Int.reduceLT, Int.reduceLE, Int.reduceGT, Int.reduceGE, Int.reduceAdd, Int.reduceSub, Int.reduceMul, Int.reduceNeg, Int.reduceToNat, Int.reducePow, Int.reduceAbs, Int.cast_ofNat_Int, List.map_cons, List.map_nil, List.append_nil, List.nil_append, List.cons_append, List.length_cons, List.length_nil, List.length_map, decide_true, decide_false, decide_eq_true_eq, Bool.not_eq_true', decide_eq_false_iff_not, Bool.and_eq_true, Bool.or_eq_true, not_true_eq_false, not_false_eq_true, Bool.not_true, Bool.not_false, Bool.true_and, Bool.and_true, Bool.false_and, Bool.and_false, Bool.or_false, Bool.false_or, Bool.true_or, Bool.or_true, Bool.false_eq_true, if_true, if_false, ite_true, ite_false, reduceIte, ite_self, beq_self_eq_true, Bool.true_eq_false, law_whole_ok, nn, it_rng1n (show b < 2 ^ 62 by omega), e, z]
    have sm : biD .sum [.lst [.int 0, .int 0, .int 0]] = .ok (.int 0) := i_sumi [0, 0, 0]
    simp only [bind_ok, bind_no, bind_ex, bind_ite, gd_true, getS_0, getS_s, slV_sh, slB_ow, slO_ow, setS_0, setS_s, wipe_nil, wipe_cons, frS_ow, frS_sh, frS_no, tg_one, tg_tup, setVs_nil, setVs_cons, iteD_bl, and_bl, or_bl, and_blp, or_blp, nand_blp, nor_blp, ev_var, ev_bor, ev_con, ev_glb, ev_bin, ev_neg, negD_int, ev_nt, notD_bl, ev_cmp, ev_chain, ev_and, ev_or, ev_ite, ev_tup, ev_lst, ev_idx, ev_slc, ev_rvs, rvs_L, rvs_T, ev_bi, ev_isi, lends, lent_false, ev_call, ev_nil, ev_cons, ev_none, ev_some, intD_int, evE_comp, cmpT_none, cmpT_some, compD_map, compA_nil, compA_cons, cmpC_some, cmpC_none, compA_int, goB_nx, goB_bk, goB_ct, goB_rt, goB_ex, goB_ite, xB_nil, xB_cons, getX_0, getX_s, bodyOf_for, bodyOf_while, loopB_eq, condOf_while, thenOf_ite, elseOf_ite, seg_eq, List.drop_succ_cons, List.drop_zero, List.take_succ_cons, List.take_zero, x_asg, ownD_lst, x_own, x_unp, x_aug, x_put, x_app, x_ext, x_pop, popM_app, popM_one, x_ite, x_for, forT_eq, forD_nil, forD_cons, x_ret, ret_false, ret_int, ret_bl, ret_non, ret_tup, x_retR, x_retN, x_brk, x_cnt, x_pas, x_frz, x_del, endD_rt, endD_nx, endD_ex, endD_ite, iterO_nx, iterO_ct, iterO_bk, iterO_rt, iniS_0, iniS_n, iniS_c, b_add, b_sub, b_mul, b_addT, b_addL, b_rep, b_div, b_mod, b_pow, b_shl, b_shr, b_band, b_bor, b_bxor, a_add, a_sub, c_lt, c_le, c_gt, c_ge, c_eqi, c_nei, c_eqb, c_neb, c_isn, c_nisn, c_isb, c_nisb, eqD_ii, eqD_tt, eqD_ll, eqDs_n, eqDs_c, pl_int, pl_non, pl_bl, pl_tup, pl_lst, all_ints, List.all_cons, List.all_nil, fmod_e, fdiv_e, isNon_non, isNon_int, isNon_tup, isNon_lst, x_idxT, x_idxL, idxO_some, at_0, at_1, at_2, at_3, at_4, at_5, at_6, at_7, i_lenT, i_lenL, i_min2, i_max2, i_max3, i_min3, i_abs, i_sumi, i_sori, i_sorTi, i_tupT, i_tupL, i_lstT, i_lstL, i_inti, i_intb, ty_ii, ty_ib, ty_bi, ty_bb, ty_tt, ty_ti, noIns_int, noIns_bl, noIns_tup, noIns_lst, noIns_non, noIns_str, seqOf_tup, seqOf_lst, it_seqT, it_seqL, Nat.reduceAdd, Nat.reduceSub, Nat.reduceMul, Nat.reduceEqDiff, Nat.reduceLeDiff, Int.reduceEq, Int.reduceNe, Int.reduceLT, Int.reduceLE, Int.reduceGT, Int.reduceGE, Int.reduceAdd, Int.reduceSub, Int.reduceMul, Int.reduceNeg, Int.reduceToNat, Int.reducePow, Int.reduceAbs, Int.cast_ofNat_Int, List.map_cons, List.map_nil, List.append_nil, List.nil_append, List.cons_append, List.length_cons, List.length_nil, List.length_map, decide_true, decide_false, decide_eq_true_eq, Bool.not_eq_true', decide_eq_false_iff_not, Bool.and_eq_true, Bool.or_eq_true, not_true_eq_false, not_false_eq_true, Bool.not_true, Bool.not_false, Bool.true_and, Bool.and_true, Bool.false_and, Bool.and_false, Bool.or_false, Bool.false_or, Bool.true_or, Bool.or_true, Bool.false_eq_true, if_true, if_false, ite_true, ite_false, reduceIte, ite_self, beq_self_eq_true, Bool.true_eq_false, sm]
  · intro k ρ hk h
    subst h
    refine ⟨_, ?_, rfl⟩
    obtain ⟨m, hm⟩ : ∃ m, b - k = m + 1 := ⟨b - k - 1, by omega⟩
    rw [hm, show b - (k + 1) = m by omega, Nat.pow_succ, ← Nat.div_div_eq_div_mul, ← Nat.div_div_eq_div_mul, ← Nat.div_div_eq_div_mul]
    generalize x / 2 ^ k = x'
    generalize y / 2 ^ k = y'
    generalize z / 2 ^ k = z'
    have h1 : ((W3 (m + 1) x' y' z' : Nat) : Int) % 2 = (z' : Int) % 2 := by rw [W3]; omega
    have h2 : ((W3 (m + 1) x' y' z' : Nat) : Int) / 2 = ((y' % 2 + 2 * (x' % 2) + 4 * W3 m (x' / 2) (y' / 2) (z' / 2) : Nat) : Int) := by rw [W3]; omega
    have h3 : ((y' % 2 + 2 * (x' % 2) + 4 * W3 m (x' / 2) (y' / 2) (z' / 2) : Nat) : Int) % 2 = (y' : Int) % 2 := by omega
    have h4 : ((y' % 2 + 2 * (x' % 2) + 4 * W3 m (x' / 2) (y' / 2) (z' / 2) : Nat) : Int) / 2 = ((x' % 2 + 2 * W3 m (x' / 2) (y' / 2) (z' / 2) : Nat) : Int) := by omega
    have h5 : ((x' % 2 + 2 * W3 m (x' / 2) (y' / 2) (z' / 2) : Nat) : Int) % 2 = (x' : Int) % 2 := by omega
    have h6 : ((x' % 2 + 2 * W3 m (x' / 2) (y' / 2) (z' / 2) : Nat) : Int) / 2 = ((W3 m (x' / 2) (y' / 2) (z' / 2) : Nat) : Int) := by omega
    unfold b_law_weaves
    simp only [bind_ok, bind_no, bind_ex, bind_ite, gd_true, getS_0, getS_s, slV_sh, slB_ow, slO_ow, setS_0, setS_s, wipe_nil, wipe_cons, frS_ow, frS_sh, frS_no, tg_one, tg_tup, setVs_nil, setVs_cons, iteD_bl, and_bl, or_bl, and_blp, or_blp, nand_blp, nor_blp, ev_var, ev_bor, ev_con, ev_glb, ev_bin, ev_neg, negD_int, ev_nt, notD_bl, ev_cmp, ev_chain, ev_and, ev_or, ev_ite, ev_tup, ev_lst, ev_idx, ev_slc, ev_rvs, rvs_L, rvs_T, ev_bi, ev_isi, lends, lent_false, ev_call, ev_nil, ev_cons, ev_none, ev_some, intD_int, evE_comp, cmpT_none, cmpT_some, compD_map, compA_nil, compA_cons, cmpC_some, cmpC_none, compA_int, goB_nx, goB_bk, goB_ct, goB_rt, goB_ex, goB_ite, xB_nil, xB_cons, getX_0, getX_s, bodyOf_for, bodyOf_while, loopB_eq, condOf_while, thenOf_ite, elseOf_ite, seg_eq, List.drop_succ_cons, List.drop_zero, List.take_succ_cons, List.take_zero, x_asg, ownD_lst, x_own, x_unp, x_aug, x_put, x_app, x_ext, x_pop, popM_app, popM_one, x_ite, x_for, forT_eq, forD_nil, forD_cons, x_ret, ret_false, ret_int, ret_bl, ret_non, ret_tup, x_retR, x_retN, x_brk, x_cnt, x_pas, x_frz, x_del, endD_rt, endD_nx, endD_ex, endD_ite, iterO_nx, iterO_ct, iterO_bk, iterO_rt, iniS_0, iniS_n, iniS_c, b_add, b_sub, b_mul, b_addT, b_addL, b_rep, b_div, b_mod, b_pow, b_shl, b_shr, b_band, b_bor, b_bxor, a_add, a_sub, c_lt, c_le, c_gt, c_ge, c_eqi, c_nei, c_eqb, c_neb, c_isn, c_nisn, c_isb, c_nisb, eqD_ii, eqD_tt, eqD_ll, eqDs_n, eqDs_c, pl_int, pl_non, pl_bl, pl_tup, pl_lst, all_ints, List.all_cons, List.all_nil, fmod_e, fdiv_e, isNon_non, isNon_int, isNon_tup, isNon_lst, x_idxT, x_idxL, idxO_some, at_0, at_1, at_2, at_3, at_4, at_5, at_6, at_7, i_lenT, i_lenL, i_min2, i_max2, i_max3, i_min3, i_abs, i_sumi, i_sori, i_sorTi, i_tupT, i_tupL, i_lstT, i_lstL, i_inti, i_intb, ty_ii, ty_ib, ty_bi, ty_bb, ty_tt, ty_ti, noIns_int, noIns_bl, noIns_tup, noIns_lst, noIns_non, noIns_str, seqOf_tup, seqOf_lst, it_seqT, it_seqL, Nat.reduceAdd, Nat.reduceSub, Nat.reduceMul, Nat.reduceEqDiff, Nat.reduceLeDiff, Int.reduceEq, Int.reduceNe, Int.reduceLT, Int.reduceLE, Int.reduceGT, Int.reduceGE, Int.reduceAdd, Int.reduceSub, Int.reduceMul, Int.reduceNeg, Int.reduceToNat, Int.reducePow, Int.reduceAbs, Int.cast_ofNat_Int, List.map_cons, List.map_nil, List.append_nil, List.nil_append, List.cons_append, List.length_cons, List.length_nil, List.length_map, decide_true, decide_false, decide_eq_true_eq, Bool.not_eq_true', decide_eq_false_iff_not, Bool.and_eq_true, Bool.or_eq_true, not_true_eq_false, not_false_eq_true, Bool.not_true, Bool.not_false, Bool.true_and, Bool.and_true, Bool.false_and, Bool.and_false, Bool.or_false, Bool.false_or, Bool.true_or, Bool.or_true, Bool.false_eq_true, if_true, if_false, ite_true, ite_false, reduceIte, ite_self, beq_self_eq_true, Bool.true_eq_false, rvr3, h1, h2, h3, h4, h5, h6, div_ok2, putD, ix30, ix31, ix32, List.set_cons_succ, List.set_cons_zero, c2]
theorem cell_at_i (n : Nat) (ns : List Int) {i : Int} (h : 0 ≤ i) : callN P (n + 1) n_law_cell_at [.lst (ns.map D.int), .int i] = .ok (.int (cell ns i.toNat)) := by
  rw [callN_eq P_law_cell_at _ (by simp)]
  obtain ⟨k, rfl⟩ : ∃ k : Nat, i = k := ⟨i.toNat, by omega⟩
  rw [Int.toNat_natCast]
  unfold b_law_cell_at cell
  by_cases h : k < ns.length
  · have h' : (k : Int) < (ns.length : Int) := by omega
    simp only [bind_ok, bind_no, bind_ex, bind_ite, gd_true, getS_0, getS_s, slV_sh, slB_ow, slO_ow, setS_0, setS_s, wipe_nil, wipe_cons, frS_ow, frS_sh, frS_no, tg_one, tg_tup, setVs_nil, setVs_cons, iteD_bl, and_bl, or_bl, and_blp, or_blp, nand_blp, nor_blp, ev_var, ev_bor, ev_con, ev_glb, ev_bin, ev_neg, negD_int, ev_nt, notD_bl, ev_cmp, ev_chain, ev_and, ev_or, ev_ite, ev_tup, ev_lst, ev_idx, ev_slc, ev_rvs, rvs_L, rvs_T, ev_bi, ev_isi, lends, lent_false, ev_call, ev_nil, ev_cons, ev_none, ev_some, intD_int, evE_comp, cmpT_none, cmpT_some, compD_map, compA_nil, compA_cons, cmpC_some, cmpC_none, compA_int, goB_nx, goB_bk, goB_ct, goB_rt, goB_ex, goB_ite, xB_nil, xB_cons, getX_0, getX_s, bodyOf_for, bodyOf_while, loopB_eq, condOf_while, thenOf_ite, elseOf_ite, seg_eq, List.drop_succ_cons, List.drop_zero, List.take_succ_cons, List.take_zero, x_asg, ownD_lst, x_own, x_unp, x_aug, x_put, x_app, x_ext, x_pop, popM_app, popM_one, x_ite, x_for, forT_eq, forD_nil, forD_cons, x_ret, ret_false, ret_int, ret_bl, ret_non, ret_tup, x_retR, x_retN, x_brk, x_cnt, x_pas, x_frz, x_del, endD_rt, endD_nx, endD_ex, endD_ite, iterO_nx, iterO_ct, iterO_bk, iterO_rt, iniS_0, iniS_n, iniS_c, b_add, b_sub, b_mul, b_addT, b_addL, b_rep, b_div, b_mod, b_pow, b_shl, b_shr, b_band, b_bor, b_bxor, a_add, a_sub, c_lt, c_le, c_gt, c_ge, c_eqi, c_nei, c_eqb, c_neb, c_isn, c_nisn, c_isb, c_nisb, eqD_ii, eqD_tt, eqD_ll, eqDs_n, eqDs_c, pl_int, pl_non, pl_bl, pl_tup, pl_lst, all_ints, List.all_cons, List.all_nil, fmod_e, fdiv_e, isNon_non, isNon_int, isNon_tup, isNon_lst, x_idxT, x_idxL, idxO_some, at_0, at_1, at_2, at_3, at_4, at_5, at_6, at_7, i_lenT, i_lenL, i_min2, i_max2, i_max3, i_min3, i_abs, i_sumi, i_sori, i_sorTi, i_tupT, i_tupL, i_lstT, i_lstL, i_inti, i_intb, ty_ii, ty_ib, ty_bi, ty_bb, ty_tt, ty_ti, noIns_int, noIns_bl, noIns_tup, noIns_lst, noIns_non, noIns_str, seqOf_tup, seqOf_lst, it_seqT, it_seqL, Nat.reduceAdd, Nat.reduceSub, Nat.reduceMul, Nat.reduceEqDiff, Nat.reduceLeDiff, Int.reduceEq, Int.reduceNe, Int.reduceLT, Int.reduceLE, Int.reduceGT, Int.reduceGE, Int.reduceAdd, Int.reduceSub, Int.reduceMul, Int.reduceNeg, Int.reduceToNat, Int.reducePow, Int.reduceAbs, Int.cast_ofNat_Int, List.map_cons, List.map_nil, List.append_nil, List.nil_append, List.cons_append, List.length_cons, List.length_nil, List.length_map, decide_true, decide_false, decide_eq_true_eq, Bool.not_eq_true', decide_eq_false_iff_not, Bool.and_eq_true, Bool.or_eq_true, not_true_eq_false, not_false_eq_true, Bool.not_true, Bool.not_false, Bool.true_and, Bool.and_true, Bool.false_and, Bool.and_false, Bool.or_false, Bool.false_or, Bool.true_or, Bool.or_true, Bool.false_eq_true, if_true, if_false, ite_true, ite_false, reduceIte, ite_self, beq_self_eq_true, Bool.true_eq_false, h', at_map, atI_getD h, Option.map_some]
  · have h' : ¬ (k : Int) < (ns.length : Int) := by omega
    simp only [bind_ok, bind_no, bind_ex, bind_ite, gd_true, getS_0, getS_s, slV_sh, slB_ow, slO_ow, setS_0, setS_s, wipe_nil, wipe_cons, frS_ow, frS_sh, frS_no, tg_one, tg_tup, setVs_nil, setVs_cons, iteD_bl, and_bl, or_bl, and_blp, or_blp, nand_blp, nor_blp, ev_var, ev_bor, ev_con, ev_glb, ev_bin, ev_neg, negD_int, ev_nt, notD_bl, ev_cmp, ev_chain, ev_and, ev_or, ev_ite, ev_tup, ev_lst, ev_idx, ev_slc, ev_rvs, rvs_L, rvs_T, ev_bi, ev_isi, lends, lent_false, ev_call, ev_nil, ev_cons, ev_none, ev_some, intD_int, evE_comp, cmpT_none, cmpT_some, compD_map, compA_nil, compA_cons, cmpC_some, cmpC_none, compA_int, goB_nx, goB_bk, goB_ct, goB_rt, goB_ex, goB_ite, xB_nil, xB_cons, getX_0, getX_s, bodyOf_for, bodyOf_while, loopB_eq, condOf_while, thenOf_ite, elseOf_ite, seg_eq, List.drop_succ_cons, List.drop_zero, List.take_succ_cons, List.take_zero, x_asg, ownD_lst, x_own, x_unp, x_aug, x_put, x_app, x_ext, x_pop, popM_app, popM_one, x_ite, x_for, forT_eq, forD_nil, forD_cons, x_ret, ret_false, ret_int, ret_bl, ret_non, ret_tup, x_retR, x_retN, x_brk, x_cnt, x_pas, x_frz, x_del, endD_rt, endD_nx, endD_ex, endD_ite, iterO_nx, iterO_ct, iterO_bk, iterO_rt, iniS_0, iniS_n, iniS_c, b_add, b_sub, b_mul, b_addT, b_addL, b_rep, b_div, b_mod, b_pow, b_shl, b_shr, b_band, b_bor, b_bxor, a_add, a_sub, c_lt, c_le, c_gt, c_ge, c_eqi, c_nei, c_eqb, c_neb, c_isn, c_nisn, c_isb, c_nisb, eqD_ii, eqD_tt, eqD_ll, eqDs_n, eqDs_c, pl_int, pl_non, pl_bl, pl_tup, pl_lst, all_ints, List.all_cons, List.all_nil, fmod_e, fdiv_e, isNon_non, isNon_int, isNon_tup, isNon_lst, x_idxT, x_idxL, idxO_some, at_0, at_1, at_2, at_3, at_4, at_5, at_6, at_7, i_lenT, i_lenL, i_min2, i_max2, i_max3, i_min3, i_abs, i_sumi, i_sori, i_sorTi, i_tupT, i_tupL, i_lstT, i_lstL, i_inti, i_intb, ty_ii, ty_ib, ty_bi, ty_bb, ty_tt, ty_ti, noIns_int, noIns_bl, noIns_tup, noIns_lst, noIns_non, noIns_str, seqOf_tup, seqOf_lst, it_seqT, it_seqL, Nat.reduceAdd, Nat.reduceSub, Nat.reduceMul, Nat.reduceEqDiff, Nat.reduceLeDiff, Int.reduceEq, Int.reduceNe, Int.reduceLT, Int.reduceLE, Int.reduceGT, Int.reduceGE, Int.reduceAdd, Int.reduceSub, Int.reduceMul, Int.reduceNeg, Int.reduceToNat, Int.reducePow, Int.reduceAbs, Int.cast_ofNat_Int, List.map_cons, List.map_nil, List.append_nil, List.nil_append, List.cons_append, List.length_cons, List.length_nil, List.length_map, decide_true, decide_false, decide_eq_true_eq, Bool.not_eq_true', decide_eq_false_iff_not, Bool.and_eq_true, Bool.or_eq_true, not_true_eq_false, not_false_eq_true, Bool.not_true, Bool.not_false, Bool.true_and, Bool.and_true, Bool.false_and, Bool.and_false, Bool.or_false, Bool.false_or, Bool.true_or, Bool.or_true, Bool.false_eq_true, if_true, if_false, ite_true, ite_false, reduceIte, ite_self, beq_self_eq_true, Bool.true_eq_false, h']
    rw [List.getD_eq_getElem?_getD, List.getElem?_eq_none (by omega)]; rfl
theorem law_bits_ok (n : Nat) (c : Int) : ∃ b : Nat, b ≤ 110 ∧ callN P (n + 1) n_law_bits [.int c] = .ok (.int (b : Int)) := by
  rw [callN_eq P_law_bits _ (by simp)]
  have d5 : divOk 5 = true := by decide
  have m1 := emod_bd (c / 5) 4 (by decide)
  have m2 := emod_bd (c / 5) 111 (by decide)
  have m3 := emod_bd (c / 5) 16 (by decide)
  unfold b_law_bits
  by_cases h1 : c % 5 = 0
  · have : c / 5 % 4 = 0 ∨ c / 5 % 4 = 1 ∨ c / 5 % 4 = 2 ∨ c / 5 % 4 = 3 := by omega
    rcases this with h | h | h | h
    · exact ⟨2, by omega, by simp only [bind_ok, bind_no, bind_ex, bind_ite, gd_true, getS_0, getS_s, slV_sh, slB_ow, slO_ow, setS_0, setS_s, wipe_nil, wipe_cons, frS_ow, frS_sh, frS_no, tg_one, tg_tup, setVs_nil, setVs_cons, iteD_bl, and_bl, or_bl, and_blp, or_blp, nand_blp, nor_blp, ev_var, ev_bor, ev_con, ev_glb, ev_bin, ev_neg, negD_int, ev_nt, notD_bl, ev_cmp, ev_chain, ev_and, ev_or, ev_ite, ev_tup, ev_lst, ev_idx, ev_slc, ev_rvs, rvs_L, rvs_T, ev_bi, ev_isi, lends, lent_false, ev_call, ev_nil, ev_cons, ev_none, ev_some, intD_int, evE_comp, cmpT_none, cmpT_some, compD_map, compA_nil, compA_cons, cmpC_some, cmpC_none, compA_int, goB_nx, goB_bk, goB_ct, goB_rt, goB_ex, goB_ite, xB_nil, xB_cons, getX_0, getX_s, bodyOf_for, bodyOf_while, loopB_eq, condOf_while, thenOf_ite, elseOf_ite, seg_eq, List.drop_succ_cons, List.drop_zero, List.take_succ_cons, List.take_zero, x_asg, ownD_lst, x_own, x_unp, x_aug, x_put, x_app, x_ext, x_pop, popM_app, popM_one, x_ite, x_for, forT_eq, forD_nil, forD_cons, x_ret, ret_false, ret_int, ret_bl, ret_non, ret_tup, x_retR, x_retN, x_brk, x_cnt, x_pas, x_frz, x_del, endD_rt, endD_nx, endD_ex, endD_ite, iterO_nx, iterO_ct, iterO_bk, iterO_rt, iniS_0, iniS_n, iniS_c, b_add, b_sub, b_mul, b_addT, b_addL, b_rep, b_div, b_mod, b_pow, b_shl, b_shr, b_band, b_bor, b_bxor, a_add, a_sub, c_lt, c_le, c_gt, c_ge, c_eqi, c_nei, c_eqb, c_neb, c_isn, c_nisn, c_isb, c_nisb, eqD_ii, eqD_tt, eqD_ll, eqDs_n, eqDs_c, pl_int, pl_non, pl_bl, pl_tup, pl_lst, all_ints, List.all_cons, List.all_nil, fmod_e, fdiv_e, isNon_non, isNon_int, isNon_tup, isNon_lst, x_idxT, x_idxL, idxO_some, at_0, at_1, at_2, at_3, at_4, at_5, at_6, at_7, i_lenT, i_lenL, i_min2, i_max2, i_max3, i_min3, i_abs, i_sumi, i_sori, i_sorTi, i_tupT, i_tupL, i_lstT, i_lstL, i_inti, i_intb, ty_ii, ty_ib, ty_bi, ty_bb, ty_tt, ty_ti, noIns_int, noIns_bl, noIns_tup, noIns_lst, noIns_non, noIns_str, seqOf_tup, seqOf_lst, it_seqT, it_seqL, Nat.reduceAdd, Nat.reduceSub, Nat.reduceMul, Nat.reduceEqDiff, Nat.reduceLeDiff, Int.reduceEq, Int.reduceNe, Int.reduceLT, Int.reduceLE, Int.reduceGT, Int.reduceGE, Int.reduceAdd, Int.reduceSub, Int.reduceMul, Int.reduceNeg, Int.reduceToNat, Int.reducePow, Int.reduceAbs, Int.cast_ofNat_Int, List.map_cons, List.map_nil, List.append_nil, List.nil_append, List.cons_append, List.length_cons, List.length_nil, List.length_map, decide_true, decide_false, decide_eq_true_eq, Bool.not_eq_true', decide_eq_false_iff_not, Bool.and_eq_true, Bool.or_eq_true, not_true_eq_false, not_false_eq_true, Bool.not_true, Bool.not_false, Bool.true_and, Bool.and_true, Bool.false_and, Bool.and_false, Bool.or_false, Bool.false_or, Bool.true_or, Bool.or_true, Bool.false_eq_true, if_true, if_false, ite_true, ite_false, reduceIte, ite_self, beq_self_eq_true, Bool.true_eq_false, d5, h1, h]⟩
    · exact ⟨0, by omega, by simp only [bind_ok, bind_no, bind_ex, bind_ite, gd_true, getS_0, getS_s, slV_sh, slB_ow, slO_ow, setS_0, setS_s, wipe_nil, wipe_cons, frS_ow, frS_sh, frS_no, tg_one, tg_tup, setVs_nil, setVs_cons, iteD_bl, and_bl, or_bl, and_blp, or_blp, nand_blp, nor_blp, ev_var, ev_bor, ev_con, ev_glb, ev_bin, ev_neg, negD_int, ev_nt, notD_bl, ev_cmp, ev_chain, ev_and, ev_or, ev_ite, ev_tup, ev_lst, ev_idx, ev_slc, ev_rvs, rvs_L, rvs_T, ev_bi, ev_isi, lends, lent_false, ev_call, ev_nil, ev_cons, ev_none, ev_some, intD_int, evE_comp, cmpT_none, cmpT_some, compD_map, compA_nil, compA_cons, cmpC_some, cmpC_none, compA_int, goB_nx, goB_bk, goB_ct, goB_rt, goB_ex, goB_ite, xB_nil, xB_cons, getX_0, getX_s, bodyOf_for, bodyOf_while, loopB_eq, condOf_while, thenOf_ite, elseOf_ite, seg_eq, List.drop_succ_cons, List.drop_zero, List.take_succ_cons, List.take_zero, x_asg, ownD_lst, x_own, x_unp, x_aug, x_put, x_app, x_ext, x_pop, popM_app, popM_one, x_ite, x_for, forT_eq, forD_nil, forD_cons, x_ret, ret_false, ret_int, ret_bl, ret_non, ret_tup, x_retR, x_retN, x_brk, x_cnt, x_pas, x_frz, x_del, endD_rt, endD_nx, endD_ex, endD_ite, iterO_nx, iterO_ct, iterO_bk, iterO_rt, iniS_0, iniS_n, iniS_c, b_add, b_sub, b_mul, b_addT, b_addL, b_rep, b_div, b_mod, b_pow, b_shl, b_shr, b_band, b_bor, b_bxor, a_add, a_sub, c_lt, c_le, c_gt, c_ge, c_eqi, c_nei, c_eqb, c_neb, c_isn, c_nisn, c_isb, c_nisb, eqD_ii, eqD_tt, eqD_ll, eqDs_n, eqDs_c, pl_int, pl_non, pl_bl, pl_tup, pl_lst, all_ints, List.all_cons, List.all_nil, fmod_e, fdiv_e, isNon_non, isNon_int, isNon_tup, isNon_lst, x_idxT, x_idxL, idxO_some, at_0, at_1, at_2, at_3, at_4, at_5, at_6, at_7, i_lenT, i_lenL, i_min2, i_max2, i_max3, i_min3, i_abs, i_sumi, i_sori, i_sorTi, i_tupT, i_tupL, i_lstT, i_lstL, i_inti, i_intb, ty_ii, ty_ib, ty_bi, ty_bb, ty_tt, ty_ti, noIns_int, noIns_bl, noIns_tup, noIns_lst, noIns_non, noIns_str, seqOf_tup, seqOf_lst, it_seqT, it_seqL, Nat.reduceAdd, Nat.reduceSub, Nat.reduceMul, Nat.reduceEqDiff, Nat.reduceLeDiff, Int.reduceEq, Int.reduceNe, Int.reduceLT, Int.reduceLE, Int.reduceGT, Int.reduceGE, Int.reduceAdd, Int.reduceSub, Int.reduceMul, Int.reduceNeg, Int.reduceToNat, Int.reducePow, Int.reduceAbs, Int.cast_ofNat_Int, List.map_cons, List.map_nil, List.append_nil, List.nil_append, List.cons_append, List.length_cons, List.length_nil, List.length_map, decide_true, decide_false, decide_eq_true_eq, Bool.not_eq_true', decide_eq_false_iff_not, Bool.and_eq_true, Bool.or_eq_true, not_true_eq_false, not_false_eq_true, Bool.not_true, Bool.not_false, Bool.true_and, Bool.and_true, Bool.false_and, Bool.and_false, Bool.or_false, Bool.false_or, Bool.true_or, Bool.or_true, Bool.false_eq_true, if_true, if_false, ite_true, ite_false, reduceIte, ite_self, beq_self_eq_true, Bool.true_eq_false, d5, h1, h]⟩
    · exact ⟨1, by omega, by simp only [bind_ok, bind_no, bind_ex, bind_ite, gd_true, getS_0, getS_s, slV_sh, slB_ow, slO_ow, setS_0, setS_s, wipe_nil, wipe_cons, frS_ow, frS_sh, frS_no, tg_one, tg_tup, setVs_nil, setVs_cons, iteD_bl, and_bl, or_bl, and_blp, or_blp, nand_blp, nor_blp, ev_var, ev_bor, ev_con, ev_glb, ev_bin, ev_neg, negD_int, ev_nt, notD_bl, ev_cmp, ev_chain, ev_and, ev_or, ev_ite, ev_tup, ev_lst, ev_idx, ev_slc, ev_rvs, rvs_L, rvs_T, ev_bi, ev_isi, lends, lent_false, ev_call, ev_nil, ev_cons, ev_none, ev_some, intD_int, evE_comp, cmpT_none, cmpT_some, compD_map, compA_nil, compA_cons, cmpC_some, cmpC_none, compA_int, goB_nx, goB_bk, goB_ct, goB_rt, goB_ex, goB_ite, xB_nil, xB_cons, getX_0, getX_s, bodyOf_for, bodyOf_while, loopB_eq, condOf_while, thenOf_ite, elseOf_ite, seg_eq, List.drop_succ_cons, List.drop_zero, List.take_succ_cons, List.take_zero, x_asg, ownD_lst, x_own, x_unp, x_aug, x_put, x_app, x_ext, x_pop, popM_app, popM_one, x_ite, x_for, forT_eq, forD_nil, forD_cons, x_ret, ret_false, ret_int, ret_bl, ret_non, ret_tup, x_retR, x_retN, x_brk, x_cnt, x_pas, x_frz, x_del, endD_rt, endD_nx, endD_ex, endD_ite, iterO_nx, iterO_ct, iterO_bk, iterO_rt, iniS_0, iniS_n, iniS_c, b_add, b_sub, b_mul, b_addT, b_addL, b_rep, b_div, b_mod, b_pow, b_shl, b_shr, b_band, b_bor, b_bxor, a_add, a_sub, c_lt, c_le, c_gt, c_ge, c_eqi, c_nei, c_eqb, c_neb, c_isn, c_nisn, c_isb, c_nisb, eqD_ii, eqD_tt, eqD_ll, eqDs_n, eqDs_c, pl_int, pl_non, pl_bl, pl_tup, pl_lst, all_ints, List.all_cons, List.all_nil, fmod_e, fdiv_e, isNon_non, isNon_int, isNon_tup, isNon_lst, x_idxT, x_idxL, idxO_some, at_0, at_1, at_2, at_3, at_4, at_5, at_6, at_7, i_lenT, i_lenL, i_min2, i_max2, i_max3, i_min3, i_abs, i_sumi, i_sori, i_sorTi, i_tupT, i_tupL, i_lstT, i_lstL, i_inti, i_intb, ty_ii, ty_ib, ty_bi, ty_bb, ty_tt, ty_ti, noIns_int, noIns_bl, noIns_tup, noIns_lst, noIns_non, noIns_str, seqOf_tup, seqOf_lst, it_seqT, it_seqL, Nat.reduceAdd, Nat.reduceSub, Nat.reduceMul, Nat.reduceEqDiff, Nat.reduceLeDiff, Int.reduceEq, Int.reduceNe, Int.reduceLT, Int.reduceLE, Int.reduceGT, Int.reduceGE, Int.reduceAdd, Int.reduceSub, Int.reduceMul, Int.reduceNeg, Int.reduceToNat, Int.reducePow, Int.reduceAbs, Int.cast_ofNat_Int, List.map_cons, List.map_nil, List.append_nil, List.nil_append, List.cons_append, List.length_cons, List.length_nil, List.length_map, decide_true, decide_false, decide_eq_true_eq, Bool.not_eq_true', decide_eq_false_iff_not, Bool.and_eq_true, Bool.or_eq_true, not_true_eq_false, not_false_eq_true, Bool.not_true, Bool.not_false, Bool.true_and, Bool.and_true, Bool.false_and, Bool.and_false, Bool.or_false, Bool.false_or, Bool.true_or, Bool.or_true, Bool.false_eq_true, if_true, if_false, ite_true, ite_false, reduceIte, ite_self, beq_self_eq_true, Bool.true_eq_false, d5, h1, h]⟩
    · exact ⟨110, by omega, by simp only [bind_ok, bind_no, bind_ex, bind_ite, gd_true, getS_0, getS_s, slV_sh, slB_ow, slO_ow, setS_0, setS_s, wipe_nil, wipe_cons, frS_ow, frS_sh, frS_no, tg_one, tg_tup, setVs_nil, setVs_cons, iteD_bl, and_bl, or_bl, and_blp, or_blp, nand_blp, nor_blp, ev_var, ev_bor, ev_con, ev_glb, ev_bin, ev_neg, negD_int, ev_nt, notD_bl, ev_cmp, ev_chain, ev_and, ev_or, ev_ite, ev_tup, ev_lst, ev_idx, ev_slc, ev_rvs, rvs_L, rvs_T, ev_bi, ev_isi, lends, lent_false, ev_call, ev_nil, ev_cons, ev_none, ev_some, intD_int, evE_comp, cmpT_none, cmpT_some, compD_map, compA_nil, compA_cons, cmpC_some, cmpC_none, compA_int, goB_nx, goB_bk, goB_ct, goB_rt, goB_ex, goB_ite, xB_nil, xB_cons, getX_0, getX_s, bodyOf_for, bodyOf_while, loopB_eq, condOf_while, thenOf_ite, elseOf_ite, seg_eq, List.drop_succ_cons, List.drop_zero, List.take_succ_cons, List.take_zero, x_asg, ownD_lst, x_own, x_unp, x_aug, x_put, x_app, x_ext, x_pop, popM_app, popM_one, x_ite, x_for, forT_eq, forD_nil, forD_cons, x_ret, ret_false, ret_int, ret_bl, ret_non, ret_tup, x_retR, x_retN, x_brk, x_cnt, x_pas, x_frz, x_del, endD_rt, endD_nx, endD_ex, endD_ite, iterO_nx, iterO_ct, iterO_bk, iterO_rt, iniS_0, iniS_n, iniS_c, b_add, b_sub, b_mul, b_addT, b_addL, b_rep, b_div, b_mod, b_pow, b_shl, b_shr, b_band, b_bor, b_bxor, a_add, a_sub, c_lt, c_le, c_gt, c_ge, c_eqi, c_nei, c_eqb, c_neb, c_isn, c_nisn, c_isb, c_nisb, eqD_ii, eqD_tt, eqD_ll, eqDs_n, eqDs_c, pl_int, pl_non, pl_bl, pl_tup, pl_lst, all_ints, List.all_cons, List.all_nil, fmod_e, fdiv_e, isNon_non, isNon_int, isNon_tup, isNon_lst, x_idxT, x_idxL, idxO_some, at_0, at_1, at_2, at_3, at_4, at_5, at_6, at_7, i_lenT, i_lenL, i_min2, i_max2, i_max3, i_min3, i_abs, i_sumi, i_sori, i_sorTi, i_tupT, i_tupL, i_lstT, i_lstL, i_inti, i_intb, ty_ii, ty_ib, ty_bi, ty_bb, ty_tt, ty_ti, noIns_int, noIns_bl, noIns_tup, noIns_lst, noIns_non, noIns_str, seqOf_tup, seqOf_lst, it_seqT, it_seqL, Nat.reduceAdd, Nat.reduceSub, Nat.reduceMul, Nat.reduceEqDiff, Nat.reduceLeDiff, Int.reduceEq, Int.reduceNe, Int.reduceLT, Int.reduceLE, Int.reduceGT, Int.reduceGE, Int.reduceAdd, Int.reduceSub, Int.reduceMul, Int.reduceNeg, Int.reduceToNat, Int.reducePow, Int.reduceAbs, Int.cast_ofNat_Int, List.map_cons, List.map_nil, List.append_nil, List.nil_append, List.cons_append, List.length_cons, List.length_nil, List.length_map, decide_true, decide_false, decide_eq_true_eq, Bool.not_eq_true', decide_eq_false_iff_not, Bool.and_eq_true, Bool.or_eq_true, not_true_eq_false, not_false_eq_true, Bool.not_true, Bool.not_false, Bool.true_and, Bool.and_true, Bool.false_and, Bool.and_false, Bool.or_false, Bool.false_or, Bool.true_or, Bool.or_true, Bool.false_eq_true, if_true, if_false, ite_true, ite_false, reduceIte, ite_self, beq_self_eq_true, Bool.true_eq_false, d5, h1, h]⟩
  · by_cases h2 : c % 5 = 1
    · exact ⟨(c / 5 % 111).toNat, by omega, by simp only [bind_ok, bind_no, bind_ex, bind_ite, gd_true, getS_0, getS_s, slV_sh, slB_ow, slO_ow, setS_0, setS_s, wipe_nil, wipe_cons, frS_ow, frS_sh, frS_no, tg_one, tg_tup, setVs_nil, setVs_cons, iteD_bl, and_bl, or_bl, and_blp, or_blp, nand_blp, nor_blp, ev_var, ev_bor, ev_con, ev_glb, ev_bin, ev_neg, negD_int, ev_nt, notD_bl, ev_cmp, ev_chain, ev_and, ev_or, ev_ite, ev_tup, ev_lst, ev_idx, ev_slc, ev_rvs, rvs_L, rvs_T, ev_bi, ev_isi, lends, lent_false, ev_call, ev_nil, ev_cons, ev_none, ev_some, intD_int, evE_comp, cmpT_none, cmpT_some, compD_map, compA_nil, compA_cons, cmpC_some, cmpC_none, compA_int, goB_nx, goB_bk, goB_ct, goB_rt, goB_ex, goB_ite, xB_nil, xB_cons, getX_0, getX_s, bodyOf_for, bodyOf_while, loopB_eq, condOf_while, thenOf_ite, elseOf_ite, seg_eq, List.drop_succ_cons, List.drop_zero, List.take_succ_cons, List.take_zero, x_asg, ownD_lst, x_own, x_unp, x_aug, x_put, x_app, x_ext, x_pop, popM_app, popM_one, x_ite, x_for, forT_eq, forD_nil, forD_cons, x_ret, ret_false, ret_int, ret_bl, ret_non, ret_tup, x_retR, x_retN, x_brk, x_cnt, x_pas, x_frz, x_del, endD_rt, endD_nx, endD_ex, endD_ite, iterO_nx, iterO_ct, iterO_bk, iterO_rt, iniS_0, iniS_n, iniS_c, b_add, b_sub, b_mul, b_addT, b_addL, b_rep, b_div, b_mod, b_pow, b_shl, b_shr, b_band, b_bor, b_bxor, a_add, a_sub, c_lt, c_le, c_gt, c_ge, c_eqi, c_nei, c_eqb, c_neb, c_isn, c_nisn, c_isb, c_nisb, eqD_ii, eqD_tt, eqD_ll, eqDs_n, eqDs_c, pl_int, pl_non, pl_bl, pl_tup, pl_lst, all_ints, List.all_cons, List.all_nil, fmod_e, fdiv_e, isNon_non, isNon_int, isNon_tup, isNon_lst, x_idxT, x_idxL, idxO_some, at_0, at_1, at_2, at_3, at_4, at_5, at_6, at_7, i_lenT, i_lenL, i_min2, i_max2, i_max3, i_min3, i_abs, i_sumi, i_sori, i_sorTi, i_tupT, i_tupL, i_lstT, i_lstL, i_inti, i_intb, ty_ii, ty_ib, ty_bi, ty_bb, ty_tt, ty_ti, noIns_int, noIns_bl, noIns_tup, noIns_lst, noIns_non, noIns_str, seqOf_tup, seqOf_lst, it_seqT, it_seqL, Nat.reduceAdd, Nat.reduceSub, Nat.reduceMul, Nat.reduceEqDiff, Nat.reduceLeDiff, Int.reduceEq, Int.reduceNe, Int.reduceLT, Int.reduceLE, Int.reduceGT, Int.reduceGE, Int.reduceAdd, Int.reduceSub, Int.reduceMul, Int.reduceNeg, Int.reduceToNat, Int.reducePow, Int.reduceAbs, Int.cast_ofNat_Int, List.map_cons, List.map_nil, List.append_nil, List.nil_append, List.cons_append, List.length_cons, List.length_nil, List.length_map, decide_true, decide_false, decide_eq_true_eq, Bool.not_eq_true', decide_eq_false_iff_not, Bool.and_eq_true, Bool.or_eq_true, not_true_eq_false, not_false_eq_true, Bool.not_true, Bool.not_false, Bool.true_and, Bool.and_true, Bool.false_and, Bool.and_false, Bool.or_false, Bool.false_or, Bool.true_or, Bool.or_true, Bool.false_eq_true, if_true, if_false, ite_true, ite_false, reduceIte, ite_self, beq_self_eq_true, Bool.true_eq_false, d5, h1, h2]; rw [Int.toNat_of_nonneg m2.1]⟩
    · exact ⟨(1 + c / 5 % 16).toNat, by omega, by simp only [bind_ok, bind_no, bind_ex, bind_ite, gd_true, getS_0, getS_s, slV_sh, slB_ow, slO_ow, setS_0, setS_s, wipe_nil, wipe_cons, frS_ow, frS_sh, frS_no, tg_one, tg_tup, setVs_nil, setVs_cons, iteD_bl, and_bl, or_bl, and_blp, or_blp, nand_blp, nor_blp, ev_var, ev_bor, ev_con, ev_glb, ev_bin, ev_neg, negD_int, ev_nt, notD_bl, ev_cmp, ev_chain, ev_and, ev_or, ev_ite, ev_tup, ev_lst, ev_idx, ev_slc, ev_rvs, rvs_L, rvs_T, ev_bi, ev_isi, lends, lent_false, ev_call, ev_nil, ev_cons, ev_none, ev_some, intD_int, evE_comp, cmpT_none, cmpT_some, compD_map, compA_nil, compA_cons, cmpC_some, cmpC_none, compA_int, goB_nx, goB_bk, goB_ct, goB_rt, goB_ex, goB_ite, xB_nil, xB_cons, getX_0, getX_s, bodyOf_for, bodyOf_while, loopB_eq, condOf_while, thenOf_ite, elseOf_ite, seg_eq, List.drop_succ_cons, List.drop_zero, List.take_succ_cons, List.take_zero, x_asg, ownD_lst, x_own, x_unp, x_aug, x_put, x_app, x_ext, x_pop, popM_app, popM_one, x_ite, x_for, forT_eq, forD_nil, forD_cons, x_ret, ret_false, ret_int, ret_bl, ret_non, ret_tup, x_retR, x_retN, x_brk, x_cnt, x_pas, x_frz, x_del, endD_rt, endD_nx, endD_ex, endD_ite, iterO_nx, iterO_ct, iterO_bk, iterO_rt, iniS_0, iniS_n, iniS_c, b_add, b_sub, b_mul, b_addT, b_addL, b_rep, b_div, b_mod, b_pow, b_shl, b_shr, b_band, b_bor, b_bxor, a_add, a_sub, c_lt, c_le, c_gt, c_ge, c_eqi, c_nei, c_eqb, c_neb, c_isn, c_nisn, c_isb, c_nisb, eqD_ii, eqD_tt, eqD_ll, eqDs_n, eqDs_c, pl_int, pl_non, pl_bl, pl_tup, pl_lst, all_ints, List.all_cons, List.all_nil, fmod_e, fdiv_e, isNon_non, isNon_int, isNon_tup, isNon_lst, x_idxT, x_idxL, idxO_some, at_0, at_1, at_2, at_3, at_4, at_5, at_6, at_7, i_lenT, i_lenL, i_min2, i_max2, i_max3, i_min3, i_abs, i_sumi, i_sori, i_sorTi, i_tupT, i_tupL, i_lstT, i_lstL, i_inti, i_intb, ty_ii, ty_ib, ty_bi, ty_bb, ty_tt, ty_ti, noIns_int, noIns_bl, noIns_tup, noIns_lst, noIns_non, noIns_str, seqOf_tup, seqOf_lst, it_seqT, it_seqL, Nat.reduceAdd, Nat.reduceSub, Nat.reduceMul, Nat.reduceEqDiff, Nat.reduceLeDiff, Int.reduceEq, Int.reduceNe, Int.reduceLT, Int.reduceLE, Int.reduceGT, Int.reduceGE, Int.reduceAdd, Int.reduceSub, Int.reduceMul, Int.reduceNeg, Int.reduceToNat, Int.reducePow, Int.reduceAbs, Int.cast_ofNat_Int, List.map_cons, List.map_nil, List.append_nil, List.nil_append, List.cons_append, List.length_cons, List.length_nil, List.length_map, decide_true, decide_false, decide_eq_true_eq, Bool.not_eq_true', decide_eq_false_iff_not, Bool.and_eq_true, Bool.or_eq_true, not_true_eq_false, not_false_eq_true, Bool.not_true, Bool.not_false, Bool.true_and, Bool.and_true, Bool.false_and, Bool.and_false, Bool.or_false, Bool.false_or, Bool.true_or, Bool.or_true, Bool.false_eq_true, if_true, if_false, ite_true, ite_false, reduceIte, ite_self, beq_self_eq_true, Bool.true_eq_false, d5, h1, h2]; rw [Int.toNat_of_nonneg (by omega)]⟩
theorem mul_nn_bd {a b A B : Int} (ha : 0 ≤ a ∧ a ≤ A) (hb : 0 ≤ b ∧ b ≤ B) : 0 ≤ a * b ∧ a * b ≤ A * B :=
  ⟨Int.mul_nonneg ha.1 hb.1, Int.mul_le_mul ha.2 hb.2 hb.1 (by omega)⟩
theorem mul_okB {a b : Int} (ha : 0 ≤ a ∧ a < 2 ^ 1900) (hb : 0 ≤ b ∧ b < 2 ^ 1900) : mulOk a b = true := by
  have e : (2 : Int) ^ 1900 = ((2 ^ 1900 : Nat) : Int) := by norm_cast
  rw [e] at ha hb
  exact mul_ok3 (Nat.lt_of_lt_of_le (show a.natAbs < 2 ^ 1900 by omega) (by decide)) (Nat.lt_of_lt_of_le (show b.natAbs < 2 ^ 1900 by omega) (by decide))
theorem law_number_ok (n : Nat) (c k many : Int) (hk : 0 ≤ k ∧ k ≤ 1000) (hm : 0 < many ∧ many.natAbs < 2 ^ 1000) : ∃ v : Int, (0 ≤ v ∧ v < many) ∧ callN P (n + 1) n_law_number [.int c, .int k, .int many] = .ok (.int v) := by
  rw [callN_eq P_law_number _ (by simp)]
  have p50 : powOk 10 50 = true := by decide
  have p33 : powOk 10 33 = true := by decide
  have p41 : powOk 10 41 = true := by decide
  have m0 : mulOk 100000000000000000000000000000000000000000000000000 100000000000000000000000000000000000000000000000000 = true := by decide
  have m1 : mulOk 31 k = true := mul_ok1 (by decide)
  have m2 : mulOk (31 * k) k = true := mul_ok2 (by omega)
  have d4 : divOk 4 = true := by decide
  have d13 : divOk 13 = true := by decide
  have k2 := mul_nn_bd (a := 31 * k) (b := k) (A := 31000) (B := 1000) (by omega) (by omega)
  have r0 := emod_bd (c / 4) (100000000000000000000000000000000000000000000000000 * 100000000000000000000000000000000000000000000000000) (by decide)
  have nz : ¬ many = 0 := by omega
  have nn : 0 ≤ many := by omega
  generalize hr : c / 4 % (100000000000000000000000000000000000000000000000000 * 100000000000000000000000000000000000000000000000000) + 31 * k * k = r
  have hr' := hr
  simp only [Int.reduceMul] at r0 hr'
  have r1 : 0 ≤ r ∧ r < 10000000000000000000000000000000000000000000000000000000000000000000000000000000000000000000000000001000000000 := by omega
  have a1 := mul_nn_bd (a := r + 3) (b := r + 5) (A := 2 ^ 400) (B := 2 ^ 400) (by constructor <;> omega) (by constructor <;> omega)
  have x1 : mulOk (r + 3) (r + 5) = true := mul_okB (by constructor <;> omega) (by constructor <;> omega)
  have x2 : mulOk ((r + 3) * (r + 5)) (1000000000000000000000000000000000 + 7) = true := mul_okB ⟨a1.1, Int.lt_of_le_of_lt a1.2 (by decide)⟩ (by decide)
  have a2 := mul_nn_bd (a := (r + 3) * (r + 5)) (b := 1000000000000000000000000000000000 + 7) (A := 2 ^ 800) (B := 2 ^ 200) ⟨a1.1, Int.le_trans a1.2 (by decide)⟩ (by decide)
  have x3 : mulOk ((r + 3) * (r + 5) * (1000000000000000000000000000000000 + 7)) (100000000000000000000000000000000000000000 + 9) = true := mul_okB ⟨a2.1, Int.lt_of_le_of_lt a2.2 (by decide)⟩ (by decide)
  have x4 : mulOk r 48271 = true := mul_ok2 (by decide)
  simp only [Int.reduceAdd] at x2 x3
  unfold b_law_number
  by_cases h0 : c % 4 = 0
  · exact ⟨_, emod_bd r many hm.1, by simp only [bind_ok, bind_no, bind_ex, bind_ite, gd_true, getS_0, getS_s, slV_sh, slB_ow, slO_ow, setS_0, setS_s, wipe_nil, wipe_cons, frS_ow, frS_sh, frS_no, tg_one, tg_tup, setVs_nil, setVs_cons, iteD_bl, and_bl, or_bl, and_blp, or_blp, nand_blp, nor_blp, ev_var, ev_bor, ev_con, ev_glb, ev_bin, ev_neg, negD_int, ev_nt, notD_bl, ev_cmp, ev_chain, ev_and, ev_or, ev_ite, ev_tup, ev_lst, ev_idx, ev_slc, ev_rvs, rvs_L, rvs_T, ev_bi, ev_isi, lends, lent_false, ev_call, ev_nil, ev_cons, ev_none, ev_some, intD_int, evE_comp, cmpT_none, cmpT_some, compD_map, compA_nil, compA_cons, cmpC_some, cmpC_none, compA_int, goB_nx, goB_bk, goB_ct, goB_rt, goB_ex, goB_ite, xB_nil, xB_cons, getX_0, getX_s, bodyOf_for, bodyOf_while, loopB_eq, condOf_while, thenOf_ite, elseOf_ite, seg_eq, List.drop_succ_cons, List.drop_zero, List.take_succ_cons, List.take_zero, x_asg, ownD_lst, x_own, x_unp, x_aug, x_put, x_app, x_ext, x_pop, popM_app, popM_one, x_ite, x_for, forT_eq, forD_nil, forD_cons, x_ret, ret_false, ret_int, ret_bl, ret_non, ret_tup, x_retR, x_retN, x_brk, x_cnt, x_pas, x_frz, x_del, endD_rt, endD_nx, endD_ex, endD_ite, iterO_nx, iterO_ct, iterO_bk, iterO_rt, iniS_0, iniS_n, iniS_c, b_add, b_sub, b_mul, b_addT, b_addL, b_rep, b_div, b_mod, b_pow, b_shl, b_shr, b_band, b_bor, b_bxor, a_add, a_sub, c_lt, c_le, c_gt, c_ge, c_eqi, c_nei, c_eqb, c_neb, c_isn, c_nisn, c_isb, c_nisb, eqD_ii, eqD_tt, eqD_ll, eqDs_n, eqDs_c, pl_int, pl_non, pl_bl, pl_tup, pl_lst, all_ints, List.all_cons, List.all_nil, fmod_e, fdiv_e, isNon_non, isNon_int, isNon_tup, isNon_lst, x_idxT, x_idxL, idxO_some, at_0, at_1, at_2, at_3, at_4, at_5, at_6, at_7, i_lenT, i_lenL, i_min2, i_max2, i_max3, i_min3, i_abs, i_sumi, i_sori, i_sorTi, i_tupT, i_tupL, i_lstT, i_lstL, i_inti, i_intb, ty_ii, ty_ib, ty_bi, ty_bb, ty_tt, ty_ti, noIns_int, noIns_bl, noIns_tup, noIns_lst, noIns_non, noIns_str, seqOf_tup, seqOf_lst, it_seqT, it_seqL, Nat.reduceAdd, Nat.reduceSub, Nat.reduceMul, Nat.reduceEqDiff, Nat.reduceLeDiff, Int.reduceEq, Int.reduceNe, Int.reduceLT, Int.reduceLE, Int.reduceGT, Int.reduceGE, Int.reduceAdd, Int.reduceSub, Int.reduceMul, Int.reduceNeg, Int.reduceToNat, Int.reducePow, Int.reduceAbs, Int.cast_ofNat_Int, List.map_cons, List.map_nil, List.append_nil, List.nil_append, List.cons_append, List.length_cons, List.length_nil, List.length_map, decide_true, decide_false, decide_eq_true_eq, Bool.not_eq_true', decide_eq_false_iff_not, Bool.and_eq_true, Bool.or_eq_true, not_true_eq_false, not_false_eq_true, Bool.not_true, Bool.not_false, Bool.true_and, Bool.and_true, Bool.false_and, Bool.and_false, Bool.or_false, Bool.false_or, Bool.true_or, Bool.or_true, Bool.false_eq_true, if_true, if_false, ite_true, ite_false, reduceIte, ite_self, beq_self_eq_true, Bool.true_eq_false, p50, m0, m1, m2, d4, h0, hr', nz, fmod_e nn]⟩
  · by_cases h1 : c % 4 = 1
    · have := emod_bd r many hm.1
      exact ⟨many - 1 - r % many, by omega, by simp only [bind_ok, bind_no, bind_ex, bind_ite, gd_true, getS_0, getS_s, slV_sh, slB_ow, slO_ow, setS_0, setS_s, wipe_nil, wipe_cons, frS_ow, frS_sh, frS_no, tg_one, tg_tup, setVs_nil, setVs_cons, iteD_bl, and_bl, or_bl, and_blp, or_blp, nand_blp, nor_blp, ev_var, ev_bor, ev_con, ev_glb, ev_bin, ev_neg, negD_int, ev_nt, notD_bl, ev_cmp, ev_chain, ev_and, ev_or, ev_ite, ev_tup, ev_lst, ev_idx, ev_slc, ev_rvs, rvs_L, rvs_T, ev_bi, ev_isi, lends, lent_false, ev_call, ev_nil, ev_cons, ev_none, ev_some, intD_int, evE_comp, cmpT_none, cmpT_some, compD_map, compA_nil, compA_cons, cmpC_some, cmpC_none, compA_int, goB_nx, goB_bk, goB_ct, goB_rt, goB_ex, goB_ite, xB_nil, xB_cons, getX_0, getX_s, bodyOf_for, bodyOf_while, loopB_eq, condOf_while, thenOf_ite, elseOf_ite, seg_eq, List.drop_succ_cons, List.drop_zero, List.take_succ_cons, List.take_zero, x_asg, ownD_lst, x_own, x_unp, x_aug, x_put, x_app, x_ext, x_pop, popM_app, popM_one, x_ite, x_for, forT_eq, forD_nil, forD_cons, x_ret, ret_false, ret_int, ret_bl, ret_non, ret_tup, x_retR, x_retN, x_brk, x_cnt, x_pas, x_frz, x_del, endD_rt, endD_nx, endD_ex, endD_ite, iterO_nx, iterO_ct, iterO_bk, iterO_rt, iniS_0, iniS_n, iniS_c, b_add, b_sub, b_mul, b_addT, b_addL, b_rep, b_div, b_mod, b_pow, b_shl, b_shr, b_band, b_bor, b_bxor, a_add, a_sub, c_lt, c_le, c_gt, c_ge, c_eqi, c_nei, c_eqb, c_neb, c_isn, c_nisn, c_isb, c_nisb, eqD_ii, eqD_tt, eqD_ll, eqDs_n, eqDs_c, pl_int, pl_non, pl_bl, pl_tup, pl_lst, all_ints, List.all_cons, List.all_nil, fmod_e, fdiv_e, isNon_non, isNon_int, isNon_tup, isNon_lst, x_idxT, x_idxL, idxO_some, at_0, at_1, at_2, at_3, at_4, at_5, at_6, at_7, i_lenT, i_lenL, i_min2, i_max2, i_max3, i_min3, i_abs, i_sumi, i_sori, i_sorTi, i_tupT, i_tupL, i_lstT, i_lstL, i_inti, i_intb, ty_ii, ty_ib, ty_bi, ty_bb, ty_tt, ty_ti, noIns_int, noIns_bl, noIns_tup, noIns_lst, noIns_non, noIns_str, seqOf_tup, seqOf_lst, it_seqT, it_seqL, Nat.reduceAdd, Nat.reduceSub, Nat.reduceMul, Nat.reduceEqDiff, Nat.reduceLeDiff, Int.reduceEq, Int.reduceNe, Int.reduceLT, Int.reduceLE, Int.reduceGT, Int.reduceGE, Int.reduceAdd, Int.reduceSub, Int.reduceMul, Int.reduceNeg, Int.reduceToNat, Int.reducePow, Int.reduceAbs, Int.cast_ofNat_Int, List.map_cons, List.map_nil, List.append_nil, List.nil_append, List.cons_append, List.length_cons, List.length_nil, List.length_map, decide_true, decide_false, decide_eq_true_eq, Bool.not_eq_true', decide_eq_false_iff_not, Bool.and_eq_true, Bool.or_eq_true, not_true_eq_false, not_false_eq_true, Bool.not_true, Bool.not_false, Bool.true_and, Bool.and_true, Bool.false_and, Bool.and_false, Bool.or_false, Bool.false_or, Bool.true_or, Bool.or_true, Bool.false_eq_true, if_true, if_false, ite_true, ite_false, reduceIte, ite_self, beq_self_eq_true, Bool.true_eq_false, p50, m0, m1, m2, d4, h0, h1, hr', nz, fmod_e nn]⟩
    · by_cases h2 : c % 4 = 2
      · exact ⟨(many / 2 + r % 7 - 3) % many, emod_bd _ many hm.1, by simp only [bind_ok, bind_no, bind_ex, bind_ite, gd_true, getS_0, getS_s, slV_sh, slB_ow, slO_ow, setS_0, setS_s, wipe_nil, wipe_cons, frS_ow, frS_sh, frS_no, tg_one, tg_tup, setVs_nil, setVs_cons, iteD_bl, and_bl, or_bl, and_blp, or_blp, nand_blp, nor_blp, ev_var, ev_bor, ev_con, ev_glb, ev_bin, ev_neg, negD_int, ev_nt, notD_bl, ev_cmp, ev_chain, ev_and, ev_or, ev_ite, ev_tup, ev_lst, ev_idx, ev_slc, ev_rvs, rvs_L, rvs_T, ev_bi, ev_isi, lends, lent_false, ev_call, ev_nil, ev_cons, ev_none, ev_some, intD_int, evE_comp, cmpT_none, cmpT_some, compD_map, compA_nil, compA_cons, cmpC_some, cmpC_none, compA_int, goB_nx, goB_bk, goB_ct, goB_rt, goB_ex, goB_ite, xB_nil, xB_cons, getX_0, getX_s, bodyOf_for, bodyOf_while, loopB_eq, condOf_while, thenOf_ite, elseOf_ite, seg_eq, List.drop_succ_cons, List.drop_zero, List.take_succ_cons, List.take_zero, x_asg, ownD_lst, x_own, x_unp, x_aug, x_put, x_app, x_ext, x_pop, popM_app, popM_one, x_ite, x_for, forT_eq, forD_nil, forD_cons, x_ret, ret_false, ret_int, ret_bl, ret_non, ret_tup, x_retR, x_retN, x_brk, x_cnt, x_pas, x_frz, x_del, endD_rt, endD_nx, endD_ex, endD_ite, iterO_nx, iterO_ct, iterO_bk, iterO_rt, iniS_0, iniS_n, iniS_c, b_add, b_sub, b_mul, b_addT, b_addL, b_rep, b_div, b_mod, b_pow, b_shl, b_shr, b_band, b_bor, b_bxor, a_add, a_sub, c_lt, c_le, c_gt, c_ge, c_eqi, c_nei, c_eqb, c_neb, c_isn, c_nisn, c_isb, c_nisb, eqD_ii, eqD_tt, eqD_ll, eqDs_n, eqDs_c, pl_int, pl_non, pl_bl, pl_tup, pl_lst, all_ints, List.all_cons, List.all_nil, fmod_e, fdiv_e, isNon_non, isNon_int, isNon_tup, isNon_lst, x_idxT, x_idxL, idxO_some, at_0, at_1, at_2, at_3, at_4, at_5, at_6, at_7, i_lenT, i_lenL, i_min2, i_max2, i_max3, i_min3, i_abs, i_sumi, i_sori, i_sorTi, i_tupT, i_tupL, i_lstT, i_lstL, i_inti, i_intb, ty_ii, ty_ib, ty_bi, ty_bb, ty_tt, ty_ti, noIns_int, noIns_bl, noIns_tup, noIns_lst, noIns_non, noIns_str, seqOf_tup, seqOf_lst, it_seqT, it_seqL, Nat.reduceAdd, Nat.reduceSub, Nat.reduceMul, Nat.reduceEqDiff, Nat.reduceLeDiff, Int.reduceEq, Int.reduceNe, Int.reduceLT, Int.reduceLE, Int.reduceGT, Int.reduceGE, Int.reduceAdd, Int.reduceSub, Int.reduceMul, Int.reduceNeg, Int.reduceToNat, Int.reducePow, Int.reduceAbs, Int.cast_ofNat_Int, List.map_cons, List.map_nil, List.append_nil, List.nil_append, List.cons_append, List.length_cons, List.length_nil, List.length_map, decide_true, decide_false, decide_eq_true_eq, Bool.not_eq_true', decide_eq_false_iff_not, Bool.and_eq_true, Bool.or_eq_true, not_true_eq_false, not_false_eq_true, Bool.not_true, Bool.not_false, Bool.true_and, Bool.and_true, Bool.false_and, Bool.and_false, Bool.or_false, Bool.false_or, Bool.true_or, Bool.or_true, Bool.false_eq_true, if_true, if_false, ite_true, ite_false, reduceIte, ite_self, beq_self_eq_true, Bool.true_eq_false, p50, m0, m1, m2, d4, div_ok2, h0, h1, h2, hr', nz, fmod_e nn]⟩
      · exact ⟨((r + 3) * (r + 5) * 1000000000000000000000000000000007 * 100000000000000000000000000000000000000009 + r * 48271) / 13 % many, emod_bd _ many hm.1, by simp only [bind_ok, bind_no, bind_ex, bind_ite, gd_true, getS_0, getS_s, slV_sh, slB_ow, slO_ow, setS_0, setS_s, wipe_nil, wipe_cons, frS_ow, frS_sh, frS_no, tg_one, tg_tup, setVs_nil, setVs_cons, iteD_bl, and_bl, or_bl, and_blp, or_blp, nand_blp, nor_blp, ev_var, ev_bor, ev_con, ev_glb, ev_bin, ev_neg, negD_int, ev_nt, notD_bl, ev_cmp, ev_chain, ev_and, ev_or, ev_ite, ev_tup, ev_lst, ev_idx, ev_slc, ev_rvs, rvs_L, rvs_T, ev_bi, ev_isi, lends, lent_false, ev_call, ev_nil, ev_cons, ev_none, ev_some, intD_int, evE_comp, cmpT_none, cmpT_some, compD_map, compA_nil, compA_cons, cmpC_some, cmpC_none, compA_int, goB_nx, goB_bk, goB_ct, goB_rt, goB_ex, goB_ite, xB_nil, xB_cons, getX_0, getX_s, bodyOf_for, bodyOf_while, loopB_eq, condOf_while, thenOf_ite, elseOf_ite, seg_eq, List.drop_succ_cons, List.drop_zero, List.take_succ_cons, List.take_zero, x_asg, ownD_lst, x_own, x_unp, x_aug, x_put, x_app, x_ext, x_pop, popM_app, popM_one, x_ite, x_for, forT_eq, forD_nil, forD_cons, x_ret, ret_false, ret_int, ret_bl, ret_non, ret_tup, x_retR, x_retN, x_brk, x_cnt, x_pas, x_frz, x_del, endD_rt, endD_nx, endD_ex, endD_ite, iterO_nx, iterO_ct, iterO_bk, iterO_rt, iniS_0, iniS_n, iniS_c, b_add, b_sub, b_mul, b_addT, b_addL, b_rep, b_div, b_mod, b_pow, b_shl, b_shr, b_band, b_bor, b_bxor, a_add, a_sub, c_lt, c_le, c_gt, c_ge, c_eqi, c_nei, c_eqb, c_neb, c_isn, c_nisn, c_isb, c_nisb, eqD_ii, eqD_tt, eqD_ll, eqDs_n, eqDs_c, pl_int, pl_non, pl_bl, pl_tup, pl_lst, all_ints, List.all_cons, List.all_nil, fmod_e, fdiv_e, isNon_non, isNon_int, isNon_tup, isNon_lst, x_idxT, x_idxL, idxO_some, at_0, at_1, at_2, at_3, at_4, at_5, at_6, at_7, i_lenT, i_lenL, i_min2, i_max2, i_max3, i_min3, i_abs, i_sumi, i_sori, i_sorTi, i_tupT, i_tupL, i_lstT, i_lstL, i_inti, i_intb, ty_ii, ty_ib, ty_bi, ty_bb, ty_tt, ty_ti, noIns_int, noIns_bl, noIns_tup, noIns_lst, noIns_non, noIns_str, seqOf_tup, seqOf_lst, it_seqT, it_seqL, Nat.reduceAdd, Nat.reduceSub, Nat.reduceMul, Nat.reduceEqDiff, Nat.reduceLeDiff, Int.reduceEq, Int.reduceNe, Int.reduceLT, Int.reduceLE, Int.reduceGT, Int.reduceGE, Int.reduceAdd, Int.reduceSub, Int.reduceMul, Int.reduceNeg, Int.reduceToNat, Int.reducePow, Int.reduceAbs, Int.cast_ofNat_Int, List.map_cons, List.map_nil, List.append_nil, List.nil_append, List.cons_append, List.length_cons, List.length_nil, List.length_map, decide_true, decide_false, decide_eq_true_eq, Bool.not_eq_true', decide_eq_false_iff_not, Bool.and_eq_true, Bool.or_eq_true, not_true_eq_false, not_false_eq_true, Bool.not_true, Bool.not_false, Bool.true_and, Bool.and_true, Bool.false_and, Bool.and_false, Bool.or_false, Bool.false_or, Bool.true_or, Bool.or_true, Bool.false_eq_true, if_true, if_false, ite_true, ite_false, reduceIte, ite_self, beq_self_eq_true, Bool.true_eq_false, p50, p33, p41, m0, m1, m2, d4, d13, h0, h1, h2, hr', nz, fmod_e nn, x1, x2, x3, x4]⟩
theorem pow_bd {b : Nat} (h : b ≤ 400) : 0 < (2 : Int) ^ b ∧ ((2 : Int) ^ b).natAbs < 2 ^ 1000 := by
  have e : (2 : Int) ^ b = ((2 ^ b : Nat) : Int) := by norm_cast
  rw [e]
  refine ⟨by have := Nat.two_pow_pos b; omega, ?_⟩
  rw [Int.natAbs_natCast]
  exact Nat.pow_lt_pow_right (by decide) (by omega)
theorem nat_of {v : Int} {b : Nat} (h : 0 ≤ v ∧ v < 2 ^ b) : ∃ x : Nat, v = x ∧ x < 2 ^ b := by
  have e : (2 : Int) ^ b = ((2 ^ b : Nat) : Int) := by norm_cast
  rw [e] at h
  exact ⟨v.toNat, by omega, by omega⟩
end Dw

namespace Dw
open PySem
/-! least and greatest of a row -/
def mnL (l : List Int) : Int := (minOf l).getD 0
def mxL (l : List Int) : Int := (maxOf l).getD 0
theorem minOf_cons : ∀ (a : Int) (l : List Int), ∃ m, minOf (a :: l) = some m ∧ (m = a ∨ m ∈ l) ∧ m ≤ a ∧ ∀ x ∈ l, m ≤ x
  | a, [] => ⟨a, rfl, .inl rfl, by omega, fun x hx => by cases hx⟩
  | a, b :: l => by
    obtain ⟨m, e, h1, h2, h3⟩ := minOf_cons b l
    have e2 : minOf (a :: b :: l) = some (if m < a then m else a) := by
      show (match minOf (b :: l) with | some m => some (if m < a then m else a) | none => some a) = _
      rw [e]
    by_cases h : m < a
    · rw [if_pos h] at e2
      refine ⟨m, e2, .inr ?_, by omega, fun x hx => ?_⟩
      · rcases h1 with rfl | h1
        · exact List.mem_cons_self
        · exact List.mem_cons_of_mem _ h1
      · rcases List.mem_cons.1 hx with rfl | hx
        · exact h2
        · exact h3 x hx
    · rw [if_neg h] at e2
      refine ⟨a, e2, .inl rfl, by omega, fun x hx => ?_⟩
      rcases List.mem_cons.1 hx with rfl | hx
      · omega
      · have := h3 x hx; omega
theorem maxOf_cons : ∀ (a : Int) (l : List Int), ∃ m, maxOf (a :: l) = some m ∧ (m = a ∨ m ∈ l) ∧ a ≤ m ∧ ∀ x ∈ l, x ≤ m
  | a, [] => ⟨a, rfl, .inl rfl, by omega, fun x hx => by cases hx⟩
  | a, b :: l => by
    obtain ⟨m, e, h1, h2, h3⟩ := maxOf_cons b l
    have e2 : maxOf (a :: b :: l) = some (if a < m then m else a) := by
      show (match maxOf (b :: l) with | some m => some (if a < m then m else a) | none => some a) = _
      rw [e]
    by_cases h : a < m
    · rw [if_pos h] at e2
      refine ⟨m, e2, .inr ?_, by omega, fun x hx => ?_⟩
      · rcases h1 with rfl | h1
        · exact List.mem_cons_self
        · exact List.mem_cons_of_mem _ h1
      · rcases List.mem_cons.1 hx with rfl | hx
        · exact h2
        · exact h3 x hx
    · rw [if_neg h] at e2
      refine ⟨a, e2, .inl rfl, by omega, fun x hx => ?_⟩
      rcases List.mem_cons.1 hx with rfl | hx
      · omega
      · have := h3 x hx; omega
theorem minOf_mn {l : List Int} (h : l ≠ []) : minOf l = some (mnL l) := by
  cases l with
  | nil => exact absurd rfl h
  | cons a l => obtain ⟨m, e, _⟩ := minOf_cons a l; unfold mnL; rw [e]; rfl
theorem maxOf_mx {l : List Int} (h : l ≠ []) : maxOf l = some (mxL l) := by
  cases l with
  | nil => exact absurd rfl h
  | cons a l => obtain ⟨m, e, _⟩ := maxOf_cons a l; unfold mxL; rw [e]; rfl
theorem mnL_spec {l : List Int} (h : l ≠ []) : mnL l ∈ l ∧ ∀ x ∈ l, mnL l ≤ x := by
  cases l with
  | nil => exact absurd rfl h
  | cons a l =>
    obtain ⟨m, e, h1, h2, h3⟩ := minOf_cons a l
    have : mnL (a :: l) = m := by unfold mnL; rw [e]; rfl
    rw [this]
    exact ⟨List.mem_cons.2 h1, fun x hx => by rcases List.mem_cons.1 hx with rfl | hx; exact h2; exact h3 x hx⟩
theorem mxL_spec {l : List Int} (h : l ≠ []) : mxL l ∈ l ∧ ∀ x ∈ l, x ≤ mxL l := by
  cases l with
  | nil => exact absurd rfl h
  | cons a l =>
    obtain ⟨m, e, h1, h2, h3⟩ := maxOf_cons a l
    have : mxL (a :: l) = m := by unfold mxL; rw [e]; rfl
    rw [this]
    exact ⟨List.mem_cons.2 h1, fun x hx => by rcases List.mem_cons.1 hx with rfl | hx; exact h2; exact h3 x hx⟩
theorem i_min1 {l : List Int} (h : l ≠ []) : biD .min1 [.lst (l.map D.int)] = .ok (.int (mnL l)) := by
  show (match intsOf (l.map D.int) with | some ns => (match minOf ns with | some m => M.ok (D.int m) | none => .no) | none => .no) = _
  rw [intsOf_map]
  show (match minOf l with | some m => M.ok (D.int m) | none => .no) = _
  rw [minOf_mn h]
theorem i_max1 {l : List Int} (h : l ≠ []) : biD .max1 [.lst (l.map D.int)] = .ok (.int (mxL l)) := by
  show (match intsOf (l.map D.int) with | some ns => (match maxOf ns with | some m => M.ok (D.int m) | none => .no) | none => .no) = _
  rw [intsOf_map]
  show (match maxOf l with | some m => M.ok (D.int m) | none => .no) = _
  rw [maxOf_mx h]
/-! things and what they tell -/
structure Th where
  h : Int
  s : List Sd
  m : Int
  w : Int
deriving DecidableEq
/-- a comprehension over a row -/
theorem ev_compS {F : Fs} {elt v : Ex} {i : Nat} {ρ : List Sl} {α : Type} {l : List α} {enc G : α → D} (h0 : evE F v ρ = .ok (.lst (l.map enc))) (hf : l.length ≤ 1000000) (h : ∀ x ∈ l, evE F elt (setS (setS ρ i .no) i (.sh (enc x))) = .ok (G x)) : evE F (.comp elt [i] .seq [v] none) ρ = .ok (.lst (l.map G)) := by
  rw [evE_comp, ev_cons, ev_nil, h0, bind_ok, bind_ok, bind_ok, it_seqL, bind_ok, fits_of (by rw [List.length_map]; exact hf), gd_true, bind_ok, compD_map]
  rw [compA_mem (G := G) (fun x hx => ?_), bind_ok]
  rw [cmpT_none, wipe_cons, wipe_nil, tg_one, bind_ok, h x hx, bind_ok]
def encT (t : Th) : D := .tup [.int t.h, encF t.s, .int t.m, .int t.w]
structure Td where
  cov : List Sd
  hrt : List Sd
  some' : Int
  evr : Int
  many : Int
  lst : Int
  mst : Int
  sum : Int
deriving DecidableEq
def encD (t : Td) : D := .tup [encF t.cov, encF t.hrt, .int t.some', .int t.evr, .int t.many, .int t.lst, .int t.mst, .int t.sum]
/-- a thing of s sides within the bounds, its speeds one -/
structure GT (s : Nat) (t : Th) : Prop where
  len : t.s.length = s
  g : ∀ p ∈ t.s, GW p ∧ p.2.2.1 = p.2.2.2
  hd : 0 ≤ t.h ∧ t.h ≤ 1000000000000000000
  mr : 0 ≤ t.m ∧ t.m < 65536
  wr : -1000000000000000000000000000000 ≤ t.w ∧ t.w ≤ 1000000000000000000000000000000
def sdN (t : Th) (j : Nat) : Sd := t.s.getD j (0, 0, 0, 0)
def covJ (ts : List Th) (j : Nat) : Sd := (mnL (ts.map fun t => (sdN t j).1), mxL (ts.map fun t => (sdN t j).2.1), mnL (ts.map fun t => (sdN t j).2.2.1), mxL (ts.map fun t => (sdN t j).2.2.1))
def hrtJ (ts : List Th) (j : Nat) : Sd := (mxL (ts.map fun t => (sdN t j).1), mnL (ts.map fun t => (sdN t j).2.1), mxL (ts.map fun t => (sdN t j).2.2.1), mnL (ts.map fun t => (sdN t j).2.2.1))
def orL (a : Int) (ts : List Th) : Int := ts.foldl (fun a t => Builtin.bitOr a t.m) a
def andL (a : Int) (ts : List Th) : Int := ts.foldl (fun a t => Builtin.bitAnd a t.m) a
def told (s : Nat) (ts : List Th) : Td := ⟨(List.range s).map (covJ ts), (List.range s).map (hrtJ ts), orL 0 ts, andL 65535 ts, ts.length, mnL (ts.map (·.w)), mxL (ts.map (·.w)), (ts.map (·.w)).sum⟩
theorem at_sd (t : Th) (j : Nat) (h : j < t.s.length) : L2.atI (t.s.map encS) (j : Int) = some (encS (sdN t j)) := by
  obtain ⟨x, hx, h1, h2⟩ := at_int (xs := t.s) (i := (j : Int)) (by omega) (by omega)
  rw [at_map, h2, Option.map_some]
  rw [Int.toNat_natCast] at h1
  unfold sdN
  rw [List.getD_eq_getElem?_getD, h1]; rfl
theorem law_told_ok (n : Nat) {s : Nat} (hs : s ≤ 1000) (ts : List Th) (h0 : ts ≠ []) (hl : ts.length ≤ 100000) (g : ∀ t ∈ ts, t.s.length = s) : callN P (n + 1) n_law_told_4 [.lst (ts.map encT)] = .ok (encD (told s ts)) := by
  rw [callN_eq P_law_told_4 _ (by simp)]
  have nz : ¬ (ts.length : Int) = 0 := by
    have := List.length_pos_iff.2 h0; omega
  obtain ⟨t0, r0, rfl⟩ : ∃ t r, ts = t :: r := by
    cases ts with
    | nil => exact absurd rfl h0
    | cons a l => exact ⟨a, l, rfl⟩
  have g0 := g t0 (by simp)
  generalize hts : t0 :: r0 = ts at *
  have e0 : L2.atI (ts.map encT) 0 = some (encT t0) := by rw [← hts, List.map_cons, at_0]
  have hf : fits ts.length = true := fits_of (by omega)
  have ne : ∀ f : Th → Int, ts.map f ≠ [] := fun f => by rw [← hts]; simp
  have mn : ∀ f : Th → Int, biD .min1 [.lst (ts.map fun t => D.int (f t))] = .ok (.int (mnL (ts.map f))) := fun f => by
    rw [← i_min1 (ne f), List.map_map]; rfl
  have mx : ∀ f : Th → Int, biD .max1 [.lst (ts.map fun t => D.int (f t))] = .ok (.int (mxL (ts.map f))) := fun f => by
    rw [← i_max1 (ne f), List.map_map]; rfl
  have loop := for_rng (f := forT (callN P n) false [3] (loopB b_law_told_4 3)) (g := fun k : Nat => D.int (k : Int)) (fun k ρ => ρ = [.sh (.lst (ts.map encT)), .ow (((List.range k).map (covJ ts)).map encS), .ow (((List.range k).map (hrtJ ts)).map encS), .no, .no, .no, .no, .no, .no, .no, .no]) s (ρ := [.sh (.lst (ts.map encT)), .ow [], .ow [], .no, .no, .no, .no, .no, .no, .no, .no]) rfl (fun k ρ hk h => by
    subst h
    refine ⟨_, ?_, rfl⟩
    have ca : ∀ (i : Int) (A B c8 c9 c10 : Sl) (f : Sd → Int), (∀ t : Sd, L2.atI [D.int t.1, .int t.2.1, .int t.2.2.1, .int t.2.2.2] i = some (.int (f t))) → evE (callN P n) (.comp (.idx (.idx (.idx (.var 6) (.con (.int 1))) (.var 3)) (.con (.int i))) [6] .seq [.var 0] none) [.sh (.lst (ts.map encT)), A, B, .sh (.int (k : Nat)), .no, .no, .no, .no, c8, c9, c10] = .ok (.lst (ts.map fun t => D.int (f (sdN t k)))) := fun i A B c8 c9 c10 f hi => by
      refine ev_compS (enc := encT) (by simp only [bind_ok, bind_no, bind_ex, bind_ite, gd_true, getS_0, getS_s, slV_sh, slB_ow, slO_ow, setS_0, setS_s, wipe_nil, wipe_cons, frS_ow, frS_sh, frS_no, tg_one, tg_tup, setVs_nil, setVs_cons, iteD_bl, and_bl, or_bl, and_blp, or_blp, nand_blp, nor_blp, ev_var, ev_bor, ev_con, ev_glb, ev_bin, ev_neg, negD_int, ev_nt, notD_bl, ev_cmp, ev_chain, ev_and, ev_or, ev_ite, ev_tup, ev_lst, ev_idx, ev_slc, ev_rvs, rvs_L, rvs_T, ev_bi, ev_isi, lends, lent_false, ev_call, ev_nil, ev_cons, ev_none, ev_some, intD_int, evE_comp, cmpT_none, cmpT_some, compD_map, compA_nil, compA_cons, cmpC_some, cmpC_none, compA_int, goB_nx, goB_bk, goB_ct, goB_rt, goB_ex, goB_ite, xB_nil, xB_cons, getX_0, getX_s, bodyOf_for, bodyOf_while, loopB_eq, condOf_while, thenOf_ite, elseOf_ite, seg_eq, List.drop_succ_cons, List.drop_zero, List.take_succ_cons, List.take_zero, x_asg, ownD_lst, x_own, x_unp, x_aug, x_put, x_app, x_ext, x_pop, popM_app, popM_one, x_ite, x_for, forT_eq, forD_nil, forD_cons, x_ret, ret_false, ret_int, ret_bl, ret_non, ret_tup, x_retR, x_retN, x_brk, x_cnt, x_pas, x_frz, x_del, endD_rt, endD_nx, endD_ex, endD_ite, iterO_nx, iterO_ct, iterO_bk, iterO_rt, iniS_0, iniS_n, iniS_c, b_add, b_sub, b_mul, b_addT, b_addL, b_rep, b_div, b_mod, b_pow, b_shl, b_shr, b_band, b_bor, b_bxor, a_add, a_sub, c_lt, c_le, c_gt, c_ge, c_eqi, c_nei, c_eqb, c_neb, c_isn, c_nisn, c_isb, c_nisb, eqD_ii, eqD_tt, eqD_ll, eqDs_n, eqDs_c, pl_int, pl_non, pl_bl, pl_tup, pl_lst, all_ints, List.all_cons, List.all_nil, fmod_e, fdiv_e, isNon_non, isNon_int, isNon_tup, isNon_lst, x_idxT, x_idxL, idxO_some, at_0, at_1, at_2, at_3, at_4, at_5, at_6, at_7, i_lenT, i_lenL, i_min2, i_max2, i_max3, i_min3, i_abs, i_sumi, i_sori, i_sorTi, i_tupT, i_tupL, i_lstT, i_lstL, i_inti, i_intb, ty_ii, ty_ib, ty_bi, ty_bb, ty_tt, ty_ti, noIns_int, noIns_bl, noIns_tup, noIns_lst, noIns_non, noIns_str, seqOf_tup, seqOf_lst, it_seqT, it_seqL, Nat.reduceAdd, Nat.reduceSub, Nat.reduceMul, Nat.reduceEqDiff, Nat.reduceLeDiff, Int.reduceEq, Int.reduceNe, Int.reduceLT, Int.reduceLE, Int.reduceGT, Int.reduceGE, Int.reduceAdd, Int.reduceSub, Int.reduceMul, Int.reduceNeg, Int.reduceToNat, Int.reducePow, Int.reduceAbs, Int.cast_ofNat_Int, List.map_cons, List.map_nil, List.append_nil, List.nil_append, List.cons_append, List.length_cons, List.length_nil, List.length_map, decide_true, decide_false, decide_eq_true_eq, Bool.not_eq_true', decide_eq_false_iff_not, Bool.and_eq_true, Bool.or_eq_true, not_true_eq_false, not_false_eq_true, Bool.not_true, Bool.not_false, Bool.true_and, Bool.and_true, Bool.false_and, Bool.and_false, Bool.or_false, Bool.false_or, Bool.true_or, Bool.or_true, Bool.false_eq_true, if_true, if_false, ite_true, ite_false, reduceIte, ite_self, beq_self_eq_true, Bool.true_eq_false]) (by omega) fun t ht => ?_
      unfold encT encF
      simp only [bind_ok, bind_no, bind_ex, bind_ite, gd_true, getS_0, getS_s, slV_sh, slB_ow, slO_ow, setS_0, setS_s, wipe_nil, wipe_cons, frS_ow, frS_sh, frS_no, tg_one, tg_tup, setVs_nil, setVs_cons, iteD_bl, and_bl, or_bl, and_blp, or_blp, nand_blp, nor_blp, ev_var, ev_bor, ev_con, ev_glb, ev_bin, ev_neg, negD_int, ev_nt, notD_bl, ev_cmp, ev_chain, ev_and, ev_or, ev_ite, ev_tup, ev_lst, ev_idx, ev_slc, ev_rvs, rvs_L, rvs_T, ev_bi, ev_isi, lends, lent_false, ev_call, ev_nil, ev_cons, ev_none, ev_some, intD_int, evE_comp, cmpT_none, cmpT_some, compD_map, compA_nil, compA_cons, cmpC_some, cmpC_none, compA_int, goB_nx, goB_bk, goB_ct, goB_rt, goB_ex, goB_ite, xB_nil, xB_cons, getX_0, getX_s, bodyOf_for, bodyOf_while, loopB_eq, condOf_while, thenOf_ite, elseOf_ite, seg_eq, List.drop_succ_cons, List.drop_zero, List.take_succ_cons, List.take_zero, x_asg, ownD_lst, x_own, x_unp, x_aug, x_put, x_app, x_ext, x_pop, popM_app, popM_one, x_ite, x_for, forT_eq, forD_nil, forD_cons, x_ret, ret_false, ret_int, ret_bl, ret_non, ret_tup, x_retR, x_retN, x_brk, x_cnt, x_pas, x_frz, x_del, endD_rt, endD_nx, endD_ex, endD_ite, iterO_nx, iterO_ct, iterO_bk, iterO_rt, iniS_0, iniS_n, iniS_c, b_add, b_sub, b_mul, b_addT, b_addL, b_rep, b_div, b_mod, b_pow, b_shl, b_shr, b_band, b_bor, b_bxor, a_add, a_sub, c_lt, c_le, c_gt, c_ge, c_eqi, c_nei, c_eqb, c_neb, c_isn, c_nisn, c_isb, c_nisb, eqD_ii, eqD_tt, eqD_ll, eqDs_n, eqDs_c, pl_int, pl_non, pl_bl, pl_tup, pl_lst, all_ints, List.all_cons, List.all_nil, fmod_e, fdiv_e, isNon_non, isNon_int, isNon_tup, isNon_lst, x_idxT, x_idxL, idxO_some, at_0, at_1, at_2, at_3, at_4, at_5, at_6, at_7, i_lenT, i_lenL, i_min2, i_max2, i_max3, i_min3, i_abs, i_sumi, i_sori, i_sorTi, i_tupT, i_tupL, i_lstT, i_lstL, i_inti, i_intb, ty_ii, ty_ib, ty_bi, ty_bb, ty_tt, ty_ti, noIns_int, noIns_bl, noIns_tup, noIns_lst, noIns_non, noIns_str, seqOf_tup, seqOf_lst, it_seqT, it_seqL, Nat.reduceAdd, Nat.reduceSub, Nat.reduceMul, Nat.reduceEqDiff, Nat.reduceLeDiff, Int.reduceEq, Int.reduceNe, Int.reduceLT, Int.reduceLE, Int.reduceGT, Int.reduceGE, Int.reduceAdd, Int.reduceSub, Int.reduceMul, Int.reduceNeg, Int.reduceToNat, Int.reducePow, Int.reduceAbs, Int.cast_ofNat_Int, List.map_cons, List.map_nil, List.append_nil, List.nil_append, List.cons_append, List.length_cons, List.length_nil, List.length_map, decide_true, decide_false, decide_eq_true_eq, Bool.not_eq_true', decide_eq_false_iff_not, Bool.and_eq_true, Bool.or_eq_true, not_true_eq_false, not_false_eq_true, Bool.not_true, Bool.not_false, Bool.true_and, Bool.and_true, Bool.false_and, Bool.and_false, Bool.or_false, Bool.false_or, Bool.true_or, Bool.or_true, Bool.false_eq_true, if_true, if_false, ite_true, ite_false, reduceIte, ite_self, beq_self_eq_true, Bool.true_eq_false, at_sd t k (by rw [g t ht]; exact hk), encS, hi]
    rw [forT_eq, tg_one, bind_ok]
    have eB : loopB b_law_told_4 3 = .asg 8 (.comp (.idx (.idx (.idx (.var 6) (.con (.int 1))) (.var 3)) (.con (.int 0))) [6] .seq [(.var 0)] none) :: .asg 9 (.comp (.idx (.idx (.idx (.var 6) (.con (.int 1))) (.var 3)) (.con (.int 1))) [6] .seq [(.var 0)] none) :: .asg 10 (.comp (.idx (.idx (.idx (.var 6) (.con (.int 1))) (.var 3)) (.con (.int 2))) [6] .seq [(.var 0)] none) :: (loopB b_law_told_4 3).drop 3 := rfl
    rw [eB, xB_cons, x_asg, setS_s, setS_s, setS_s, setS_0, ca 0 _ _ _ _ _ (fun t => t.1) (fun t => rfl), bind_ok, goB_nx]
    rw [setS_s, setS_s, setS_s, setS_s, setS_s, setS_s, setS_s, setS_s, setS_0, xB_cons, x_asg, ca 1 _ _ _ _ _ (fun t => t.2.1) (fun t => rfl), bind_ok, goB_nx]
    rw [setS_s, setS_s, setS_s, setS_s, setS_s, setS_s, setS_s, setS_s, setS_s, setS_0, xB_cons, x_asg, ca 2 _ _ _ _ _ (fun t => t.2.2.1) (fun t => rfl), bind_ok, goB_nx]
    have dk : decide ((List.range k).length < sizeLine) = true := dec_size (by rw [List.length_range]; omega)
    unfold b_law_told_4
    simp only [bind_ok, bind_no, bind_ex, bind_ite, gd_true, getS_0, getS_s, slV_sh, slB_ow, slO_ow, setS_0, setS_s, wipe_nil, wipe_cons, frS_ow, frS_sh, frS_no, tg_one, tg_tup, setVs_nil, setVs_cons, iteD_bl, and_bl, or_bl, and_blp, or_blp, nand_blp, nor_blp, ev_var, ev_bor, ev_con, ev_glb, ev_bin, ev_neg, negD_int, ev_nt, notD_bl, ev_cmp, ev_chain, ev_and, ev_or, ev_ite, ev_tup, ev_lst, ev_idx, ev_slc, ev_rvs, rvs_L, rvs_T, ev_bi, ev_isi, lends, lent_false, ev_call, ev_nil, ev_cons, ev_none, ev_some, intD_int, evE_comp, cmpT_none, cmpT_some, compD_map, compA_nil, compA_cons, cmpC_some, cmpC_none, compA_int, goB_nx, goB_bk, goB_ct, goB_rt, goB_ex, goB_ite, xB_nil, xB_cons, getX_0, getX_s, bodyOf_for, bodyOf_while, loopB_eq, condOf_while, thenOf_ite, elseOf_ite, seg_eq, List.drop_succ_cons, List.drop_zero, List.take_succ_cons, List.take_zero, x_asg, ownD_lst, x_own, x_unp, x_aug, x_put, x_app, x_ext, x_pop, popM_app, popM_one, x_ite, x_for, forT_eq, forD_nil, forD_cons, x_ret, ret_false, ret_int, ret_bl, ret_non, ret_tup, x_retR, x_retN, x_brk, x_cnt, x_pas, x_frz, x_del, endD_rt, endD_nx, endD_ex, endD_ite, iterO_nx, iterO_ct, iterO_bk, iterO_rt, iniS_0, iniS_n, iniS_c, b_add, b_sub, b_mul, b_addT, b_addL, b_rep, b_div, b_mod, b_pow, b_shl, b_shr, b_band, b_bor, b_bxor, a_add, a_sub, c_lt, c_le, c_gt, c_ge, c_eqi, c_nei, c_eqb, c_neb, c_isn, c_nisn, c_isb, c_nisb, eqD_ii, eqD_tt, eqD_ll, eqDs_n, eqDs_c, pl_int, pl_non, pl_bl, pl_tup, pl_lst, all_ints, List.all_cons, List.all_nil, fmod_e, fdiv_e, isNon_non, isNon_int, isNon_tup, isNon_lst, x_idxT, x_idxL, idxO_some, at_0, at_1, at_2, at_3, at_4, at_5, at_6, at_7, i_lenT, i_lenL, i_min2, i_max2, i_max3, i_min3, i_abs, i_sumi, i_sori, i_sorTi, i_tupT, i_tupL, i_lstT, i_lstL, i_inti, i_intb, ty_ii, ty_ib, ty_bi, ty_bb, ty_tt, ty_ti, noIns_int, noIns_bl, noIns_tup, noIns_lst, noIns_non, noIns_str, seqOf_tup, seqOf_lst, it_seqT, it_seqL, Nat.reduceAdd, Nat.reduceSub, Nat.reduceMul, Nat.reduceEqDiff, Nat.reduceLeDiff, Int.reduceEq, Int.reduceNe, Int.reduceLT, Int.reduceLE, Int.reduceGT, Int.reduceGE, Int.reduceAdd, Int.reduceSub, Int.reduceMul, Int.reduceNeg, Int.reduceToNat, Int.reducePow, Int.reduceAbs, Int.cast_ofNat_Int, List.map_cons, List.map_nil, List.append_nil, List.nil_append, List.cons_append, List.length_cons, List.length_nil, List.length_map, decide_true, decide_false, decide_eq_true_eq, Bool.not_eq_true', decide_eq_false_iff_not, Bool.and_eq_true, Bool.or_eq_true, not_true_eq_false, not_false_eq_true, Bool.not_true, Bool.not_false, Bool.true_and, Bool.and_true, Bool.false_and, Bool.and_false, Bool.or_false, Bool.false_or, Bool.true_or, Bool.or_true, Bool.false_eq_true, if_true, if_false, ite_true, ite_false, reduceIte, ite_self, beq_self_eq_true, Bool.true_eq_false, mn, mx, dk]
    rw [List.range_succ, List.map_append, List.map_append, List.map_append, List.map_append]
    rfl)
  obtain ⟨ρ', e, rfl⟩ := loop
  have hsl : t0.s.length < 2 ^ 62 := by omega
  have fold := forD_fold (f := forT (callN P n) false [6] (loopB b_law_told_4 8)) (enc := encT) (fun s' : Int × Int => [.sh (.lst (ts.map encT)), .sh (.lst (((List.range s).map (covJ ts)).map encS)), .sh (.lst (((List.range s).map (hrtJ ts)).map encS)), .no, .sh (.int s'.1), .sh (.int s'.2), .no, .no, .no, .no, .no]) (fun s' t => (Builtin.bitOr s'.1 t.m, Builtin.bitAnd s'.2 t.m)) ts (0, 65535) (fun t ht s' => by
    unfold b_law_told_4 encT
    simp only [bind_ok, bind_no, bind_ex, bind_ite, gd_true, getS_0, getS_s, slV_sh, slB_ow, slO_ow, setS_0, setS_s, wipe_nil, wipe_cons, frS_ow, frS_sh, frS_no, tg_one, tg_tup, setVs_nil, setVs_cons, iteD_bl, and_bl, or_bl, and_blp, or_blp, nand_blp, nor_blp, ev_var, ev_bor, ev_con, ev_glb, ev_bin, ev_neg, negD_int, ev_nt, notD_bl, ev_cmp, ev_chain, ev_and, ev_or, ev_ite, ev_tup, ev_lst, ev_idx, ev_slc, ev_rvs, rvs_L, rvs_T, ev_bi, ev_isi, lends, lent_false, ev_call, ev_nil, ev_cons, ev_none, ev_some, intD_int, evE_comp, cmpT_none, cmpT_some, compD_map, compA_nil, compA_cons, cmpC_some, cmpC_none, compA_int, goB_nx, goB_bk, goB_ct, goB_rt, goB_ex, goB_ite, xB_nil, xB_cons, getX_0, getX_s, bodyOf_for, bodyOf_while, loopB_eq, condOf_while, thenOf_ite, elseOf_ite, seg_eq, List.drop_succ_cons, List.drop_zero, List.take_succ_cons, List.take_zero, x_asg, ownD_lst, x_own, x_unp, x_aug, x_put, x_app, x_ext, x_pop, popM_app, popM_one, x_ite, x_for, forT_eq, forD_nil, forD_cons, x_ret, ret_false, ret_int, ret_bl, ret_non, ret_tup, x_retR, x_retN, x_brk, x_cnt, x_pas, x_frz, x_del, endD_rt, endD_nx, endD_ex, endD_ite, iterO_nx, iterO_ct, iterO_bk, iterO_rt, iniS_0, iniS_n, iniS_c, b_add, b_sub, b_mul, b_addT, b_addL, b_rep, b_div, b_mod, b_pow, b_shl, b_shr, b_band, b_bor, b_bxor, a_add, a_sub, c_lt, c_le, c_gt, c_ge, c_eqi, c_nei, c_eqb, c_neb, c_isn, c_nisn, c_isb, c_nisb, eqD_ii, eqD_tt, eqD_ll, eqDs_n, eqDs_c, pl_int, pl_non, pl_bl, pl_tup, pl_lst, all_ints, List.all_cons, List.all_nil, fmod_e, fdiv_e, isNon_non, isNon_int, isNon_tup, isNon_lst, x_idxT, x_idxL, idxO_some, at_0, at_1, at_2, at_3, at_4, at_5, at_6, at_7, i_lenT, i_lenL, i_min2, i_max2, i_max3, i_min3, i_abs, i_sumi, i_sori, i_sorTi, i_tupT, i_tupL, i_lstT, i_lstL, i_inti, i_intb, ty_ii, ty_ib, ty_bi, ty_bb, ty_tt, ty_ti, noIns_int, noIns_bl, noIns_tup, noIns_lst, noIns_non, noIns_str, seqOf_tup, seqOf_lst, it_seqT, it_seqL, Nat.reduceAdd, Nat.reduceSub, Nat.reduceMul, Nat.reduceEqDiff, Nat.reduceLeDiff, Int.reduceEq, Int.reduceNe, Int.reduceLT, Int.reduceLE, Int.reduceGT, Int.reduceGE, Int.reduceAdd, Int.reduceSub, Int.reduceMul, Int.reduceNeg, Int.reduceToNat, Int.reducePow, Int.reduceAbs, Int.cast_ofNat_Int, List.map_cons, List.map_nil, List.append_nil, List.nil_append, List.cons_append, List.length_cons, List.length_nil, List.length_map, decide_true, decide_false, decide_eq_true_eq, Bool.not_eq_true', decide_eq_false_iff_not, Bool.and_eq_true, Bool.or_eq_true, not_true_eq_false, not_false_eq_true, Bool.not_true, Bool.not_false, Bool.true_and, Bool.and_true, Bool.false_and, Bool.and_false, Bool.or_false, Bool.false_or, Bool.true_or, Bool.or_true, Bool.false_eq_true, if_true, if_false, ite_true, ite_false, reduceIte, ite_self, beq_self_eq_true, Bool.true_eq_false])
  have f2 : ∀ (ts : List Th) (a b : Int), ts.foldl (fun (s' : Int × Int) t => (Builtin.bitOr s'.1 t.m, Builtin.bitAnd s'.2 t.m)) (a, b) = (orL a ts, andL b ts) := fun ts => by
    induction ts with
    | nil => intro a b; rfl
    | cons t ts ih => intro a b; rw [List.foldl_cons, ih]; rfl
  rw [f2] at fold
  have cw : evE (callN P n) (.comp (.idx (.var 6) (.con (.int 3))) [6] .seq [.var 0] none) [.sh (.lst (ts.map encT)), .sh (.lst (((List.range s).map (covJ ts)).map encS)), .sh (.lst (((List.range s).map (hrtJ ts)).map encS)), .no, .sh (.int (orL 0 ts)), .sh (.int (andL 65535 ts)), .no, .no, .no, .no, .no] = .ok (.lst (ts.map fun t => D.int t.w)) := by
    refine ev_compS (enc := encT) (by simp only [bind_ok, bind_no, bind_ex, bind_ite, gd_true, getS_0, getS_s, slV_sh, slB_ow, slO_ow, setS_0, setS_s, wipe_nil, wipe_cons, frS_ow, frS_sh, frS_no, tg_one, tg_tup, setVs_nil, setVs_cons, iteD_bl, and_bl, or_bl, and_blp, or_blp, nand_blp, nor_blp, ev_var, ev_bor, ev_con, ev_glb, ev_bin, ev_neg, negD_int, ev_nt, notD_bl, ev_cmp, ev_chain, ev_and, ev_or, ev_ite, ev_tup, ev_lst, ev_idx, ev_slc, ev_rvs, rvs_L, rvs_T, ev_bi, ev_isi, lends, lent_false, ev_call, ev_nil, ev_cons, ev_none, ev_some, intD_int, evE_comp, cmpT_none, cmpT_some, compD_map, compA_nil, compA_cons, cmpC_some, cmpC_none, compA_int, goB_nx, goB_bk, goB_ct, goB_rt, goB_ex, goB_ite, xB_nil, xB_cons, getX_0, getX_s, bodyOf_for, bodyOf_while, loopB_eq, condOf_while, thenOf_ite, elseOf_ite, seg_eq, List.drop_succ_cons, List.drop_zero, List.take_succ_cons, List.take_zero, x_asg, ownD_lst, x_own, x_unp, x_aug, x_put, x_app, x_ext, x_pop, popM_app, popM_one, x_ite, x_for, forT_eq, forD_nil, forD_cons, x_ret, ret_false, ret_int, ret_bl, ret_non, ret_tup, x_retR, x_retN, x_brk, x_cnt, x_pas, x_frz, x_del, endD_rt, endD_nx, endD_ex, endD_ite, iterO_nx, iterO_ct, iterO_bk, iterO_rt, iniS_0, iniS_n, iniS_c, b_add, b_sub, b_mul, b_addT, b_addL, b_rep, b_div, b_mod, b_pow, b_shl, b_shr, b_band, b_bor, b_bxor, a_add, a_sub, c_lt, c_le, c_gt, c_ge, c_eqi, c_nei, c_eqb, c_neb, c_isn, c_nisn, c_isb, c_nisb, eqD_ii, eqD_tt, eqD_ll, eqDs_n, eqDs_c, pl_int, pl_non, pl_bl, pl_tup, pl_lst, all_ints, List.all_cons, List.all_nil, fmod_e, fdiv_e, isNon_non, isNon_int, isNon_tup, isNon_lst, x_idxT, x_idxL, idxO_some, at_0, at_1, at_2, at_3, at_4, at_5, at_6, at_7, i_lenT, i_lenL, i_min2, i_max2, i_max3, i_min3, i_abs, i_sumi, i_sori, i_sorTi, i_tupT, i_tupL, i_lstT, i_lstL, i_inti, i_intb, ty_ii, ty_ib, ty_bi, ty_bb, ty_tt, ty_ti, noIns_int, noIns_bl, noIns_tup, noIns_lst, noIns_non, noIns_str, seqOf_tup, seqOf_lst, it_seqT, it_seqL, Nat.reduceAdd, Nat.reduceSub, Nat.reduceMul, Nat.reduceEqDiff, Nat.reduceLeDiff, Int.reduceEq, Int.reduceNe, Int.reduceLT, Int.reduceLE, Int.reduceGT, Int.reduceGE, Int.reduceAdd, Int.reduceSub, Int.reduceMul, Int.reduceNeg, Int.reduceToNat, Int.reducePow, Int.reduceAbs, Int.cast_ofNat_Int, List.map_cons, List.map_nil, List.append_nil, List.nil_append, List.cons_append, List.length_cons, List.length_nil, List.length_map, decide_true, decide_false, decide_eq_true_eq, Bool.not_eq_true', decide_eq_false_iff_not, Bool.and_eq_true, Bool.or_eq_true, not_true_eq_false, not_false_eq_true, Bool.not_true, Bool.not_false, Bool.true_and, Bool.and_true, Bool.false_and, Bool.and_false, Bool.or_false, Bool.false_or, Bool.true_or, Bool.or_true, Bool.false_eq_true, if_true, if_false, ite_true, ite_false, reduceIte, ite_self, beq_self_eq_true, Bool.true_eq_false]) (by omega) fun t ht => ?_
    unfold encT
    simp only [bind_ok, bind_no, bind_ex, bind_ite, gd_true, getS_0, getS_s, slV_sh, slB_ow, slO_ow, setS_0, setS_s, wipe_nil, wipe_cons, frS_ow, frS_sh, frS_no, tg_one, tg_tup, setVs_nil, setVs_cons, iteD_bl, and_bl, or_bl, and_blp, or_blp, nand_blp, nor_blp, ev_var, ev_bor, ev_con, ev_glb, ev_bin, ev_neg, negD_int, ev_nt, notD_bl, ev_cmp, ev_chain, ev_and, ev_or, ev_ite, ev_tup, ev_lst, ev_idx, ev_slc, ev_rvs, rvs_L, rvs_T, ev_bi, ev_isi, lends, lent_false, ev_call, ev_nil, ev_cons, ev_none, ev_some, intD_int, evE_comp, cmpT_none, cmpT_some, compD_map, compA_nil, compA_cons, cmpC_some, cmpC_none, compA_int, goB_nx, goB_bk, goB_ct, goB_rt, goB_ex, goB_ite, xB_nil, xB_cons, getX_0, getX_s, bodyOf_for, bodyOf_while, loopB_eq, condOf_while, thenOf_ite, elseOf_ite, seg_eq, List.drop_succ_cons, List.drop_zero, List.take_succ_cons, List.take_zero, x_asg, ownD_lst, x_own, x_unp, x_aug, x_put, x_app, x_ext, x_pop, popM_app, popM_one, x_ite, x_for, forT_eq, forD_nil, forD_cons, x_ret, ret_false, ret_int, ret_bl, ret_non, ret_tup, x_retR, x_retN, x_brk, x_cnt, x_pas, x_frz, x_del, endD_rt, endD_nx, endD_ex, endD_ite, iterO_nx, iterO_ct, iterO_bk, iterO_rt, iniS_0, iniS_n, iniS_c, b_add, b_sub, b_mul, b_addT, b_addL, b_rep, b_div, b_mod, b_pow, b_shl, b_shr, b_band, b_bor, b_bxor, a_add, a_sub, c_lt, c_le, c_gt, c_ge, c_eqi, c_nei, c_eqb, c_neb, c_isn, c_nisn, c_isb, c_nisb, eqD_ii, eqD_tt, eqD_ll, eqDs_n, eqDs_c, pl_int, pl_non, pl_bl, pl_tup, pl_lst, all_ints, List.all_cons, List.all_nil, fmod_e, fdiv_e, isNon_non, isNon_int, isNon_tup, isNon_lst, x_idxT, x_idxL, idxO_some, at_0, at_1, at_2, at_3, at_4, at_5, at_6, at_7, i_lenT, i_lenL, i_min2, i_max2, i_max3, i_min3, i_abs, i_sumi, i_sori, i_sorTi, i_tupT, i_tupL, i_lstT, i_lstL, i_inti, i_intb, ty_ii, ty_ib, ty_bi, ty_bb, ty_tt, ty_ti, noIns_int, noIns_bl, noIns_tup, noIns_lst, noIns_non, noIns_str, seqOf_tup, seqOf_lst, it_seqT, it_seqL, Nat.reduceAdd, Nat.reduceSub, Nat.reduceMul, Nat.reduceEqDiff, Nat.reduceLeDiff, Int.reduceEq, Int.reduceNe, Int.reduceLT, Int.reduceLE, Int.reduceGT, Int.reduceGE, Int.reduceAdd, Int.reduceSub, Int.reduceMul, Int.reduceNeg, Int.reduceToNat, Int.reducePow, Int.reduceAbs, Int.cast_ofNat_Int, List.map_cons, List.map_nil, List.append_nil, List.nil_append, List.cons_append, List.length_cons, List.length_nil, List.length_map, decide_true, decide_false, decide_eq_true_eq, Bool.not_eq_true', decide_eq_false_iff_not, Bool.and_eq_true, Bool.or_eq_true, not_true_eq_false, not_false_eq_true, Bool.not_true, Bool.not_false, Bool.true_and, Bool.and_true, Bool.false_and, Bool.and_false, Bool.or_false, Bool.false_or, Bool.true_or, Bool.or_true, Bool.false_eq_true, if_true, if_false, ite_true, ite_false, reduceIte, ite_self, beq_self_eq_true, Bool.true_eq_false]
  have lenT : biD .len [.tup (t0.s.map encS)] = .ok (.int (s : Nat)) := by rw [i_lenT, List.length_map, g0]
  unfold b_law_told_4 at e fold ⊢
  simp only [bind_ok, bind_no, bind_ex, bind_ite, gd_true, getS_0, getS_s, slV_sh, slB_ow, slO_ow, setS_0, setS_s, wipe_nil, wipe_cons, frS_ow, frS_sh, frS_no, tg_one, tg_tup, setVs_nil, setVs_cons, iteD_bl, and_bl, or_bl, and_blp, or_blp, nand_blp, nor_blp, ev_var, ev_bor, ev_con, ev_glb, ev_bin, ev_neg, negD_int, ev_nt, notD_bl, ev_cmp, ev_chain, ev_and, ev_or, ev_ite, ev_tup, ev_lst, ev_idx, ev_slc, ev_rvs, rvs_L, rvs_T, ev_bi, ev_isi, lends, lent_false, ev_call, ev_nil, ev_cons, ev_none, ev_some, intD_int, evE_comp, cmpT_none, cmpT_some, compD_map, compA_nil, compA_cons, cmpC_some, cmpC_none, compA_int, goB_nx, goB_bk, goB_ct, goB_rt, goB_ex, goB_ite, xB_nil, xB_cons, getX_0, getX_s, bodyOf_for, bodyOf_while, loopB_eq, condOf_while, thenOf_ite, elseOf_ite, seg_eq, List.drop_succ_cons, List.drop_zero, List.take_succ_cons, List.take_zero, x_asg, ownD_lst, x_own, x_unp, x_aug, x_put, x_app, x_ext, x_pop, popM_app, popM_one, x_ite, x_for, forT_eq, forD_nil, forD_cons, x_ret, ret_false, ret_int, ret_bl, ret_non, ret_tup, x_retR, x_retN, x_brk, x_cnt, x_pas, x_frz, x_del, endD_rt, endD_nx, endD_ex, endD_ite, iterO_nx, iterO_ct, iterO_bk, iterO_rt, iniS_0, iniS_n, iniS_c, b_add, b_sub, b_mul, b_addT, b_addL, b_rep, b_div, b_mod, b_pow, b_shl, b_shr, b_band, b_bor, b_bxor, a_add, a_sub, c_lt, c_le, c_gt, c_ge, c_eqi, c_nei, c_eqb, c_neb, c_isn, c_nisn, c_isb, c_nisb, eqD_ii, eqD_tt, eqD_ll, eqDs_n, eqDs_c, pl_int, pl_non, pl_bl, pl_tup, pl_lst, all_ints, List.all_cons, List.all_nil, fmod_e, fdiv_e, isNon_non, isNon_int, isNon_tup, isNon_lst, x_idxT, x_idxL, idxO_some, at_0, at_1, at_2, at_3, at_4, at_5, at_6, at_7, i_lenT, i_lenL, i_min2, i_max2, i_max3, i_min3, i_abs, i_sumi, i_sori, i_sorTi, i_tupT, i_tupL, i_lstT, i_lstL, i_inti, i_intb, ty_ii, ty_ib, ty_bi, ty_bb, ty_tt, ty_ti, noIns_int, noIns_bl, noIns_tup, noIns_lst, noIns_non, noIns_str, seqOf_tup, seqOf_lst, it_seqT, it_seqL, Nat.reduceAdd, Nat.reduceSub, Nat.reduceMul, Nat.reduceEqDiff, Nat.reduceLeDiff, Int.reduceEq, Int.reduceNe, Int.reduceLT, Int.reduceLE, Int.reduceGT, Int.reduceGE, Int.reduceAdd, Int.reduceSub, Int.reduceMul, Int.reduceNeg, Int.reduceToNat, Int.reducePow, Int.reduceAbs, Int.cast_ofNat_Int, List.map_cons, List.map_nil, List.append_nil, List.nil_append, List.cons_append, List.length_cons, List.length_nil, List.length_map, decide_true, decide_false, decide_eq_true_eq, Bool.not_eq_true', decide_eq_false_iff_not, Bool.and_eq_true, Bool.or_eq_true, not_true_eq_false, not_false_eq_true, Bool.not_true, Bool.not_false, Bool.true_and, Bool.and_true, Bool.false_and, Bool.and_false, Bool.or_false, Bool.false_or, Bool.true_or, Bool.or_true, Bool.false_eq_true, if_true, if_false, ite_true, ite_false, reduceIte, ite_self, beq_self_eq_true, Bool.true_eq_false] at e fold
  have e1 : L2.atI [D.int t0.h, .tup (t0.s.map encS), .int t0.m, .int t0.w] 1 = some (.tup (t0.s.map encS)) := rfl
  simp only [bind_ok, bind_no, bind_ex, bind_ite, gd_true, getS_0, getS_s, slV_sh, slB_ow, slO_ow, setS_0, setS_s, wipe_nil, wipe_cons, frS_ow, frS_sh, frS_no, tg_one, tg_tup, setVs_nil, setVs_cons, iteD_bl, and_bl, or_bl, and_blp, or_blp, nand_blp, nor_blp, ev_var, ev_bor, ev_con, ev_glb, ev_bin, ev_neg, negD_int, ev_nt, notD_bl, ev_cmp, ev_chain, ev_and, ev_or, ev_ite, ev_tup, ev_lst, ev_idx, ev_slc, ev_rvs, rvs_L, rvs_T, ev_bi, ev_isi, lends, lent_false, ev_call, ev_nil, ev_cons, ev_none, ev_some, intD_int, evE_comp, cmpT_none, cmpT_some, compD_map, compA_nil, compA_cons, cmpC_some, cmpC_none, compA_int, goB_nx, goB_bk, goB_ct, goB_rt, goB_ex, goB_ite, xB_nil, xB_cons, getX_0, getX_s, bodyOf_for, bodyOf_while, loopB_eq, condOf_while, thenOf_ite, elseOf_ite, seg_eq, List.drop_succ_cons, List.drop_zero, List.take_succ_cons, List.take_zero, x_asg, ownD_lst, x_own, x_unp, x_aug, x_put, x_app, x_ext, x_pop, popM_app, popM_one, x_ite, x_for, forT_eq, forD_nil, forD_cons, x_ret, ret_false, ret_int, ret_bl, ret_non, ret_tup, x_retR, x_retN, x_brk, x_cnt, x_pas, x_frz, x_del, endD_rt, endD_nx, endD_ex, endD_ite, iterO_nx, iterO_ct, iterO_bk, iterO_rt, iniS_0, iniS_n, iniS_c, b_add, b_sub, b_mul, b_addT, b_addL, b_rep, b_div, b_mod, b_pow, b_shl, b_shr, b_band, b_bor, b_bxor, a_add, a_sub, c_lt, c_le, c_gt, c_ge, c_eqi, c_nei, c_eqb, c_neb, c_isn, c_nisn, c_isb, c_nisb, eqD_ii, eqD_tt, eqD_ll, eqDs_n, eqDs_c, pl_int, pl_non, pl_bl, pl_tup, pl_lst, all_ints, List.all_cons, List.all_nil, fmod_e, fdiv_e, isNon_non, isNon_int, isNon_tup, isNon_lst, x_idxT, x_idxL, idxO_some, at_0, at_1, at_2, at_3, at_4, at_5, at_6, at_7, i_lenT, i_lenL, i_min2, i_max2, i_max3, i_min3, i_abs, i_sumi, i_sori, i_sorTi, i_tupT, i_tupL, i_lstT, i_lstL, i_inti, i_intb, ty_ii, ty_ib, ty_bi, ty_bb, ty_tt, ty_ti, noIns_int, noIns_bl, noIns_tup, noIns_lst, noIns_non, noIns_str, seqOf_tup, seqOf_lst, it_seqT, it_seqL, Nat.reduceAdd, Nat.reduceSub, Nat.reduceMul, Nat.reduceEqDiff, Nat.reduceLeDiff, Int.reduceEq, Int.reduceNe, Int.reduceLT, Int.reduceLE, Int.reduceGT, Int.reduceGE, Int.reduceAdd, Int.reduceSub, Int.reduceMul, Int.reduceNeg, Int.reduceToNat, Int.reducePow, Int.reduceAbs, Int.cast_ofNat_Int, List.map_cons, List.map_nil, List.append_nil, List.nil_append, List.cons_append, List.length_cons, List.length_nil, List.length_map, decide_true, decide_false, decide_eq_true_eq, Bool.not_eq_true', decide_eq_false_iff_not, Bool.and_eq_true, Bool.or_eq_true, not_true_eq_false, not_false_eq_true, Bool.not_true, Bool.not_false, Bool.true_and, Bool.and_true, Bool.false_and, Bool.and_false, Bool.or_false, Bool.false_or, Bool.true_or, Bool.or_true, Bool.false_eq_true, if_true, if_false, ite_true, ite_false, reduceIte, ite_self, beq_self_eq_true, Bool.true_eq_false, nz, e0, encT, encF, g0, it_rng1n (show s < 2 ^ 62 by omega), e, fold, hf, compA_ok, mn, mx, i_min1 (ne _), i_max1 (ne _), i_sumf]
  unfold encD told encF
  simp only [bind_ok, bind_no, bind_ex, bind_ite, gd_true, getS_0, getS_s, slV_sh, slB_ow, slO_ow, setS_0, setS_s, wipe_nil, wipe_cons, frS_ow, frS_sh, frS_no, tg_one, tg_tup, setVs_nil, setVs_cons, iteD_bl, and_bl, or_bl, and_blp, or_blp, nand_blp, nor_blp, ev_var, ev_bor, ev_con, ev_glb, ev_bin, ev_neg, negD_int, ev_nt, notD_bl, ev_cmp, ev_chain, ev_and, ev_or, ev_ite, ev_tup, ev_lst, ev_idx, ev_slc, ev_rvs, rvs_L, rvs_T, ev_bi, ev_isi, lends, lent_false, ev_call, ev_nil, ev_cons, ev_none, ev_some, intD_int, evE_comp, cmpT_none, cmpT_some, compD_map, compA_nil, compA_cons, cmpC_some, cmpC_none, compA_int, goB_nx, goB_bk, goB_ct, goB_rt, goB_ex, goB_ite, xB_nil, xB_cons, getX_0, getX_s, bodyOf_for, bodyOf_while, loopB_eq, condOf_while, thenOf_ite, elseOf_ite, seg_eq, List.drop_succ_cons, List.drop_zero, List.take_succ_cons, List.take_zero, x_asg, ownD_lst, x_own, x_unp, x_aug, x_put, x_app, x_ext, x_pop, popM_app, popM_one, x_ite, x_for, forT_eq, forD_nil, forD_cons, x_ret, ret_false, ret_int, ret_bl, ret_non, ret_tup, x_retR, x_retN, x_brk, x_cnt, x_pas, x_frz, x_del, endD_rt, endD_nx, endD_ex, endD_ite, iterO_nx, iterO_ct, iterO_bk, iterO_rt, iniS_0, iniS_n, iniS_c, b_add, b_sub, b_mul, b_addT, b_addL, b_rep, b_div, b_mod, b_pow, b_shl, b_shr, b_band, b_bor, b_bxor, a_add, a_sub, c_lt, c_le, c_gt, c_ge, c_eqi, c_nei, c_eqb, c_neb, c_isn, c_nisn, c_isb, c_nisb, eqD_ii, eqD_tt, eqD_ll, eqDs_n, eqDs_c, pl_int, pl_non, pl_bl, pl_tup, pl_lst, all_ints, List.all_cons, List.all_nil, fmod_e, fdiv_e, isNon_non, isNon_int, isNon_tup, isNon_lst, x_idxT, x_idxL, idxO_some, at_0, at_1, at_2, at_3, at_4, at_5, at_6, at_7, i_lenT, i_lenL, i_min2, i_max2, i_max3, i_min3, i_abs, i_sumi, i_sori, i_sorTi, i_tupT, i_tupL, i_lstT, i_lstL, i_inti, i_intb, ty_ii, ty_ib, ty_bi, ty_bb, ty_tt, ty_ti, noIns_int, noIns_bl, noIns_tup, noIns_lst, noIns_non, noIns_str, seqOf_tup, seqOf_lst, it_seqT, it_seqL, Nat.reduceAdd, Nat.reduceSub, Nat.reduceMul, Nat.reduceEqDiff, Nat.reduceLeDiff, Int.reduceEq, Int.reduceNe, Int.reduceLT, Int.reduceLE, Int.reduceGT, Int.reduceGE, Int.reduceAdd, Int.reduceSub, Int.reduceMul, Int.reduceNeg, Int.reduceToNat, Int.reducePow, Int.reduceAbs, Int.cast_ofNat_Int, List.map_cons, List.map_nil, List.append_nil, List.nil_append, List.cons_append, List.length_cons, List.length_nil, List.length_map, decide_true, decide_false, decide_eq_true_eq, Bool.not_eq_true', decide_eq_false_iff_not, Bool.and_eq_true, Bool.or_eq_true, not_true_eq_false, not_false_eq_true, Bool.not_true, Bool.not_false, Bool.true_and, Bool.and_true, Bool.false_and, Bool.and_false, Bool.or_false, Bool.false_or, Bool.true_or, Bool.or_true, Bool.false_eq_true, if_true, if_false, ite_true, ite_false, reduceIte, ite_self, beq_self_eq_true, Bool.true_eq_false]
/-! the law's thing of k31 .. -/
theorem law_draw_ok (n : Nat) (seed j many : Int) (hs : 0 ≤ seed ∧ seed < 10 ^ 60) (hj : 0 ≤ j ∧ j ≤ 1000) (hm : 0 < many) : ∃ v, (0 ≤ v ∧ v < many) ∧ callN P (n + 1) n_law_draw [.int seed, .int j, .int many] = .ok (.int v) := by
  rw [callN_eq P_law_draw _ (by simp)]
  have p33 : powOk 10 33 = true := by decide
  have d13 : divOk 13 = true := by decide
  have nz : ¬ many = 0 := by omega
  have m5 : mulOk 5 j = true := mul_ok1 (by decide)
  have a1 := mul_nn_bd (a := seed + 3 + j) (b := seed + 5 * j + 11) (A := 2 ^ 400) (B := 2 ^ 400) (by constructor <;> omega) (by constructor <;> omega)
  have x1 : mulOk (seed + 3 + j) (seed + 5 * j + 11) = true := mul_okB (by constructor <;> omega) (by constructor <;> omega)
  have x2 : mulOk ((seed + 3 + j) * (seed + 5 * j + 11)) (1000000000000000000000000000000000 + 7) = true := mul_okB ⟨a1.1, Int.lt_of_le_of_lt a1.2 (by decide)⟩ (by decide)
  simp only [Int.reduceAdd] at x2
  unfold b_law_draw
  exact ⟨(seed + 3 + j) * (seed + 5 * j + 11) * 1000000000000000000000000000000007 / 13 % many, emod_bd _ many hm, by simp only [bind_ok, bind_no, bind_ex, bind_ite, gd_true, getS_0, getS_s, slV_sh, slB_ow, slO_ow, setS_0, setS_s, wipe_nil, wipe_cons, frS_ow, frS_sh, frS_no, tg_one, tg_tup, setVs_nil, setVs_cons, iteD_bl, and_bl, or_bl, and_blp, or_blp, nand_blp, nor_blp, ev_var, ev_bor, ev_con, ev_glb, ev_bin, ev_neg, negD_int, ev_nt, notD_bl, ev_cmp, ev_chain, ev_and, ev_or, ev_ite, ev_tup, ev_lst, ev_idx, ev_slc, ev_rvs, rvs_L, rvs_T, ev_bi, ev_isi, lends, lent_false, ev_call, ev_nil, ev_cons, ev_none, ev_some, intD_int, evE_comp, cmpT_none, cmpT_some, compD_map, compA_nil, compA_cons, cmpC_some, cmpC_none, compA_int, goB_nx, goB_bk, goB_ct, goB_rt, goB_ex, goB_ite, xB_nil, xB_cons, getX_0, getX_s, bodyOf_for, bodyOf_while, loopB_eq, condOf_while, thenOf_ite, elseOf_ite, seg_eq, List.drop_succ_cons, List.drop_zero, List.take_succ_cons, List.take_zero, x_asg, ownD_lst, x_own, x_unp, x_aug, x_put, x_app, x_ext, x_pop, popM_app, popM_one, x_ite, x_for, forT_eq, forD_nil, forD_cons, x_ret, ret_false, ret_int, ret_bl, ret_non, ret_tup, x_retR, x_retN, x_brk, x_cnt, x_pas, x_frz, x_del, endD_rt, endD_nx, endD_ex, endD_ite, iterO_nx, iterO_ct, iterO_bk, iterO_rt, iniS_0, iniS_n, iniS_c, b_add, b_sub, b_mul, b_addT, b_addL, b_rep, b_div, b_mod, b_pow, b_shl, b_shr, b_band, b_bor, b_bxor, a_add, a_sub, c_lt, c_le, c_gt, c_ge, c_eqi, c_nei, c_eqb, c_neb, c_isn, c_nisn, c_isb, c_nisb, eqD_ii, eqD_tt, eqD_ll, eqDs_n, eqDs_c, pl_int, pl_non, pl_bl, pl_tup, pl_lst, all_ints, List.all_cons, List.all_nil, fmod_e, fdiv_e, isNon_non, isNon_int, isNon_tup, isNon_lst, x_idxT, x_idxL, idxO_some, at_0, at_1, at_2, at_3, at_4, at_5, at_6, at_7, i_lenT, i_lenL, i_min2, i_max2, i_max3, i_min3, i_abs, i_sumi, i_sori, i_sorTi, i_tupT, i_tupL, i_lstT, i_lstL, i_inti, i_intb, ty_ii, ty_ib, ty_bi, ty_bb, ty_tt, ty_ti, noIns_int, noIns_bl, noIns_tup, noIns_lst, noIns_non, noIns_str, seqOf_tup, seqOf_lst, it_seqT, it_seqL, Nat.reduceAdd, Nat.reduceSub, Nat.reduceMul, Nat.reduceEqDiff, Nat.reduceLeDiff, Int.reduceEq, Int.reduceNe, Int.reduceLT, Int.reduceLE, Int.reduceGT, Int.reduceGE, Int.reduceAdd, Int.reduceSub, Int.reduceMul, Int.reduceNeg, Int.reduceToNat, Int.reducePow, Int.reduceAbs, Int.cast_ofNat_Int, List.map_cons, List.map_nil, List.append_nil, List.nil_append, List.cons_append, List.length_cons, List.length_nil, List.length_map, decide_true, decide_false, decide_eq_true_eq, Bool.not_eq_true', decide_eq_false_iff_not, Bool.and_eq_true, Bool.or_eq_true, not_true_eq_false, not_false_eq_true, Bool.not_true, Bool.not_false, Bool.true_and, Bool.and_true, Bool.false_and, Bool.and_false, Bool.or_false, Bool.false_or, Bool.true_or, Bool.or_true, Bool.false_eq_true, if_true, if_false, ite_true, ite_false, reduceIte, ite_self, beq_self_eq_true, Bool.true_eq_false, p33, d13, m5, x1, x2, nz, fmod_e (show 0 ≤ many by omega)]⟩
theorem at_m3 (a b c : Int) (i : Int) : ∃ x, (x = a ∨ x = b ∨ x = c) ∧ L2.atI [D.int a, .int b, .int c] (i % 3) = some (.int x) := by
  have : i % 3 = 0 ∨ i % 3 = 1 ∨ i % 3 = 2 := by omega
  rcases this with h | h | h
  · exact ⟨a, .inl rfl, by rw [h]; rfl⟩
  · exact ⟨b, .inr (.inl rfl), by rw [h]; rfl⟩
  · exact ⟨c, .inr (.inr rfl), by rw [h]; rfl⟩
theorem at_m2 (a b : Int) (i : Int) : ∃ x, (x = a ∨ x = b) ∧ L2.atI [D.int a, .int b] (i % 2) = some (.int x) := by
  have : i % 2 = 0 ∨ i % 2 = 1 := by omega
  rcases this with h | h
  · exact ⟨a, .inl rfl, by rw [h]; rfl⟩
  · exact ⟨b, .inr rfl, by rw [h]; rfl⟩
theorem law_thing3_ok (n : Nat) (cell k way : Int) {s : Nat} (hs : s = 2 ∨ s = 3) (hk : 0 ≤ k ∧ k ≤ 1000) (hw : 0 ≤ way) : ∃ t, GT s t ∧ callN P (n + 2) n_law_thing_3 [.int cell, .int k, .int (s : Nat), .int way] = .ok (encT t) := by
  rw [callN_eq P_law_thing_3 _ (by simp)]
  obtain ⟨far, hfar, efar⟩ := at_m3 12 90 999999999999999999999999999999 way
  obtain ⟨fast, hfast, efast⟩ := at_m3 0 4 999999999999999 (way / 3)
  obtain ⟨ww, hww, eww⟩ := at_m3 1 9 (far + 1) (way / 9)
  obtain ⟨mk, hmk, emk⟩ := at_m2 4 65536 (way / 2)
  have p40 : powOk 10 40 = true := by decide
  have p30 : powOk 10 30 = true := by decide
  have p15 : powOk 10 15 = true := by decide
  have p14 : powOk 10 14 = true := by decide
  have m1 : ∀ v : Int, mulOk 7919 v = true := fun v => mul_ok1 (by decide)
  have m2 : mulOk (7919 * k) k = true := mul_ok2 (by omega)
  have m3 : ∀ v : Int, mulOk 2 v = true := fun v => mul_ok1 (by decide)
  have m4 : ∀ v : Int, mulOk v 1000 = true := fun v => mul_ok2 (by decide)
  have m5 : ∀ v : Int, mulOk k v = true := fun v => mul_ok1 (by omega)
  have d3 : divOk 3 = true := by decide
  have d9 : divOk 9 = true := by decide
  have k2 := mul_nn_bd (a := 7919 * k) (b := k) (A := 7919000) (B := 1000) (by omega) (by omega)
  have r0 := emod_bd cell 10000000000000000000000000000000000000000 (by decide)
  generalize hseed : cell % 10000000000000000000000000000000000000000 + 7919 * k * k = seed at *
  have hsd : 0 ≤ seed ∧ seed < 10 ^ 60 := by omega
  have hf0 : 0 < far ∧ far ≤ 999999999999999999999999999999 := by omega
  have hf1 : 0 ≤ fast ∧ fast ≤ 999999999999999 := by omega
  have hw0 : 0 < ww := by omega
  obtain ⟨h1, bh1, eh1⟩ := law_draw_ok n seed 21 100000000000000 hsd (by decide) (by decide)
  obtain ⟨w1, bw1, ew1⟩ := law_draw_ok n seed 28 (2 * far + 1) hsd (by decide) (by omega)
  obtain ⟨q1, bq1, eq1⟩ := law_draw_ok n seed 35 mk hsd (by decide) (by omega)
  have loop := for_rng (f := forT (callN P (n + 1)) false [8] (loopB b_law_thing_3 5)) (g := fun j : Nat => D.int (j : Int)) (fun j ρ => ∃ row : List Sd, ρ = [.no, .sh (.int k), .sh (.int (s : Nat)), .sh (.int way), .sh (.int seed), .sh (.int far), .sh (.int fast), .ow (row.map encS), .no, .no, .no, .no, .no, .no] ∧ row.length = j ∧ ∀ p ∈ row, GW p ∧ p.2.2.1 = p.2.2.2) s (ρ := [.no, .sh (.int k), .sh (.int (s : Nat)), .sh (.int way), .sh (.int seed), .sh (.int far), .sh (.int fast), .ow [], .no, .no, .no, .no, .no, .no]) ⟨[], rfl, rfl, fun p hp => by cases hp⟩ (fun j ρ hj hI => by
    obtain ⟨row, rfl, hl, hrow⟩ := hI
    have hj3 : j ≤ 3 := by omega
    obtain ⟨a, ba, ea⟩ := law_draw_ok n seed (j : Int) (2 * far + 1) hsd (by omega) (by omega)
    obtain ⟨b, bb, eb⟩ := law_draw_ok n seed ((j : Int) + 7) ww hsd (by omega) (by omega)
    obtain ⟨c, bc, ec⟩ := law_draw_ok n seed ((j : Int) + 14) (2 * fast + 1) hsd (by omega) (by omega)
    have dk : decide (row.length < sizeLine) = true := dec_size (by omega)
    refine ⟨_, ?_, row ++ [(a - far, min far (a - far + b), c - fast, c - fast)], rfl, by rw [List.length_append]; simp [hl], fun p hp => ?_⟩
    · unfold b_law_thing_3
      simp only [bind_ok, bind_no, bind_ex, bind_ite, gd_true, getS_0, getS_s, slV_sh, slB_ow, slO_ow, setS_0, setS_s, wipe_nil, wipe_cons, frS_ow, frS_sh, frS_no, tg_one, tg_tup, setVs_nil, setVs_cons, iteD_bl, and_bl, or_bl, and_blp, or_blp, nand_blp, nor_blp, ev_var, ev_bor, ev_con, ev_glb, ev_bin, ev_neg, negD_int, ev_nt, notD_bl, ev_cmp, ev_chain, ev_and, ev_or, ev_ite, ev_tup, ev_lst, ev_idx, ev_slc, ev_rvs, rvs_L, rvs_T, ev_bi, ev_isi, lends, lent_false, ev_call, ev_nil, ev_cons, ev_none, ev_some, intD_int, evE_comp, cmpT_none, cmpT_some, compD_map, compA_nil, compA_cons, cmpC_some, cmpC_none, compA_int, goB_nx, goB_bk, goB_ct, goB_rt, goB_ex, goB_ite, xB_nil, xB_cons, getX_0, getX_s, bodyOf_for, bodyOf_while, loopB_eq, condOf_while, thenOf_ite, elseOf_ite, seg_eq, List.drop_succ_cons, List.drop_zero, List.take_succ_cons, List.take_zero, x_asg, ownD_lst, x_own, x_unp, x_aug, x_put, x_app, x_ext, x_pop, popM_app, popM_one, x_ite, x_for, forT_eq, forD_nil, forD_cons, x_ret, ret_false, ret_int, ret_bl, ret_non, ret_tup, x_retR, x_retN, x_brk, x_cnt, x_pas, x_frz, x_del, endD_rt, endD_nx, endD_ex, endD_ite, iterO_nx, iterO_ct, iterO_bk, iterO_rt, iniS_0, iniS_n, iniS_c, b_add, b_sub, b_mul, b_addT, b_addL, b_rep, b_div, b_mod, b_pow, b_shl, b_shr, b_band, b_bor, b_bxor, a_add, a_sub, c_lt, c_le, c_gt, c_ge, c_eqi, c_nei, c_eqb, c_neb, c_isn, c_nisn, c_isb, c_nisb, eqD_ii, eqD_tt, eqD_ll, eqDs_n, eqDs_c, pl_int, pl_non, pl_bl, pl_tup, pl_lst, all_ints, List.all_cons, List.all_nil, fmod_e, fdiv_e, isNon_non, isNon_int, isNon_tup, isNon_lst, x_idxT, x_idxL, idxO_some, at_0, at_1, at_2, at_3, at_4, at_5, at_6, at_7, i_lenT, i_lenL, i_min2, i_max2, i_max3, i_min3, i_abs, i_sumi, i_sori, i_sorTi, i_tupT, i_tupL, i_lstT, i_lstL, i_inti, i_intb, ty_ii, ty_ib, ty_bi, ty_bb, ty_tt, ty_ti, noIns_int, noIns_bl, noIns_tup, noIns_lst, noIns_non, noIns_str, seqOf_tup, seqOf_lst, it_seqT, it_seqL, Nat.reduceAdd, Nat.reduceSub, Nat.reduceMul, Nat.reduceEqDiff, Nat.reduceLeDiff, Int.reduceEq, Int.reduceNe, Int.reduceLT, Int.reduceLE, Int.reduceGT, Int.reduceGE, Int.reduceAdd, Int.reduceSub, Int.reduceMul, Int.reduceNeg, Int.reduceToNat, Int.reducePow, Int.reduceAbs, Int.cast_ofNat_Int, List.map_cons, List.map_nil, List.append_nil, List.nil_append, List.cons_append, List.length_cons, List.length_nil, List.length_map, decide_true, decide_false, decide_eq_true_eq, Bool.not_eq_true', decide_eq_false_iff_not, Bool.and_eq_true, Bool.or_eq_true, not_true_eq_false, not_false_eq_true, Bool.not_true, Bool.not_false, Bool.true_and, Bool.and_true, Bool.false_and, Bool.and_false, Bool.or_false, Bool.false_or, Bool.true_or, Bool.or_true, Bool.false_eq_true, if_true, if_false, ite_true, ite_false, reduceIte, ite_self, beq_self_eq_true, Bool.true_eq_false, m3, ea, eb, ec, d9, eww, dk, List.map_append, encS]
    · rcases List.mem_append.1 hp with hp | hp
      · exact hrow p hp
      · rw [List.mem_singleton.1 hp]
        clear hfar hfast hww hmk hsd r0 hseed k2 bh1 bw1 bq1
        unfold GW
        simp only
        refine ⟨⟨⟨?_, ?_, ?_⟩, ?_, ?_, ?_⟩, trivial⟩ <;> omega)
  obtain ⟨ρ', e, row, rfl, hl, hrow⟩ := loop
  have hs62 : s < 2 ^ 62 := by omega
  unfold b_law_thing_3 at e ⊢
  simp only [bind_ok, bind_no, bind_ex, bind_ite, gd_true, getS_0, getS_s, slV_sh, slB_ow, slO_ow, setS_0, setS_s, wipe_nil, wipe_cons, frS_ow, frS_sh, frS_no, tg_one, tg_tup, setVs_nil, setVs_cons, iteD_bl, and_bl, or_bl, and_blp, or_blp, nand_blp, nor_blp, ev_var, ev_bor, ev_con, ev_glb, ev_bin, ev_neg, negD_int, ev_nt, notD_bl, ev_cmp, ev_chain, ev_and, ev_or, ev_ite, ev_tup, ev_lst, ev_idx, ev_slc, ev_rvs, rvs_L, rvs_T, ev_bi, ev_isi, lends, lent_false, ev_call, ev_nil, ev_cons, ev_none, ev_some, intD_int, evE_comp, cmpT_none, cmpT_some, compD_map, compA_nil, compA_cons, cmpC_some, cmpC_none, compA_int, goB_nx, goB_bk, goB_ct, goB_rt, goB_ex, goB_ite, xB_nil, xB_cons, getX_0, getX_s, bodyOf_for, bodyOf_while, loopB_eq, condOf_while, thenOf_ite, elseOf_ite, seg_eq, List.drop_succ_cons, List.drop_zero, List.take_succ_cons, List.take_zero, x_asg, ownD_lst, x_own, x_unp, x_aug, x_put, x_app, x_ext, x_pop, popM_app, popM_one, x_ite, x_for, forT_eq, forD_nil, forD_cons, x_ret, ret_false, ret_int, ret_bl, ret_non, ret_tup, x_retR, x_retN, x_brk, x_cnt, x_pas, x_frz, x_del, endD_rt, endD_nx, endD_ex, endD_ite, iterO_nx, iterO_ct, iterO_bk, iterO_rt, iniS_0, iniS_n, iniS_c, b_add, b_sub, b_mul, b_addT, b_addL, b_rep, b_div, b_mod, b_pow, b_shl, b_shr, b_band, b_bor, b_bxor, a_add, a_sub, c_lt, c_le, c_gt, c_ge, c_eqi, c_nei, c_eqb, c_neb, c_isn, c_nisn, c_isb, c_nisb, eqD_ii, eqD_tt, eqD_ll, eqDs_n, eqDs_c, pl_int, pl_non, pl_bl, pl_tup, pl_lst, all_ints, List.all_cons, List.all_nil, fmod_e, fdiv_e, isNon_non, isNon_int, isNon_tup, isNon_lst, x_idxT, x_idxL, idxO_some, at_0, at_1, at_2, at_3, at_4, at_5, at_6, at_7, i_lenT, i_lenL, i_min2, i_max2, i_max3, i_min3, i_abs, i_sumi, i_sori, i_sorTi, i_tupT, i_tupL, i_lstT, i_lstL, i_inti, i_intb, ty_ii, ty_ib, ty_bi, ty_bb, ty_tt, ty_ti, noIns_int, noIns_bl, noIns_tup, noIns_lst, noIns_non, noIns_str, seqOf_tup, seqOf_lst, it_seqT, it_seqL, Nat.reduceAdd, Nat.reduceSub, Nat.reduceMul, Nat.reduceEqDiff, Nat.reduceLeDiff, Int.reduceEq, Int.reduceNe, Int.reduceLT, Int.reduceLE, Int.reduceGT, Int.reduceGE, Int.reduceAdd, Int.reduceSub, Int.reduceMul, Int.reduceNeg, Int.reduceToNat, Int.reducePow, Int.reduceAbs, Int.cast_ofNat_Int, List.map_cons, List.map_nil, List.append_nil, List.nil_append, List.cons_append, List.length_cons, List.length_nil, List.length_map, decide_true, decide_false, decide_eq_true_eq, Bool.not_eq_true', decide_eq_false_iff_not, Bool.and_eq_true, Bool.or_eq_true, not_true_eq_false, not_false_eq_true, Bool.not_true, Bool.not_false, Bool.true_and, Bool.and_true, Bool.false_and, Bool.and_false, Bool.or_false, Bool.false_or, Bool.true_or, Bool.or_true, Bool.false_eq_true, if_true, if_false, ite_true, ite_false, reduceIte, ite_self, beq_self_eq_true, Bool.true_eq_false] at e
  by_cases h2 : way % 2 = 1
  · refine ⟨⟨k * 100000000000000 + h1, row, q1, w1 - far⟩, ⟨hl, hrow, by simp only; omega, by simp only; omega, by simp only; omega⟩, ?_⟩
    simp only [bind_ok, bind_no, bind_ex, bind_ite, gd_true, getS_0, getS_s, slV_sh, slB_ow, slO_ow, setS_0, setS_s, wipe_nil, wipe_cons, frS_ow, frS_sh, frS_no, tg_one, tg_tup, setVs_nil, setVs_cons, iteD_bl, and_bl, or_bl, and_blp, or_blp, nand_blp, nor_blp, ev_var, ev_bor, ev_con, ev_glb, ev_bin, ev_neg, negD_int, ev_nt, notD_bl, ev_cmp, ev_chain, ev_and, ev_or, ev_ite, ev_tup, ev_lst, ev_idx, ev_slc, ev_rvs, rvs_L, rvs_T, ev_bi, ev_isi, lends, lent_false, ev_call, ev_nil, ev_cons, ev_none, ev_some, intD_int, evE_comp, cmpT_none, cmpT_some, compD_map, compA_nil, compA_cons, cmpC_some, cmpC_none, compA_int, goB_nx, goB_bk, goB_ct, goB_rt, goB_ex, goB_ite, xB_nil, xB_cons, getX_0, getX_s, bodyOf_for, bodyOf_while, loopB_eq, condOf_while, thenOf_ite, elseOf_ite, seg_eq, List.drop_succ_cons, List.drop_zero, List.take_succ_cons, List.take_zero, x_asg, ownD_lst, x_own, x_unp, x_aug, x_put, x_app, x_ext, x_pop, popM_app, popM_one, x_ite, x_for, forT_eq, forD_nil, forD_cons, x_ret, ret_false, ret_int, ret_bl, ret_non, ret_tup, x_retR, x_retN, x_brk, x_cnt, x_pas, x_frz, x_del, endD_rt, endD_nx, endD_ex, endD_ite, iterO_nx, iterO_ct, iterO_bk, iterO_rt, iniS_0, iniS_n, iniS_c, b_add, b_sub, b_mul, b_addT, b_addL, b_rep, b_div, b_mod, b_pow, b_shl, b_shr, b_band, b_bor, b_bxor, a_add, a_sub, c_lt, c_le, c_gt, c_ge, c_eqi, c_nei, c_eqb, c_neb, c_isn, c_nisn, c_isb, c_nisb, eqD_ii, eqD_tt, eqD_ll, eqDs_n, eqDs_c, pl_int, pl_non, pl_bl, pl_tup, pl_lst, all_ints, List.all_cons, List.all_nil, fmod_e, fdiv_e, isNon_non, isNon_int, isNon_tup, isNon_lst, x_idxT, x_idxL, idxO_some, at_0, at_1, at_2, at_3, at_4, at_5, at_6, at_7, i_lenT, i_lenL, i_min2, i_max2, i_max3, i_min3, i_abs, i_sumi, i_sori, i_sorTi, i_tupT, i_tupL, i_lstT, i_lstL, i_inti, i_intb, ty_ii, ty_ib, ty_bi, ty_bb, ty_tt, ty_ti, noIns_int, noIns_bl, noIns_tup, noIns_lst, noIns_non, noIns_str, seqOf_tup, seqOf_lst, it_seqT, it_seqL, Nat.reduceAdd, Nat.reduceSub, Nat.reduceMul, Nat.reduceEqDiff, Nat.reduceLeDiff, Int.reduceEq, Int.reduceNe, Int.reduceLT, Int.reduceLE, Int.reduceGT, Int.reduceGE, Int.reduceAdd, Int.reduceSub, Int.reduceMul, Int.reduceNeg, Int.reduceToNat, Int.reducePow, Int.reduceAbs, Int.cast_ofNat_Int, List.map_cons, List.map_nil, List.append_nil, List.nil_append, List.cons_append, List.length_cons, List.length_nil, List.length_map, decide_true, decide_false, decide_eq_true_eq, Bool.not_eq_true', decide_eq_false_iff_not, Bool.and_eq_true, Bool.or_eq_true, not_true_eq_false, not_false_eq_true, Bool.not_true, Bool.not_false, Bool.true_and, Bool.and_true, Bool.false_and, Bool.and_false, Bool.or_false, Bool.false_or, Bool.true_or, Bool.or_true, Bool.false_eq_true, if_true, if_false, ite_true, ite_false, reduceIte, ite_self, beq_self_eq_true, Bool.true_eq_false, p40, p30, p15, p14, m1, m2, m3, m4, m5, hseed, efar, efast, d3, div_ok2, it_rng1n hs62, e, eh1, ew1, eq1, emk, h2, encT, encF]
  · refine ⟨⟨h1 * 1000 + k, row, q1, w1 - far⟩, ⟨hl, hrow, by simp only; omega, by simp only; omega, by simp only; omega⟩, ?_⟩
    simp only [bind_ok, bind_no, bind_ex, bind_ite, gd_true, getS_0, getS_s, slV_sh, slB_ow, slO_ow, setS_0, setS_s, wipe_nil, wipe_cons, frS_ow, frS_sh, frS_no, tg_one, tg_tup, setVs_nil, setVs_cons, iteD_bl, and_bl, or_bl, and_blp, or_blp, nand_blp, nor_blp, ev_var, ev_bor, ev_con, ev_glb, ev_bin, ev_neg, negD_int, ev_nt, notD_bl, ev_cmp, ev_chain, ev_and, ev_or, ev_ite, ev_tup, ev_lst, ev_idx, ev_slc, ev_rvs, rvs_L, rvs_T, ev_bi, ev_isi, lends, lent_false, ev_call, ev_nil, ev_cons, ev_none, ev_some, intD_int, evE_comp, cmpT_none, cmpT_some, compD_map, compA_nil, compA_cons, cmpC_some, cmpC_none, compA_int, goB_nx, goB_bk, goB_ct, goB_rt, goB_ex, goB_ite, xB_nil, xB_cons, getX_0, getX_s, bodyOf_for, bodyOf_while, loopB_eq, condOf_while, thenOf_ite, elseOf_ite, seg_eq, List.drop_succ_cons, List.drop_zero, List.take_succ_cons, List.take_zero, x_asg, ownD_lst, x_own, x_unp, x_aug, x_put, x_app, x_ext, x_pop, popM_app, popM_one, x_ite, x_for, forT_eq, forD_nil, forD_cons, x_ret, ret_false, ret_int, ret_bl, ret_non, ret_tup, x_retR, x_retN, x_brk, x_cnt, x_pas, x_frz, x_del, endD_rt, endD_nx, endD_ex, endD_ite, iterO_nx, iterO_ct, iterO_bk, iterO_rt, iniS_0, iniS_n, iniS_c, b_add, b_sub, b_mul, b_addT, b_addL, b_rep, b_div, b_mod, b_pow, b_shl, b_shr, b_band, b_bor, b_bxor, a_add, a_sub, c_lt, c_le, c_gt, c_ge, c_eqi, c_nei, c_eqb, c_neb, c_isn, c_nisn, c_isb, c_nisb, eqD_ii, eqD_tt, eqD_ll, eqDs_n, eqDs_c, pl_int, pl_non, pl_bl, pl_tup, pl_lst, all_ints, List.all_cons, List.all_nil, fmod_e, fdiv_e, isNon_non, isNon_int, isNon_tup, isNon_lst, x_idxT, x_idxL, idxO_some, at_0, at_1, at_2, at_3, at_4, at_5, at_6, at_7, i_lenT, i_lenL, i_min2, i_max2, i_max3, i_min3, i_abs, i_sumi, i_sori, i_sorTi, i_tupT, i_tupL, i_lstT, i_lstL, i_inti, i_intb, ty_ii, ty_ib, ty_bi, ty_bb, ty_tt, ty_ti, noIns_int, noIns_bl, noIns_tup, noIns_lst, noIns_non, noIns_str, seqOf_tup, seqOf_lst, it_seqT, it_seqL, Nat.reduceAdd, Nat.reduceSub, Nat.reduceMul, Nat.reduceEqDiff, Nat.reduceLeDiff, Int.reduceEq, Int.reduceNe, Int.reduceLT, Int.reduceLE, Int.reduceGT, Int.reduceGE, Int.reduceAdd, Int.reduceSub, Int.reduceMul, Int.reduceNeg, Int.reduceToNat, Int.reducePow, Int.reduceAbs, Int.cast_ofNat_Int, List.map_cons, List.map_nil, List.append_nil, List.nil_append, List.cons_append, List.length_cons, List.length_nil, List.length_map, decide_true, decide_false, decide_eq_true_eq, Bool.not_eq_true', decide_eq_false_iff_not, Bool.and_eq_true, Bool.or_eq_true, not_true_eq_false, not_false_eq_true, Bool.not_true, Bool.not_false, Bool.true_and, Bool.and_true, Bool.false_and, Bool.and_false, Bool.or_false, Bool.false_or, Bool.true_or, Bool.or_true, Bool.false_eq_true, if_true, if_false, ite_true, ite_false, reduceIte, ite_self, beq_self_eq_true, Bool.true_eq_false, p40, p30, p15, p14, m1, m2, m3, m4, m5, hseed, efar, efast, d3, div_ok2, it_rng1n hs62, e, eh1, ew1, eq1, emk, h2, encT, encF]
end Dw

namespace Dw
open PySem
def rim (f : List Sd) : Int := (f.map fun p => p.2.1 - p.1).sum
theorem rim_ok (n : Nat) (f : List Sd) (h : f.length ≤ 1000) : callN P (n + 1) n_law_rim [encF f] = .ok (.int (rim f)) := by
  rw [callN_eq P_law_rim _ (by simp)]
  unfold b_law_rim encF encS rim
  simp only [bind_ok, bind_no, bind_ex, bind_ite, gd_true, getS_0, getS_s, slV_sh, slB_ow, slO_ow, setS_0, setS_s, wipe_nil, wipe_cons, frS_ow, frS_sh, frS_no, tg_one, tg_tup, setVs_nil, setVs_cons, iteD_bl, and_bl, or_bl, and_blp, or_blp, nand_blp, nor_blp, ev_var, ev_bor, ev_con, ev_glb, ev_bin, ev_neg, negD_int, ev_nt, notD_bl, ev_cmp, ev_chain, ev_and, ev_or, ev_ite, ev_tup, ev_lst, ev_idx, ev_slc, ev_rvs, rvs_L, rvs_T, ev_bi, ev_isi, lends, lent_false, ev_call, ev_nil, ev_cons, ev_none, ev_some, intD_int, evE_comp, cmpT_none, cmpT_some, compD_map, compA_nil, compA_cons, cmpC_some, cmpC_none, compA_int, goB_nx, goB_bk, goB_ct, goB_rt, goB_ex, goB_ite, xB_nil, xB_cons, getX_0, getX_s, bodyOf_for, bodyOf_while, loopB_eq, condOf_while, thenOf_ite, elseOf_ite, seg_eq, List.drop_succ_cons, List.drop_zero, List.take_succ_cons, List.take_zero, x_asg, ownD_lst, x_own, x_unp, x_aug, x_put, x_app, x_ext, x_pop, popM_app, popM_one, x_ite, x_for, forT_eq, forD_nil, forD_cons, x_ret, ret_false, ret_int, ret_bl, ret_non, ret_tup, x_retR, x_retN, x_brk, x_cnt, x_pas, x_frz, x_del, endD_rt, endD_nx, endD_ex, endD_ite, iterO_nx, iterO_ct, iterO_bk, iterO_rt, iniS_0, iniS_n, iniS_c, b_add, b_sub, b_mul, b_addT, b_addL, b_rep, b_div, b_mod, b_pow, b_shl, b_shr, b_band, b_bor, b_bxor, a_add, a_sub, c_lt, c_le, c_gt, c_ge, c_eqi, c_nei, c_eqb, c_neb, c_isn, c_nisn, c_isb, c_nisb, eqD_ii, eqD_tt, eqD_ll, eqDs_n, eqDs_c, pl_int, pl_non, pl_bl, pl_tup, pl_lst, all_ints, List.all_cons, List.all_nil, fmod_e, fdiv_e, isNon_non, isNon_int, isNon_tup, isNon_lst, x_idxT, x_idxL, idxO_some, at_0, at_1, at_2, at_3, at_4, at_5, at_6, at_7, i_lenT, i_lenL, i_min2, i_max2, i_max3, i_min3, i_abs, i_sumi, i_sori, i_sorTi, i_tupT, i_tupL, i_lstT, i_lstL, i_inti, i_intb, ty_ii, ty_ib, ty_bi, ty_bb, ty_tt, ty_ti, noIns_int, noIns_bl, noIns_tup, noIns_lst, noIns_non, noIns_str, seqOf_tup, seqOf_lst, it_seqT, it_seqL, Nat.reduceAdd, Nat.reduceSub, Nat.reduceMul, Nat.reduceEqDiff, Nat.reduceLeDiff, Int.reduceEq, Int.reduceNe, Int.reduceLT, Int.reduceLE, Int.reduceGT, Int.reduceGE, Int.reduceAdd, Int.reduceSub, Int.reduceMul, Int.reduceNeg, Int.reduceToNat, Int.reducePow, Int.reduceAbs, Int.cast_ofNat_Int, List.map_cons, List.map_nil, List.append_nil, List.nil_append, List.cons_append, List.length_cons, List.length_nil, List.length_map, decide_true, decide_false, decide_eq_true_eq, Bool.not_eq_true', decide_eq_false_iff_not, Bool.and_eq_true, Bool.or_eq_true, not_true_eq_false, not_false_eq_true, Bool.not_true, Bool.not_false, Bool.true_and, Bool.and_true, Bool.false_and, Bool.and_false, Bool.or_false, Bool.false_or, Bool.true_or, Bool.or_true, Bool.false_eq_true, if_true, if_false, ite_true, ite_false, reduceIte, ite_self, beq_self_eq_true, Bool.true_eq_false, fits_of (show f.length ≤ 1000000 by omega)]
theorem rimP_ok (n : Nat) (b : List (Int × Int)) (h : b.length ≤ 1000) : callN P (n + 1) n_law_rim [.lst (b.map encP)] = .ok (.int (b.map fun p => p.2 - p.1).sum) := by
  rw [callN_eq P_law_rim _ (by simp)]
  unfold b_law_rim encP
  simp only [bind_ok, bind_no, bind_ex, bind_ite, gd_true, getS_0, getS_s, slV_sh, slB_ow, slO_ow, setS_0, setS_s, wipe_nil, wipe_cons, frS_ow, frS_sh, frS_no, tg_one, tg_tup, setVs_nil, setVs_cons, iteD_bl, and_bl, or_bl, and_blp, or_blp, nand_blp, nor_blp, ev_var, ev_bor, ev_con, ev_glb, ev_bin, ev_neg, negD_int, ev_nt, notD_bl, ev_cmp, ev_chain, ev_and, ev_or, ev_ite, ev_tup, ev_lst, ev_idx, ev_slc, ev_rvs, rvs_L, rvs_T, ev_bi, ev_isi, lends, lent_false, ev_call, ev_nil, ev_cons, ev_none, ev_some, intD_int, evE_comp, cmpT_none, cmpT_some, compD_map, compA_nil, compA_cons, cmpC_some, cmpC_none, compA_int, goB_nx, goB_bk, goB_ct, goB_rt, goB_ex, goB_ite, xB_nil, xB_cons, getX_0, getX_s, bodyOf_for, bodyOf_while, loopB_eq, condOf_while, thenOf_ite, elseOf_ite, seg_eq, List.drop_succ_cons, List.drop_zero, List.take_succ_cons, List.take_zero, x_asg, ownD_lst, x_own, x_unp, x_aug, x_put, x_app, x_ext, x_pop, popM_app, popM_one, x_ite, x_for, forT_eq, forD_nil, forD_cons, x_ret, ret_false, ret_int, ret_bl, ret_non, ret_tup, x_retR, x_retN, x_brk, x_cnt, x_pas, x_frz, x_del, endD_rt, endD_nx, endD_ex, endD_ite, iterO_nx, iterO_ct, iterO_bk, iterO_rt, iniS_0, iniS_n, iniS_c, b_add, b_sub, b_mul, b_addT, b_addL, b_rep, b_div, b_mod, b_pow, b_shl, b_shr, b_band, b_bor, b_bxor, a_add, a_sub, c_lt, c_le, c_gt, c_ge, c_eqi, c_nei, c_eqb, c_neb, c_isn, c_nisn, c_isb, c_nisb, eqD_ii, eqD_tt, eqD_ll, eqDs_n, eqDs_c, pl_int, pl_non, pl_bl, pl_tup, pl_lst, all_ints, List.all_cons, List.all_nil, fmod_e, fdiv_e, isNon_non, isNon_int, isNon_tup, isNon_lst, x_idxT, x_idxL, idxO_some, at_0, at_1, at_2, at_3, at_4, at_5, at_6, at_7, i_lenT, i_lenL, i_min2, i_max2, i_max3, i_min3, i_abs, i_sumi, i_sori, i_sorTi, i_tupT, i_tupL, i_lstT, i_lstL, i_inti, i_intb, ty_ii, ty_ib, ty_bi, ty_bb, ty_tt, ty_ti, noIns_int, noIns_bl, noIns_tup, noIns_lst, noIns_non, noIns_str, seqOf_tup, seqOf_lst, it_seqT, it_seqL, Nat.reduceAdd, Nat.reduceSub, Nat.reduceMul, Nat.reduceEqDiff, Nat.reduceLeDiff, Int.reduceEq, Int.reduceNe, Int.reduceLT, Int.reduceLE, Int.reduceGT, Int.reduceGE, Int.reduceAdd, Int.reduceSub, Int.reduceMul, Int.reduceNeg, Int.reduceToNat, Int.reducePow, Int.reduceAbs, Int.cast_ofNat_Int, List.map_cons, List.map_nil, List.append_nil, List.nil_append, List.cons_append, List.length_cons, List.length_nil, List.length_map, decide_true, decide_false, decide_eq_true_eq, Bool.not_eq_true', decide_eq_false_iff_not, Bool.and_eq_true, Bool.or_eq_true, not_true_eq_false, not_false_eq_true, Bool.not_true, Bool.not_false, Bool.true_and, Bool.and_true, Bool.false_and, Bool.and_false, Bool.or_false, Bool.false_or, Bool.true_or, Bool.or_true, Bool.false_eq_true, if_true, if_false, ite_true, ite_false, reduceIte, ite_self, beq_self_eq_true, Bool.true_eq_false, fits_of (show b.length ≤ 1000000 by omega)]
theorem both_ok (n : Nat) (a b : List Sd) (h : a.length ≤ 1000) : callN P (n + 1) n_law_both [encF a, encF b] = .ok (.lst (((a.zip b).map fun p => (min p.1.1 p.2.1, max p.1.2.1 p.2.2.1)).map encP)) := by
  rw [callN_eq P_law_both _ (by simp)]
  unfold b_law_both encF
  have hz : (a.zip b).length ≤ 1000000 := by rw [List.length_zip]; omega
  simp only [bind_ok, bind_no, bind_ex, bind_ite, gd_true, getS_0, getS_s, slV_sh, slB_ow, slO_ow, setS_0, setS_s, wipe_nil, wipe_cons, frS_ow, frS_sh, frS_no, tg_one, tg_tup, setVs_nil, setVs_cons, iteD_bl, and_bl, or_bl, and_blp, or_blp, nand_blp, nor_blp, ev_var, ev_bor, ev_con, ev_glb, ev_bin, ev_neg, negD_int, ev_nt, notD_bl, ev_cmp, ev_chain, ev_and, ev_or, ev_ite, ev_tup, ev_lst, ev_idx, ev_slc, ev_rvs, rvs_L, rvs_T, ev_bi, ev_isi, lends, lent_false, ev_call, ev_nil, ev_cons, ev_none, ev_some, intD_int, evE_comp, cmpT_none, cmpT_some, compD_map, compA_nil, compA_cons, cmpC_some, cmpC_none, compA_int, goB_nx, goB_bk, goB_ct, goB_rt, goB_ex, goB_ite, xB_nil, xB_cons, getX_0, getX_s, bodyOf_for, bodyOf_while, loopB_eq, condOf_while, thenOf_ite, elseOf_ite, seg_eq, List.drop_succ_cons, List.drop_zero, List.take_succ_cons, List.take_zero, x_asg, ownD_lst, x_own, x_unp, x_aug, x_put, x_app, x_ext, x_pop, popM_app, popM_one, x_ite, x_for, forT_eq, forD_nil, forD_cons, x_ret, ret_false, ret_int, ret_bl, ret_non, ret_tup, x_retR, x_retN, x_brk, x_cnt, x_pas, x_frz, x_del, endD_rt, endD_nx, endD_ex, endD_ite, iterO_nx, iterO_ct, iterO_bk, iterO_rt, iniS_0, iniS_n, iniS_c, b_add, b_sub, b_mul, b_addT, b_addL, b_rep, b_div, b_mod, b_pow, b_shl, b_shr, b_band, b_bor, b_bxor, a_add, a_sub, c_lt, c_le, c_gt, c_ge, c_eqi, c_nei, c_eqb, c_neb, c_isn, c_nisn, c_isb, c_nisb, eqD_ii, eqD_tt, eqD_ll, eqDs_n, eqDs_c, pl_int, pl_non, pl_bl, pl_tup, pl_lst, all_ints, List.all_cons, List.all_nil, fmod_e, fdiv_e, isNon_non, isNon_int, isNon_tup, isNon_lst, x_idxT, x_idxL, idxO_some, at_0, at_1, at_2, at_3, at_4, at_5, at_6, at_7, i_lenT, i_lenL, i_min2, i_max2, i_max3, i_min3, i_abs, i_sumi, i_sori, i_sorTi, i_tupT, i_tupL, i_lstT, i_lstL, i_inti, i_intb, ty_ii, ty_ib, ty_bi, ty_bb, ty_tt, ty_ti, noIns_int, noIns_bl, noIns_tup, noIns_lst, noIns_non, noIns_str, seqOf_tup, seqOf_lst, it_seqT, it_seqL, Nat.reduceAdd, Nat.reduceSub, Nat.reduceMul, Nat.reduceEqDiff, Nat.reduceLeDiff, Int.reduceEq, Int.reduceNe, Int.reduceLT, Int.reduceLE, Int.reduceGT, Int.reduceGE, Int.reduceAdd, Int.reduceSub, Int.reduceMul, Int.reduceNeg, Int.reduceToNat, Int.reducePow, Int.reduceAbs, Int.cast_ofNat_Int, List.map_cons, List.map_nil, List.append_nil, List.nil_append, List.cons_append, List.length_cons, List.length_nil, List.length_map, decide_true, decide_false, decide_eq_true_eq, Bool.not_eq_true', decide_eq_false_iff_not, Bool.and_eq_true, Bool.or_eq_true, not_true_eq_false, not_false_eq_true, Bool.not_true, Bool.not_false, Bool.true_and, Bool.and_true, Bool.false_and, Bool.and_false, Bool.or_false, Bool.false_or, Bool.true_or, Bool.or_true, Bool.false_eq_true, if_true, if_false, ite_true, ite_false, reduceIte, ite_self, beq_self_eq_true, Bool.true_eq_false, it_zipT, fits_of hz, encS, compA_ok, List.map_map]
  rfl
theorem rim_joined (a b : List Sd) : ((((a.zip b).map fun p => (min p.1.1 p.2.1, max p.1.2.1 p.2.2.1)).map fun p => p.2 - p.1).sum : Int) = rim (joined a b) := by
  unfold rim joined
  rw [List.map_map, List.map_map]; rfl
theorem box_rim_ok' (n : Nat) (b : List (Int × Int)) (h : b.length ≤ 1000) : callN P (n + 1) n_box_rim [encB b] = .ok (.int (b.map fun p => p.2 - p.1).sum) := by
  rw [callN_eq P_box_rim _ (by simp)]
  unfold b_box_rim encB encP
  have hz : b.length ≤ 1000000 := by omega
  simp only [bind_ok, bind_no, bind_ex, bind_ite, gd_true, getS_0, getS_s, slV_sh, slB_ow, slO_ow, setS_0, setS_s, wipe_nil, wipe_cons, frS_ow, frS_sh, frS_no, tg_one, tg_tup, setVs_nil, setVs_cons, iteD_bl, and_bl, or_bl, and_blp, or_blp, nand_blp, nor_blp, ev_var, ev_bor, ev_con, ev_glb, ev_bin, ev_neg, negD_int, ev_nt, notD_bl, ev_cmp, ev_chain, ev_and, ev_or, ev_ite, ev_tup, ev_lst, ev_idx, ev_slc, ev_rvs, rvs_L, rvs_T, ev_bi, ev_isi, lends, lent_false, ev_call, ev_nil, ev_cons, ev_none, ev_some, intD_int, evE_comp, cmpT_none, cmpT_some, compD_map, compA_nil, compA_cons, cmpC_some, cmpC_none, compA_int, goB_nx, goB_bk, goB_ct, goB_rt, goB_ex, goB_ite, xB_nil, xB_cons, getX_0, getX_s, bodyOf_for, bodyOf_while, loopB_eq, condOf_while, thenOf_ite, elseOf_ite, seg_eq, List.drop_succ_cons, List.drop_zero, List.take_succ_cons, List.take_zero, x_asg, ownD_lst, x_own, x_unp, x_aug, x_put, x_app, x_ext, x_pop, popM_app, popM_one, x_ite, x_for, forT_eq, forD_nil, forD_cons, x_ret, ret_false, ret_int, ret_bl, ret_non, ret_tup, x_retR, x_retN, x_brk, x_cnt, x_pas, x_frz, x_del, endD_rt, endD_nx, endD_ex, endD_ite, iterO_nx, iterO_ct, iterO_bk, iterO_rt, iniS_0, iniS_n, iniS_c, b_add, b_sub, b_mul, b_addT, b_addL, b_rep, b_div, b_mod, b_pow, b_shl, b_shr, b_band, b_bor, b_bxor, a_add, a_sub, c_lt, c_le, c_gt, c_ge, c_eqi, c_nei, c_eqb, c_neb, c_isn, c_nisn, c_isb, c_nisb, eqD_ii, eqD_tt, eqD_ll, eqDs_n, eqDs_c, pl_int, pl_non, pl_bl, pl_tup, pl_lst, all_ints, List.all_cons, List.all_nil, fmod_e, fdiv_e, isNon_non, isNon_int, isNon_tup, isNon_lst, x_idxT, x_idxL, idxO_some, at_0, at_1, at_2, at_3, at_4, at_5, at_6, at_7, i_lenT, i_lenL, i_min2, i_max2, i_max3, i_min3, i_abs, i_sumi, i_sori, i_sorTi, i_tupT, i_tupL, i_lstT, i_lstL, i_inti, i_intb, ty_ii, ty_ib, ty_bi, ty_bb, ty_tt, ty_ti, noIns_int, noIns_bl, noIns_tup, noIns_lst, noIns_non, noIns_str, seqOf_tup, seqOf_lst, it_seqT, it_seqL, Nat.reduceAdd, Nat.reduceSub, Nat.reduceMul, Nat.reduceEqDiff, Nat.reduceLeDiff, Int.reduceEq, Int.reduceNe, Int.reduceLT, Int.reduceLE, Int.reduceGT, Int.reduceGE, Int.reduceAdd, Int.reduceSub, Int.reduceMul, Int.reduceNeg, Int.reduceToNat, Int.reducePow, Int.reduceAbs, Int.cast_ofNat_Int, List.map_cons, List.map_nil, List.append_nil, List.nil_append, List.cons_append, List.length_cons, List.length_nil, List.length_map, decide_true, decide_false, decide_eq_true_eq, Bool.not_eq_true', decide_eq_false_iff_not, Bool.and_eq_true, Bool.or_eq_true, not_true_eq_false, not_false_eq_true, Bool.not_true, Bool.not_false, Bool.true_and, Bool.and_true, Bool.false_and, Bool.and_false, Bool.or_false, Bool.false_or, Bool.true_or, Bool.or_true, Bool.false_eq_true, if_true, if_false, ite_true, ite_false, reduceIte, ite_self, beq_self_eq_true, Bool.true_eq_false, fits_of hz]
theorem cover_rim_ok (n : Nat) (f : List Sd) (h : f.length ≤ 1000) : callN P (n + 2) n_cover_rim [encF f] = .ok (.int (rim f)) := by
  rw [callN_eq P_cover_rim _ (by simp)]
  unfold b_cover_rim
  have e : ((fat f 0).map fun p => p.2 - p.1).sum = rim f := by
    unfold fat rim
    rw [List.map_map]
    congr 1
    refine List.map_congr_left fun p _ => ?_
    simp only [Function.comp_apply, Int.mul_zero, Int.add_zero]
  simp only [bind_ok, bind_no, bind_ex, bind_ite, gd_true, getS_0, getS_s, slV_sh, slB_ow, slO_ow, setS_0, setS_s, wipe_nil, wipe_cons, frS_ow, frS_sh, frS_no, tg_one, tg_tup, setVs_nil, setVs_cons, iteD_bl, and_bl, or_bl, and_blp, or_blp, nand_blp, nor_blp, ev_var, ev_bor, ev_con, ev_glb, ev_bin, ev_neg, negD_int, ev_nt, notD_bl, ev_cmp, ev_chain, ev_and, ev_or, ev_ite, ev_tup, ev_lst, ev_idx, ev_slc, ev_rvs, rvs_L, rvs_T, ev_bi, ev_isi, lends, lent_false, ev_call, ev_nil, ev_cons, ev_none, ev_some, intD_int, evE_comp, cmpT_none, cmpT_some, compD_map, compA_nil, compA_cons, cmpC_some, cmpC_none, compA_int, goB_nx, goB_bk, goB_ct, goB_rt, goB_ex, goB_ite, xB_nil, xB_cons, getX_0, getX_s, bodyOf_for, bodyOf_while, loopB_eq, condOf_while, thenOf_ite, elseOf_ite, seg_eq, List.drop_succ_cons, List.drop_zero, List.take_succ_cons, List.take_zero, x_asg, ownD_lst, x_own, x_unp, x_aug, x_put, x_app, x_ext, x_pop, popM_app, popM_one, x_ite, x_for, forT_eq, forD_nil, forD_cons, x_ret, ret_false, ret_int, ret_bl, ret_non, ret_tup, x_retR, x_retN, x_brk, x_cnt, x_pas, x_frz, x_del, endD_rt, endD_nx, endD_ex, endD_ite, iterO_nx, iterO_ct, iterO_bk, iterO_rt, iniS_0, iniS_n, iniS_c, b_add, b_sub, b_mul, b_addT, b_addL, b_rep, b_div, b_mod, b_pow, b_shl, b_shr, b_band, b_bor, b_bxor, a_add, a_sub, c_lt, c_le, c_gt, c_ge, c_eqi, c_nei, c_eqb, c_neb, c_isn, c_nisn, c_isb, c_nisb, eqD_ii, eqD_tt, eqD_ll, eqDs_n, eqDs_c, pl_int, pl_non, pl_bl, pl_tup, pl_lst, all_ints, List.all_cons, List.all_nil, fmod_e, fdiv_e, isNon_non, isNon_int, isNon_tup, isNon_lst, x_idxT, x_idxL, idxO_some, at_0, at_1, at_2, at_3, at_4, at_5, at_6, at_7, i_lenT, i_lenL, i_min2, i_max2, i_max3, i_min3, i_abs, i_sumi, i_sori, i_sorTi, i_tupT, i_tupL, i_lstT, i_lstL, i_inti, i_intb, ty_ii, ty_ib, ty_bi, ty_bb, ty_tt, ty_ti, noIns_int, noIns_bl, noIns_tup, noIns_lst, noIns_non, noIns_str, seqOf_tup, seqOf_lst, it_seqT, it_seqL, Nat.reduceAdd, Nat.reduceSub, Nat.reduceMul, Nat.reduceEqDiff, Nat.reduceLeDiff, Int.reduceEq, Int.reduceNe, Int.reduceLT, Int.reduceLE, Int.reduceGT, Int.reduceGE, Int.reduceAdd, Int.reduceSub, Int.reduceMul, Int.reduceNeg, Int.reduceToNat, Int.reducePow, Int.reduceAbs, Int.cast_ofNat_Int, List.map_cons, List.map_nil, List.append_nil, List.nil_append, List.cons_append, List.length_cons, List.length_nil, List.length_map, decide_true, decide_false, decide_eq_true_eq, Bool.not_eq_true', decide_eq_false_iff_not, Bool.and_eq_true, Bool.or_eq_true, not_true_eq_false, not_false_eq_true, Bool.not_true, Bool.not_false, Bool.true_and, Bool.and_true, Bool.false_and, Bool.and_false, Bool.or_false, Bool.false_or, Bool.true_or, Bool.or_true, Bool.false_eq_true, if_true, if_false, ite_true, ite_false, reduceIte, ite_self, beq_self_eq_true, Bool.true_eq_false, frame_at_ok n f 0 h (by decide), box_rim_ok' n (fat f 0) (by rw [fat_len]; exact h), e]
/-- how much a cover grows -/
def grw (t c : List Sd) : Int := rim (joined c t) - rim c
def betr (t a b : List Sd) : Prop := grw t a < grw t b ∨ (grw t a = grw t b ∧ rim a < rim b)
instance (t a b : List Sd) : Decidable (betr t a b) := by unfold betr; infer_instance
/-- the place of the best of the first k -/
def pk (t : List Sd) (cs : List (List Sd)) : Nat → Nat
  | 0 => 0
  | k + 1 => if betr t (cs.getD k []) (cs.getD (pk t cs k) []) then k else pk t cs k
theorem pk_le (t : List Sd) (cs : List (List Sd)) : ∀ k, pk t cs k ≤ k - 1
  | 0 => Nat.le_refl _
  | k + 1 => by
    have := pk_le t cs k
    rw [pk]
    split <;> omega
theorem pk_1 (t : List Sd) (cs : List (List Sd)) : pk t cs 1 = 0 := by
  have := pk_le t cs 1; omega
theorem c_lt2 (a b c d : Int) : cmpD .lt (.tup [.int a, .int b]) (.tup [.int c, .int d]) = .ok (.bl (decide (a < c ∨ (a = c ∧ b < d)))) := by
  show M.ok (D.bl (HT.lexLt [a, b] [c, d])) = _
  rw [HT.lexLt_cons, HT.lexLt_cons, HT.lexLt_nil_nil]
  by_cases h : a = c <;> by_cases h2 : b = d <;> simp [h, h2]
theorem at_td {ts : List Td} {k : Nat} (h : k < ts.length) : L2.atI (ts.map encD) (k : Int) = some (encD ts[k]) := by
  rw [at_map]
  obtain ⟨x, hx, h1, h2⟩ := at_int (xs := ts) (i := (k : Int)) (by omega) (by omega)
  rw [Int.toNat_natCast, List.getElem?_eq_getElem h] at h1
  cases h1
  rw [h2]; rfl
theorem covD {ts : List Td} {k : Nat} (h : k < ts.length) : (ts.map (·.cov)).getD k [] = ts[k].cov := by
  rw [List.getD_eq_getElem?_getD, List.getElem?_map, List.getElem?_eq_getElem h]; rfl
theorem chosen_ok (n : Nat) {s : Nat} (hs : s ≤ 1000) (ts : List Td) (t : Td) (h0 : 0 < ts.length) (hl : ts.length ≤ 100000) (g : ∀ x ∈ ts, x.cov.length = s) : callN P (n + 3) n_chosen_page [.tup (ts.map encD), encD t] = .ok (.int (pk t.cov (ts.map (·.cov)) ts.length : Nat)) := by
  rw [callN_eq P_chosen_page _ (by simp)]
  have e1 : ∀ t : Td, L2.atI [encF t.cov, encF t.hrt, .int t.some', .int t.evr, .int t.many, .int t.lst, .int t.mst, .int t.sum] 0 = some (encF t.cov) := fun t => rfl
  have loop := for_rng (f := forT (callN P (n + 2)) false [4] (loopB b_chosen_page 2)) (g := fun j : Nat => D.int (j : Int)) (fun k ρ => ∃ L : D, ρ = [.sh (.tup (ts.map encD)), .sh (encD t), .sh (.int (pk t.cov (ts.map (·.cov)) k : Nat)), .sh L, .no, .no, .no, .no] ∧ ((k = 0 ∧ L = .non) ∨ (0 < k ∧ L = .tup [.int (grw t.cov ((ts.map (·.cov)).getD (pk t.cov (ts.map (·.cov)) k) [])), .int (rim ((ts.map (·.cov)).getD (pk t.cov (ts.map (·.cov)) k) []))]))) ts.length (ρ := [.sh (.tup (ts.map encD)), .sh (encD t), .sh (.int 0), .sh .non, .no, .no, .no, .no]) ⟨.non, rfl, .inl ⟨rfl, rfl⟩⟩ (fun k ρ hk hI => by
    obtain ⟨L, rfl, hL⟩ := hI
    have gl := g ts[k] (List.getElem_mem hk)
    have r1 := cover_rim_ok n ts[k].cov (by omega)
    have j1 := frames_joined_ok (n + 1) ts[k].cov t.cov (by omega)
    have r2 := cover_rim_ok n (joined ts[k].cov t.cov) (by
      unfold joined; rw [List.length_map, List.length_zip]; omega)
    rcases hL with ⟨rfl, rfl⟩ | ⟨hk0, rfl⟩
    · refine ⟨_, ?_, _, rfl, .inr ⟨by omega, rfl⟩⟩
      have e0 := at_td hk
      have e : L2.atI (ts.map encD) 0 = some (encD ts[0]) := e0
      rw [Nat.zero_add, pk_1, covD h0]
      unfold b_chosen_page
      have z : ((0 : Nat) : Int) = 0 := rfl
      have z2 : ((pk t.cov (ts.map (·.cov)) 0 : Nat) : Int) = 0 := rfl
      simp only [bind_ok, bind_no, bind_ex, bind_ite, gd_true, getS_0, getS_s, slV_sh, slB_ow, slO_ow, setS_0, setS_s, wipe_nil, wipe_cons, frS_ow, frS_sh, frS_no, tg_one, tg_tup, setVs_nil, setVs_cons, iteD_bl, and_bl, or_bl, and_blp, or_blp, nand_blp, nor_blp, ev_var, ev_bor, ev_con, ev_glb, ev_bin, ev_neg, negD_int, ev_nt, notD_bl, ev_cmp, ev_chain, ev_and, ev_or, ev_ite, ev_tup, ev_lst, ev_idx, ev_slc, ev_rvs, rvs_L, rvs_T, ev_bi, ev_isi, lends, lent_false, ev_call, ev_nil, ev_cons, ev_none, ev_some, intD_int, evE_comp, cmpT_none, cmpT_some, compD_map, compA_nil, compA_cons, cmpC_some, cmpC_none, compA_int, goB_nx, goB_bk, goB_ct, goB_rt, goB_ex, goB_ite, xB_nil, xB_cons, getX_0, getX_s, bodyOf_for, bodyOf_while, loopB_eq, condOf_while, thenOf_ite, elseOf_ite, seg_eq, List.drop_succ_cons, List.drop_zero, List.take_succ_cons, List.take_zero, x_asg, ownD_lst, x_own, x_unp, x_aug, x_put, x_app, x_ext, x_pop, popM_app, popM_one, x_ite, x_for, forT_eq, forD_nil, forD_cons, x_ret, ret_false, ret_int, ret_bl, ret_non, ret_tup, x_retR, x_retN, x_brk, x_cnt, x_pas, x_frz, x_del, endD_rt, endD_nx, endD_ex, endD_ite, iterO_nx, iterO_ct, iterO_bk, iterO_rt, iniS_0, iniS_n, iniS_c, b_add, b_sub, b_mul, b_addT, b_addL, b_rep, b_div, b_mod, b_pow, b_shl, b_shr, b_band, b_bor, b_bxor, a_add, a_sub, c_lt, c_le, c_gt, c_ge, c_eqi, c_nei, c_eqb, c_neb, c_isn, c_nisn, c_isb, c_nisb, eqD_ii, eqD_tt, eqD_ll, eqDs_n, eqDs_c, pl_int, pl_non, pl_bl, pl_tup, pl_lst, all_ints, List.all_cons, List.all_nil, fmod_e, fdiv_e, isNon_non, isNon_int, isNon_tup, isNon_lst, x_idxT, x_idxL, idxO_some, at_0, at_1, at_2, at_3, at_4, at_5, at_6, at_7, i_lenT, i_lenL, i_min2, i_max2, i_max3, i_min3, i_abs, i_sumi, i_sori, i_sorTi, i_tupT, i_tupL, i_lstT, i_lstL, i_inti, i_intb, ty_ii, ty_ib, ty_bi, ty_bb, ty_tt, ty_ti, noIns_int, noIns_bl, noIns_tup, noIns_lst, noIns_non, noIns_str, seqOf_tup, seqOf_lst, it_seqT, it_seqL, Nat.reduceAdd, Nat.reduceSub, Nat.reduceMul, Nat.reduceEqDiff, Nat.reduceLeDiff, Int.reduceEq, Int.reduceNe, Int.reduceLT, Int.reduceLE, Int.reduceGT, Int.reduceGE, Int.reduceAdd, Int.reduceSub, Int.reduceMul, Int.reduceNeg, Int.reduceToNat, Int.reducePow, Int.reduceAbs, Int.cast_ofNat_Int, List.map_cons, List.map_nil, List.append_nil, List.nil_append, List.cons_append, List.length_cons, List.length_nil, List.length_map, decide_true, decide_false, decide_eq_true_eq, Bool.not_eq_true', decide_eq_false_iff_not, Bool.and_eq_true, Bool.or_eq_true, not_true_eq_false, not_false_eq_true, Bool.not_true, Bool.not_false, Bool.true_and, Bool.and_true, Bool.false_and, Bool.and_false, Bool.or_false, Bool.false_or, Bool.true_or, Bool.or_true, Bool.false_eq_true, if_true, if_false, ite_true, ite_false, reduceIte, ite_self, beq_self_eq_true, Bool.true_eq_false, e, encD, e1, r1, r2, j1, z, z2]
      rfl
    · refine ⟨_, ?_, _, rfl, .inr ⟨by omega, rfl⟩⟩
      have e0 := at_td hk
      rw [pk, covD hk]
      unfold b_chosen_page
      by_cases hb : betr t.cov ts[k].cov ((ts.map (·.cov)).getD (pk t.cov (ts.map (·.cov)) k) [])
      · have hb' := hb
        unfold betr grw at hb'
        rw [if_pos hb, covD hk]
        unfold grw
        simp only [bind_ok, bind_no, bind_ex, bind_ite, gd_true, getS_0, getS_s, slV_sh, slB_ow, slO_ow, setS_0, setS_s, wipe_nil, wipe_cons, frS_ow, frS_sh, frS_no, tg_one, tg_tup, setVs_nil, setVs_cons, iteD_bl, and_bl, or_bl, and_blp, or_blp, nand_blp, nor_blp, ev_var, ev_bor, ev_con, ev_glb, ev_bin, ev_neg, negD_int, ev_nt, notD_bl, ev_cmp, ev_chain, ev_and, ev_or, ev_ite, ev_tup, ev_lst, ev_idx, ev_slc, ev_rvs, rvs_L, rvs_T, ev_bi, ev_isi, lends, lent_false, ev_call, ev_nil, ev_cons, ev_none, ev_some, intD_int, evE_comp, cmpT_none, cmpT_some, compD_map, compA_nil, compA_cons, cmpC_some, cmpC_none, compA_int, goB_nx, goB_bk, goB_ct, goB_rt, goB_ex, goB_ite, xB_nil, xB_cons, getX_0, getX_s, bodyOf_for, bodyOf_while, loopB_eq, condOf_while, thenOf_ite, elseOf_ite, seg_eq, List.drop_succ_cons, List.drop_zero, List.take_succ_cons, List.take_zero, x_asg, ownD_lst, x_own, x_unp, x_aug, x_put, x_app, x_ext, x_pop, popM_app, popM_one, x_ite, x_for, forT_eq, forD_nil, forD_cons, x_ret, ret_false, ret_int, ret_bl, ret_non, ret_tup, x_retR, x_retN, x_brk, x_cnt, x_pas, x_frz, x_del, endD_rt, endD_nx, endD_ex, endD_ite, iterO_nx, iterO_ct, iterO_bk, iterO_rt, iniS_0, iniS_n, iniS_c, b_add, b_sub, b_mul, b_addT, b_addL, b_rep, b_div, b_mod, b_pow, b_shl, b_shr, b_band, b_bor, b_bxor, a_add, a_sub, c_lt, c_le, c_gt, c_ge, c_eqi, c_nei, c_eqb, c_neb, c_isn, c_nisn, c_isb, c_nisb, eqD_ii, eqD_tt, eqD_ll, eqDs_n, eqDs_c, pl_int, pl_non, pl_bl, pl_tup, pl_lst, all_ints, List.all_cons, List.all_nil, fmod_e, fdiv_e, isNon_non, isNon_int, isNon_tup, isNon_lst, x_idxT, x_idxL, idxO_some, at_0, at_1, at_2, at_3, at_4, at_5, at_6, at_7, i_lenT, i_lenL, i_min2, i_max2, i_max3, i_min3, i_abs, i_sumi, i_sori, i_sorTi, i_tupT, i_tupL, i_lstT, i_lstL, i_inti, i_intb, ty_ii, ty_ib, ty_bi, ty_bb, ty_tt, ty_ti, noIns_int, noIns_bl, noIns_tup, noIns_lst, noIns_non, noIns_str, seqOf_tup, seqOf_lst, it_seqT, it_seqL, Nat.reduceAdd, Nat.reduceSub, Nat.reduceMul, Nat.reduceEqDiff, Nat.reduceLeDiff, Int.reduceEq, Int.reduceNe, Int.reduceLT, Int.reduceLE, Int.reduceGT, Int.reduceGE, Int.reduceAdd, Int.reduceSub, Int.reduceMul, Int.reduceNeg, Int.reduceToNat, Int.reducePow, Int.reduceAbs, Int.cast_ofNat_Int, List.map_cons, List.map_nil, List.append_nil, List.nil_append, List.cons_append, List.length_cons, List.length_nil, List.length_map, decide_true, decide_false, decide_eq_true_eq, Bool.not_eq_true', decide_eq_false_iff_not, Bool.and_eq_true, Bool.or_eq_true, not_true_eq_false, not_false_eq_true, Bool.not_true, Bool.not_false, Bool.true_and, Bool.and_true, Bool.false_and, Bool.and_false, Bool.or_false, Bool.false_or, Bool.true_or, Bool.or_true, Bool.false_eq_true, if_true, if_false, ite_true, ite_false, reduceIte, ite_self, beq_self_eq_true, Bool.true_eq_false, e0, encD, e1, r1, r2, j1, c_lt2, hb']
      · have hb' := hb
        unfold betr grw at hb'
        rw [if_neg hb]
        unfold grw
        simp only [bind_ok, bind_no, bind_ex, bind_ite, gd_true, getS_0, getS_s, slV_sh, slB_ow, slO_ow, setS_0, setS_s, wipe_nil, wipe_cons, frS_ow, frS_sh, frS_no, tg_one, tg_tup, setVs_nil, setVs_cons, iteD_bl, and_bl, or_bl, and_blp, or_blp, nand_blp, nor_blp, ev_var, ev_bor, ev_con, ev_glb, ev_bin, ev_neg, negD_int, ev_nt, notD_bl, ev_cmp, ev_chain, ev_and, ev_or, ev_ite, ev_tup, ev_lst, ev_idx, ev_slc, ev_rvs, rvs_L, rvs_T, ev_bi, ev_isi, lends, lent_false, ev_call, ev_nil, ev_cons, ev_none, ev_some, intD_int, evE_comp, cmpT_none, cmpT_some, compD_map, compA_nil, compA_cons, cmpC_some, cmpC_none, compA_int, goB_nx, goB_bk, goB_ct, goB_rt, goB_ex, goB_ite, xB_nil, xB_cons, getX_0, getX_s, bodyOf_for, bodyOf_while, loopB_eq, condOf_while, thenOf_ite, elseOf_ite, seg_eq, List.drop_succ_cons, List.drop_zero, List.take_succ_cons, List.take_zero, x_asg, ownD_lst, x_own, x_unp, x_aug, x_put, x_app, x_ext, x_pop, popM_app, popM_one, x_ite, x_for, forT_eq, forD_nil, forD_cons, x_ret, ret_false, ret_int, ret_bl, ret_non, ret_tup, x_retR, x_retN, x_brk, x_cnt, x_pas, x_frz, x_del, endD_rt, endD_nx, endD_ex, endD_ite, iterO_nx, iterO_ct, iterO_bk, iterO_rt, iniS_0, iniS_n, iniS_c, b_add, b_sub, b_mul, b_addT, b_addL, b_rep, b_div, b_mod, b_pow, b_shl, b_shr, b_band, b_bor, b_bxor, a_add, a_sub, c_lt, c_le, c_gt, c_ge, c_eqi, c_nei, c_eqb, c_neb, c_isn, c_nisn, c_isb, c_nisb, eqD_ii, eqD_tt, eqD_ll, eqDs_n, eqDs_c, pl_int, pl_non, pl_bl, pl_tup, pl_lst, all_ints, List.all_cons, List.all_nil, fmod_e, fdiv_e, isNon_non, isNon_int, isNon_tup, isNon_lst, x_idxT, x_idxL, idxO_some, at_0, at_1, at_2, at_3, at_4, at_5, at_6, at_7, i_lenT, i_lenL, i_min2, i_max2, i_max3, i_min3, i_abs, i_sumi, i_sori, i_sorTi, i_tupT, i_tupL, i_lstT, i_lstL, i_inti, i_intb, ty_ii, ty_ib, ty_bi, ty_bb, ty_tt, ty_ti, noIns_int, noIns_bl, noIns_tup, noIns_lst, noIns_non, noIns_str, seqOf_tup, seqOf_lst, it_seqT, it_seqL, Nat.reduceAdd, Nat.reduceSub, Nat.reduceMul, Nat.reduceEqDiff, Nat.reduceLeDiff, Int.reduceEq, Int.reduceNe, Int.reduceLT, Int.reduceLE, Int.reduceGT, Int.reduceGE, Int.reduceAdd, Int.reduceSub, Int.reduceMul, Int.reduceNeg, Int.reduceToNat, Int.reducePow, Int.reduceAbs, Int.cast_ofNat_Int, List.map_cons, List.map_nil, List.append_nil, List.nil_append, List.cons_append, List.length_cons, List.length_nil, List.length_map, decide_true, decide_false, decide_eq_true_eq, Bool.not_eq_true', decide_eq_false_iff_not, Bool.and_eq_true, Bool.or_eq_true, not_true_eq_false, not_false_eq_true, Bool.not_true, Bool.not_false, Bool.true_and, Bool.and_true, Bool.false_and, Bool.and_false, Bool.or_false, Bool.false_or, Bool.true_or, Bool.or_true, Bool.false_eq_true, if_true, if_false, ite_true, ite_false, reduceIte, ite_self, beq_self_eq_true, Bool.true_eq_false, e0, encD, e1, r1, r2, j1, c_lt2, hb'])
  obtain ⟨ρ', e, L, rfl, _⟩ := loop
  have z2 : ((0 : Nat) : Int) = 0 := rfl
  unfold b_chosen_page at e ⊢
  simp only [bind_ok, bind_no, bind_ex, bind_ite, gd_true, getS_0, getS_s, slV_sh, slB_ow, slO_ow, setS_0, setS_s, wipe_nil, wipe_cons, frS_ow, frS_sh, frS_no, tg_one, tg_tup, setVs_nil, setVs_cons, iteD_bl, and_bl, or_bl, and_blp, or_blp, nand_blp, nor_blp, ev_var, ev_bor, ev_con, ev_glb, ev_bin, ev_neg, negD_int, ev_nt, notD_bl, ev_cmp, ev_chain, ev_and, ev_or, ev_ite, ev_tup, ev_lst, ev_idx, ev_slc, ev_rvs, rvs_L, rvs_T, ev_bi, ev_isi, lends, lent_false, ev_call, ev_nil, ev_cons, ev_none, ev_some, intD_int, evE_comp, cmpT_none, cmpT_some, compD_map, compA_nil, compA_cons, cmpC_some, cmpC_none, compA_int, goB_nx, goB_bk, goB_ct, goB_rt, goB_ex, goB_ite, xB_nil, xB_cons, getX_0, getX_s, bodyOf_for, bodyOf_while, loopB_eq, condOf_while, thenOf_ite, elseOf_ite, seg_eq, List.drop_succ_cons, List.drop_zero, List.take_succ_cons, List.take_zero, x_asg, ownD_lst, x_own, x_unp, x_aug, x_put, x_app, x_ext, x_pop, popM_app, popM_one, x_ite, x_for, forT_eq, forD_nil, forD_cons, x_ret, ret_false, ret_int, ret_bl, ret_non, ret_tup, x_retR, x_retN, x_brk, x_cnt, x_pas, x_frz, x_del, endD_rt, endD_nx, endD_ex, endD_ite, iterO_nx, iterO_ct, iterO_bk, iterO_rt, iniS_0, iniS_n, iniS_c, b_add, b_sub, b_mul, b_addT, b_addL, b_rep, b_div, b_mod, b_pow, b_shl, b_shr, b_band, b_bor, b_bxor, a_add, a_sub, c_lt, c_le, c_gt, c_ge, c_eqi, c_nei, c_eqb, c_neb, c_isn, c_nisn, c_isb, c_nisb, eqD_ii, eqD_tt, eqD_ll, eqDs_n, eqDs_c, pl_int, pl_non, pl_bl, pl_tup, pl_lst, all_ints, List.all_cons, List.all_nil, fmod_e, fdiv_e, isNon_non, isNon_int, isNon_tup, isNon_lst, x_idxT, x_idxL, idxO_some, at_0, at_1, at_2, at_3, at_4, at_5, at_6, at_7, i_lenT, i_lenL, i_min2, i_max2, i_max3, i_min3, i_abs, i_sumi, i_sori, i_sorTi, i_tupT, i_tupL, i_lstT, i_lstL, i_inti, i_intb, ty_ii, ty_ib, ty_bi, ty_bb, ty_tt, ty_ti, noIns_int, noIns_bl, noIns_tup, noIns_lst, noIns_non, noIns_str, seqOf_tup, seqOf_lst, it_seqT, it_seqL, Nat.reduceAdd, Nat.reduceSub, Nat.reduceMul, Nat.reduceEqDiff, Nat.reduceLeDiff, Int.reduceEq, Int.reduceNe, Int.reduceLT, Int.reduceLE, Int.reduceGT, Int.reduceGE, Int.reduceAdd, Int.reduceSub, Int.reduceMul, Int.reduceNeg, Int.reduceToNat, Int.reducePow, Int.reduceAbs, Int.cast_ofNat_Int, List.map_cons, List.map_nil, List.append_nil, List.nil_append, List.cons_append, List.length_cons, List.length_nil, List.length_map, decide_true, decide_false, decide_eq_true_eq, Bool.not_eq_true', decide_eq_false_iff_not, Bool.and_eq_true, Bool.or_eq_true, not_true_eq_false, not_false_eq_true, Bool.not_true, Bool.not_false, Bool.true_and, Bool.and_true, Bool.false_and, Bool.and_false, Bool.or_false, Bool.false_or, Bool.true_or, Bool.or_true, Bool.false_eq_true, if_true, if_false, ite_true, ite_false, reduceIte, ite_self, beq_self_eq_true, Bool.true_eq_false] at e
  simp only [bind_ok, bind_no, bind_ex, bind_ite, gd_true, getS_0, getS_s, slV_sh, slB_ow, slO_ow, setS_0, setS_s, wipe_nil, wipe_cons, frS_ow, frS_sh, frS_no, tg_one, tg_tup, setVs_nil, setVs_cons, iteD_bl, and_bl, or_bl, and_blp, or_blp, nand_blp, nor_blp, ev_var, ev_bor, ev_con, ev_glb, ev_bin, ev_neg, negD_int, ev_nt, notD_bl, ev_cmp, ev_chain, ev_and, ev_or, ev_ite, ev_tup, ev_lst, ev_idx, ev_slc, ev_rvs, rvs_L, rvs_T, ev_bi, ev_isi, lends, lent_false, ev_call, ev_nil, ev_cons, ev_none, ev_some, intD_int, evE_comp, cmpT_none, cmpT_some, compD_map, compA_nil, compA_cons, cmpC_some, cmpC_none, compA_int, goB_nx, goB_bk, goB_ct, goB_rt, goB_ex, goB_ite, xB_nil, xB_cons, getX_0, getX_s, bodyOf_for, bodyOf_while, loopB_eq, condOf_while, thenOf_ite, elseOf_ite, seg_eq, List.drop_succ_cons, List.drop_zero, List.take_succ_cons, List.take_zero, x_asg, ownD_lst, x_own, x_unp, x_aug, x_put, x_app, x_ext, x_pop, popM_app, popM_one, x_ite, x_for, forT_eq, forD_nil, forD_cons, x_ret, ret_false, ret_int, ret_bl, ret_non, ret_tup, x_retR, x_retN, x_brk, x_cnt, x_pas, x_frz, x_del, endD_rt, endD_nx, endD_ex, endD_ite, iterO_nx, iterO_ct, iterO_bk, iterO_rt, iniS_0, iniS_n, iniS_c, b_add, b_sub, b_mul, b_addT, b_addL, b_rep, b_div, b_mod, b_pow, b_shl, b_shr, b_band, b_bor, b_bxor, a_add, a_sub, c_lt, c_le, c_gt, c_ge, c_eqi, c_nei, c_eqb, c_neb, c_isn, c_nisn, c_isb, c_nisb, eqD_ii, eqD_tt, eqD_ll, eqDs_n, eqDs_c, pl_int, pl_non, pl_bl, pl_tup, pl_lst, all_ints, List.all_cons, List.all_nil, fmod_e, fdiv_e, isNon_non, isNon_int, isNon_tup, isNon_lst, x_idxT, x_idxL, idxO_some, at_0, at_1, at_2, at_3, at_4, at_5, at_6, at_7, i_lenT, i_lenL, i_min2, i_max2, i_max3, i_min3, i_abs, i_sumi, i_sori, i_sorTi, i_tupT, i_tupL, i_lstT, i_lstL, i_inti, i_intb, ty_ii, ty_ib, ty_bi, ty_bb, ty_tt, ty_ti, noIns_int, noIns_bl, noIns_tup, noIns_lst, noIns_non, noIns_str, seqOf_tup, seqOf_lst, it_seqT, it_seqL, Nat.reduceAdd, Nat.reduceSub, Nat.reduceMul, Nat.reduceEqDiff, Nat.reduceLeDiff, Int.reduceEq, Int.reduceNe, Int.reduceLT, Int.reduceLE, Int.reduceGT, Int.reduceGE, Int.reduceAdd, Int.reduceSub, Int.reduceMul, Int.reduceNeg, Int.reduceToNat, Int.reducePow, Int.reduceAbs, Int.cast_ofNat_Int, List.map_cons, List.map_nil, List.append_nil, List.nil_append, List.cons_append, List.length_cons, List.length_nil, List.length_map, decide_true, decide_false, decide_eq_true_eq, Bool.not_eq_true', decide_eq_false_iff_not, Bool.and_eq_true, Bool.or_eq_true, not_true_eq_false, not_false_eq_true, Bool.not_true, Bool.not_false, Bool.true_and, Bool.and_true, Bool.false_and, Bool.and_false, Bool.or_false, Bool.false_or, Bool.true_or, Bool.or_true, Bool.false_eq_true, if_true, if_false, ite_true, ite_false, reduceIte, ite_self, beq_self_eq_true, Bool.true_eq_false, it_rng1n (show ts.length < 2 ^ 62 by omega), e]
end Dw

namespace Dw
open PySem
/-- a comprehension over a row, its target of any kind -/
theorem ev_compG {F : Fs} {elt v : Ex} {tg : List Nat} {ρ : List Sl} {α : Type} {l : List α} {enc G : α → D} (h0 : evE F v ρ = .ok (.lst (l.map enc))) (hf : l.length ≤ 1000000) (h : ∀ x ∈ l, cmpT F ρ tg none elt (enc x) = .ok (some (G x))) : evE F (.comp elt tg .seq [v] none) ρ = .ok (.lst (l.map G)) := by
  rw [evE_comp, ev_cons, ev_nil, h0, bind_ok, bind_ok, bind_ok, it_seqL, bind_ok, fits_of (by rw [List.length_map]; exact hf), gd_true, bind_ok, compD_map, compA_mem (G := G) h, bind_ok]
def ids (l : List Nat) : List D := l.map fun k : Nat => D.int (k : Int)
theorem toNat_cast (l : List Nat) : (l.map fun k : Nat => (k : Int)).map Int.toNat = l := by
  rw [List.map_map]
  have : (Int.toNat ∘ fun k : Nat => (k : Int)) = id := by funext k; simp
  rw [this, List.map_id]
theorem cast_toNat {l : List Int} (h : ∀ x ∈ l, 0 ≤ x) : (l.map Int.toNat).map (fun k : Nat => (k : Int)) = l := by
  rw [List.map_map]
  have : ∀ x ∈ l, ((fun k : Nat => (k : Int)) ∘ Int.toNat) x = id x := fun x hx => by
    have := h x hx
    simp only [Function.comp_apply, id_eq]; omega
  rw [List.map_congr_left this, List.map_id]
/-- sorted positions -/
theorem sortN {l : List Nat} (hn : l.Nodup) : ∃ a : List Nat, sortI (l.map fun k : Nat => (k : Int)) = a.map (fun k : Nat => (k : Int)) ∧ a.Perm l ∧ a.Pairwise (· < ·) := by
  have p := sort_perm (l.map fun k : Nat => (k : Int))
  have s := sort_sorted (l.map fun k : Nat => (k : Int))
  have nn : ∀ x ∈ sortI (l.map fun k : Nat => (k : Int)), 0 ≤ x := fun x hx => by
    obtain ⟨k, _, rfl⟩ := List.mem_map.1 (p.mem_iff.1 hx); omega
  have pa : ((sortI (l.map fun k : Nat => (k : Int))).map Int.toNat).Perm l := by
    have := p.map Int.toNat
    rwa [toNat_cast] at this
  refine ⟨(sortI (l.map fun k : Nat => (k : Int))).map Int.toNat, (cast_toNat nn).symm, pa, ?_⟩
  have nd : ((sortI (l.map fun k : Nat => (k : Int))).map Int.toNat).Nodup := pa.nodup_iff.2 hn
  have le : ((sortI (l.map fun k : Nat => (k : Int))).map Int.toNat).Pairwise (· ≤ ·) := by
    rw [List.pairwise_map]
    exact s.imp fun h => by omega
  exact (List.Pairwise.and le nd).imp fun ⟨h1, h2⟩ => Nat.lt_of_le_of_ne h1 h2
theorem sortN_i {l : List Nat} (hn : l.Nodup) : ∃ a : List Nat, biD .sor [.lst (ids l)] = .ok (.lst (ids a)) ∧ a.Perm l ∧ a.Pairwise (· < ·) := by
  obtain ⟨a, e, h1, h2⟩ := sortN hn
  refine ⟨a, ?_, h1, h2⟩
  have := i_sori (l.map fun k : Nat => (k : Int))
  rw [e, List.map_map, List.map_map] at this
  exact this
theorem at_cov {s : Nat} {f : List Sd} {j : Nat} (h : j < f.length) : ∃ p : Sd, L2.atI (f.map encS) (j : Int) = some (encS p) := by
  obtain ⟨x, _, _, h2⟩ := at_int (xs := f) (i := (j : Int)) (by omega) (by omega)
  exact ⟨x, by rw [at_map, h2, Option.map_some]⟩
theorem at_td0 (t : Td) : L2.atI [encF t.cov, encF t.hrt, .int t.some', .int t.evr, .int t.many, .int t.lst, .int t.mst, .int t.sum] 0 = some (encF t.cov) := rfl
theorem lined_up_ok (n : Nat) {s : Nat} (hs : s ≤ 1000) (ts : List Td) (hl : ts.length ≤ 100000) (g : ∀ x ∈ ts, x.cov.length = s) {j : Nat} (hj : j < s) : ∃ order : List Nat, callN P (n + 1) n_lined_up [.tup (ts.map encD), .int (j : Nat)] = .ok (.lst (ids order)) ∧ order.Perm (List.range ts.length) := by
  rw [callN_eq P_lined_up _ (by simp)]
  let sd : Nat → Sd := fun k => ((ts.map (·.cov)).getD k []).getD j (0, 0, 0, 0)
  let rw' : Nat → List Int := fun k => [(sd k).1 + (sd k).2.1, (k : Int)]
  have loop := for_rng (f := forT (callN P n) true [3] (loopB b_lined_up 1)) (g := fun k : Nat => D.int (k : Int)) (fun k ρ => ρ = [.sh (.tup (ts.map encD)), .sh (.int (j : Nat)), .ow (((List.range k).map rw').map rowD), .no, .no, .no, .no, .no, .no]) ts.length (ρ := [.sh (.tup (ts.map encD)), .sh (.int (j : Nat)), .ow [], .no, .no, .no, .no, .no, .no]) rfl (fun k ρ hk h => by
    subst h
    refine ⟨_, ?_, rfl⟩
    have gl := g ts[k] (List.getElem_mem hk)
    have e0 := at_td hk
    have ec : (ts.map (·.cov)).getD k [] = ts[k].cov := covD hk
    have es : L2.atI (ts[k].cov.map encS) (j : Int) = some (encS (sd k)) := by
      obtain ⟨x, _, h1, h2⟩ := at_int (xs := ts[k].cov) (i := (j : Int)) (by omega) (by omega)
      rw [at_map, h2, Option.map_some]
      rw [Int.toNat_natCast] at h1
      show some (encS x) = some (encS (((ts.map (·.cov)).getD k []).getD j (0, 0, 0, 0)))
      rw [ec, List.getD_eq_getElem?_getD, h1]; rfl
    have dk : decide ((List.range k).length < sizeLine) = true := dec_size (by rw [List.length_range]; omega)
    unfold b_lined_up
    simp only [bind_ok, bind_no, bind_ex, bind_ite, gd_true, getS_0, getS_s, slV_sh, slB_ow, slO_ow, setS_0, setS_s, wipe_nil, wipe_cons, frS_ow, frS_sh, frS_no, tg_one, tg_tup, setVs_nil, setVs_cons, iteD_bl, and_bl, or_bl, and_blp, or_blp, nand_blp, nor_blp, ev_var, ev_bor, ev_con, ev_glb, ev_bin, ev_neg, negD_int, ev_nt, notD_bl, ev_cmp, ev_chain, ev_and, ev_or, ev_ite, ev_tup, ev_lst, ev_idx, ev_slc, ev_rvs, rvs_L, rvs_T, ev_bi, ev_isi, lends, lent_false, ev_call, ev_nil, ev_cons, ev_none, ev_some, intD_int, evE_comp, cmpT_none, cmpT_some, compD_map, compA_nil, compA_cons, cmpC_some, cmpC_none, compA_int, goB_nx, goB_bk, goB_ct, goB_rt, goB_ex, goB_ite, xB_nil, xB_cons, getX_0, getX_s, bodyOf_for, bodyOf_while, loopB_eq, condOf_while, thenOf_ite, elseOf_ite, seg_eq, List.drop_succ_cons, List.drop_zero, List.take_succ_cons, List.take_zero, x_asg, ownD_lst, x_own, x_unp, x_aug, x_put, x_app, x_ext, x_pop, popM_app, popM_one, x_ite, x_for, forT_eq, forD_nil, forD_cons, x_ret, ret_false, ret_int, ret_bl, ret_non, ret_tup, x_retR, x_retN, x_brk, x_cnt, x_pas, x_frz, x_del, endD_rt, endD_nx, endD_ex, endD_ite, iterO_nx, iterO_ct, iterO_bk, iterO_rt, iniS_0, iniS_n, iniS_c, b_add, b_sub, b_mul, b_addT, b_addL, b_rep, b_div, b_mod, b_pow, b_shl, b_shr, b_band, b_bor, b_bxor, a_add, a_sub, c_lt, c_le, c_gt, c_ge, c_eqi, c_nei, c_eqb, c_neb, c_isn, c_nisn, c_isb, c_nisb, eqD_ii, eqD_tt, eqD_ll, eqDs_n, eqDs_c, pl_int, pl_non, pl_bl, pl_tup, pl_lst, all_ints, List.all_cons, List.all_nil, fmod_e, fdiv_e, isNon_non, isNon_int, isNon_tup, isNon_lst, x_idxT, x_idxL, idxO_some, at_0, at_1, at_2, at_3, at_4, at_5, at_6, at_7, i_lenT, i_lenL, i_min2, i_max2, i_max3, i_min3, i_abs, i_sumi, i_sori, i_sorTi, i_tupT, i_tupL, i_lstT, i_lstL, i_inti, i_intb, ty_ii, ty_ib, ty_bi, ty_bb, ty_tt, ty_ti, noIns_int, noIns_bl, noIns_tup, noIns_lst, noIns_non, noIns_str, seqOf_tup, seqOf_lst, it_seqT, it_seqL, Nat.reduceAdd, Nat.reduceSub, Nat.reduceMul, Nat.reduceEqDiff, Nat.reduceLeDiff, Int.reduceEq, Int.reduceNe, Int.reduceLT, Int.reduceLE, Int.reduceGT, Int.reduceGE, Int.reduceAdd, Int.reduceSub, Int.reduceMul, Int.reduceNeg, Int.reduceToNat, Int.reducePow, Int.reduceAbs, Int.cast_ofNat_Int, List.map_cons, List.map_nil, List.append_nil, List.nil_append, List.cons_append, List.length_cons, List.length_nil, List.length_map, decide_true, decide_false, decide_eq_true_eq, Bool.not_eq_true', decide_eq_false_iff_not, Bool.and_eq_true, Bool.or_eq_true, not_true_eq_false, not_false_eq_true, Bool.not_true, Bool.not_false, Bool.true_and, Bool.and_true, Bool.false_and, Bool.and_false, Bool.or_false, Bool.false_or, Bool.true_or, Bool.or_true, Bool.false_eq_true, if_true, if_false, ite_true, ite_false, reduceIte, ite_self, beq_self_eq_true, Bool.true_eq_false, e0, encD, at_td0, encF, es, encS, dk]
    rw [List.range_succ, List.map_append, List.map_append]
    rfl)
  obtain ⟨ρ', e, rfl⟩ := loop
  have hrow : ∀ ns ∈ (List.range ts.length).map rw', ns ≠ [] := fun ns hns => by
    obtain ⟨k, _, rfl⟩ := List.mem_map.1 hns
    exact List.cons_ne_nil _ _
  have hsor := i_sorT hrow
  have sp := sortT_perm ((List.range ts.length).map rw')
  have hx : ∀ ns ∈ sortT ((List.range ts.length).map rw'), ∃ (m : Int) (k : Nat), ns = [m, (k : Int)] := fun ns hns => by
    obtain ⟨k, _, rfl⟩ := List.mem_map.1 (sp.mem_iff.1 hns)
    exact ⟨_, k, rfl⟩
  have hlen : (sortT ((List.range ts.length).map rw')).length ≤ 1000000 := by
    rw [sp.length_eq, List.length_map, List.length_range]; omega
  have A : exB (callN P n) true (seg b_lined_up 0 3) (iniS 9 [.tup (ts.map encD), .int (j : Nat)]) = .ok (.nx [.sh (.tup (ts.map encD)), .sh (.int (j : Nat)), .sh (.lst (((List.range ts.length).map rw').map rowD)), .no, .no, .no, .no, .no, .no]) := by
    unfold b_lined_up at e ⊢
    simp only [bind_ok, bind_no, bind_ex, bind_ite, gd_true, getS_0, getS_s, slV_sh, slB_ow, slO_ow, setS_0, setS_s, wipe_nil, wipe_cons, frS_ow, frS_sh, frS_no, tg_one, tg_tup, setVs_nil, setVs_cons, iteD_bl, and_bl, or_bl, and_blp, or_blp, nand_blp, nor_blp, ev_var, ev_bor, ev_con, ev_glb, ev_bin, ev_neg, negD_int, ev_nt, notD_bl, ev_cmp, ev_chain, ev_and, ev_or, ev_ite, ev_tup, ev_lst, ev_idx, ev_slc, ev_rvs, rvs_L, rvs_T, ev_bi, ev_isi, lends, lent_false, ev_call, ev_nil, ev_cons, ev_none, ev_some, intD_int, evE_comp, cmpT_none, cmpT_some, compD_map, compA_nil, compA_cons, cmpC_some, cmpC_none, compA_int, goB_nx, goB_bk, goB_ct, goB_rt, goB_ex, goB_ite, xB_nil, xB_cons, getX_0, getX_s, bodyOf_for, bodyOf_while, loopB_eq, condOf_while, thenOf_ite, elseOf_ite, seg_eq, List.drop_succ_cons, List.drop_zero, List.take_succ_cons, List.take_zero, x_asg, ownD_lst, x_own, x_unp, x_aug, x_put, x_app, x_ext, x_pop, popM_app, popM_one, x_ite, x_for, forT_eq, forD_nil, forD_cons, x_ret, ret_false, ret_int, ret_bl, ret_non, ret_tup, x_retR, x_retN, x_brk, x_cnt, x_pas, x_frz, x_del, endD_rt, endD_nx, endD_ex, endD_ite, iterO_nx, iterO_ct, iterO_bk, iterO_rt, iniS_0, iniS_n, iniS_c, b_add, b_sub, b_mul, b_addT, b_addL, b_rep, b_div, b_mod, b_pow, b_shl, b_shr, b_band, b_bor, b_bxor, a_add, a_sub, c_lt, c_le, c_gt, c_ge, c_eqi, c_nei, c_eqb, c_neb, c_isn, c_nisn, c_isb, c_nisb, eqD_ii, eqD_tt, eqD_ll, eqDs_n, eqDs_c, pl_int, pl_non, pl_bl, pl_tup, pl_lst, all_ints, List.all_cons, List.all_nil, fmod_e, fdiv_e, isNon_non, isNon_int, isNon_tup, isNon_lst, x_idxT, x_idxL, idxO_some, at_0, at_1, at_2, at_3, at_4, at_5, at_6, at_7, i_lenT, i_lenL, i_min2, i_max2, i_max3, i_min3, i_abs, i_sumi, i_sori, i_sorTi, i_tupT, i_tupL, i_lstT, i_lstL, i_inti, i_intb, ty_ii, ty_ib, ty_bi, ty_bb, ty_tt, ty_ti, noIns_int, noIns_bl, noIns_tup, noIns_lst, noIns_non, noIns_str, seqOf_tup, seqOf_lst, it_seqT, it_seqL, Nat.reduceAdd, Nat.reduceSub, Nat.reduceMul, Nat.reduceEqDiff, Nat.reduceLeDiff, Int.reduceEq, Int.reduceNe, Int.reduceLT, Int.reduceLE, Int.reduceGT, Int.reduceGE, Int.reduceAdd, Int.reduceSub, Int.reduceMul, Int.reduceNeg, Int.reduceToNat, Int.reducePow, Int.reduceAbs, Int.cast_ofNat_Int, List.map_cons, List.map_nil, List.append_nil, List.nil_append, List.cons_append, List.length_cons, List.length_nil, List.length_map, decide_true, decide_false, decide_eq_true_eq, Bool.not_eq_true', decide_eq_false_iff_not, Bool.and_eq_true, Bool.or_eq_true, not_true_eq_false, not_false_eq_true, Bool.not_true, Bool.not_false, Bool.true_and, Bool.and_true, Bool.false_and, Bool.and_false, Bool.or_false, Bool.false_or, Bool.true_or, Bool.or_true, Bool.false_eq_true, if_true, if_false, ite_true, ite_false, reduceIte, ite_self, beq_self_eq_true, Bool.true_eq_false] at e
    simp only [bind_ok, bind_no, bind_ex, bind_ite, gd_true, getS_0, getS_s, slV_sh, slB_ow, slO_ow, setS_0, setS_s, wipe_nil, wipe_cons, frS_ow, frS_sh, frS_no, tg_one, tg_tup, setVs_nil, setVs_cons, iteD_bl, and_bl, or_bl, and_blp, or_blp, nand_blp, nor_blp, ev_var, ev_bor, ev_con, ev_glb, ev_bin, ev_neg, negD_int, ev_nt, notD_bl, ev_cmp, ev_chain, ev_and, ev_or, ev_ite, ev_tup, ev_lst, ev_idx, ev_slc, ev_rvs, rvs_L, rvs_T, ev_bi, ev_isi, lends, lent_false, ev_call, ev_nil, ev_cons, ev_none, ev_some, intD_int, evE_comp, cmpT_none, cmpT_some, compD_map, compA_nil, compA_cons, cmpC_some, cmpC_none, compA_int, goB_nx, goB_bk, goB_ct, goB_rt, goB_ex, goB_ite, xB_nil, xB_cons, getX_0, getX_s, bodyOf_for, bodyOf_while, loopB_eq, condOf_while, thenOf_ite, elseOf_ite, seg_eq, List.drop_succ_cons, List.drop_zero, List.take_succ_cons, List.take_zero, x_asg, ownD_lst, x_own, x_unp, x_aug, x_put, x_app, x_ext, x_pop, popM_app, popM_one, x_ite, x_for, forT_eq, forD_nil, forD_cons, x_ret, ret_false, ret_int, ret_bl, ret_non, ret_tup, x_retR, x_retN, x_brk, x_cnt, x_pas, x_frz, x_del, endD_rt, endD_nx, endD_ex, endD_ite, iterO_nx, iterO_ct, iterO_bk, iterO_rt, iniS_0, iniS_n, iniS_c, b_add, b_sub, b_mul, b_addT, b_addL, b_rep, b_div, b_mod, b_pow, b_shl, b_shr, b_band, b_bor, b_bxor, a_add, a_sub, c_lt, c_le, c_gt, c_ge, c_eqi, c_nei, c_eqb, c_neb, c_isn, c_nisn, c_isb, c_nisb, eqD_ii, eqD_tt, eqD_ll, eqDs_n, eqDs_c, pl_int, pl_non, pl_bl, pl_tup, pl_lst, all_ints, List.all_cons, List.all_nil, fmod_e, fdiv_e, isNon_non, isNon_int, isNon_tup, isNon_lst, x_idxT, x_idxL, idxO_some, at_0, at_1, at_2, at_3, at_4, at_5, at_6, at_7, i_lenT, i_lenL, i_min2, i_max2, i_max3, i_min3, i_abs, i_sumi, i_sori, i_sorTi, i_tupT, i_tupL, i_lstT, i_lstL, i_inti, i_intb, ty_ii, ty_ib, ty_bi, ty_bb, ty_tt, ty_ti, noIns_int, noIns_bl, noIns_tup, noIns_lst, noIns_non, noIns_str, seqOf_tup, seqOf_lst, it_seqT, it_seqL, Nat.reduceAdd, Nat.reduceSub, Nat.reduceMul, Nat.reduceEqDiff, Nat.reduceLeDiff, Int.reduceEq, Int.reduceNe, Int.reduceLT, Int.reduceLE, Int.reduceGT, Int.reduceGE, Int.reduceAdd, Int.reduceSub, Int.reduceMul, Int.reduceNeg, Int.reduceToNat, Int.reducePow, Int.reduceAbs, Int.cast_ofNat_Int, List.map_cons, List.map_nil, List.append_nil, List.nil_append, List.cons_append, List.length_cons, List.length_nil, List.length_map, decide_true, decide_false, decide_eq_true_eq, Bool.not_eq_true', decide_eq_false_iff_not, Bool.and_eq_true, Bool.or_eq_true, not_true_eq_false, not_false_eq_true, Bool.not_true, Bool.not_false, Bool.true_and, Bool.and_true, Bool.false_and, Bool.and_false, Bool.or_false, Bool.false_or, Bool.true_or, Bool.or_true, Bool.false_eq_true, if_true, if_false, ite_true, ite_false, reduceIte, ite_self, beq_self_eq_true, Bool.true_eq_false, it_rng1n (show ts.length < 2 ^ 62 by omega), e]
  have hc := ev_compG (F := callN P n) (elt := .var 3) (tg := [8, 3]) (v := .bi .sor [.var 2]) (ρ := [.sh (.tup (ts.map encD)), .sh (.int (j : Nat)), .sh (.lst (((List.range ts.length).map rw').map rowD)), .no, .no, .no, .no, .no, .no]) (l := sortT ((List.range ts.length).map rw')) (enc := rowD) (G := fun ns => D.int (ns.getD 1 0).toNat) (by rw [ev_bi, ev_cons, ev_nil, ev_var, getS_s, getS_s, getS_0, slV_sh, bind_ok, bind_ok, bind_ok, hsor]) hlen (fun ns hns => by
    obtain ⟨m, k, rfl⟩ := hx ns hns
    unfold rowD
    simp only [bind_ok, bind_no, bind_ex, bind_ite, gd_true, getS_0, getS_s, slV_sh, slB_ow, slO_ow, setS_0, setS_s, wipe_nil, wipe_cons, frS_ow, frS_sh, frS_no, tg_one, tg_tup, setVs_nil, setVs_cons, iteD_bl, and_bl, or_bl, and_blp, or_blp, nand_blp, nor_blp, ev_var, ev_bor, ev_con, ev_glb, ev_bin, ev_neg, negD_int, ev_nt, notD_bl, ev_cmp, ev_chain, ev_and, ev_or, ev_ite, ev_tup, ev_lst, ev_idx, ev_slc, ev_rvs, rvs_L, rvs_T, ev_bi, ev_isi, lends, lent_false, ev_call, ev_nil, ev_cons, ev_none, ev_some, intD_int, evE_comp, cmpT_none, cmpT_some, compD_map, compA_nil, compA_cons, cmpC_some, cmpC_none, compA_int, goB_nx, goB_bk, goB_ct, goB_rt, goB_ex, goB_ite, xB_nil, xB_cons, getX_0, getX_s, bodyOf_for, bodyOf_while, loopB_eq, condOf_while, thenOf_ite, elseOf_ite, seg_eq, List.drop_succ_cons, List.drop_zero, List.take_succ_cons, List.take_zero, x_asg, ownD_lst, x_own, x_unp, x_aug, x_put, x_app, x_ext, x_pop, popM_app, popM_one, x_ite, x_for, forT_eq, forD_nil, forD_cons, x_ret, ret_false, ret_int, ret_bl, ret_non, ret_tup, x_retR, x_retN, x_brk, x_cnt, x_pas, x_frz, x_del, endD_rt, endD_nx, endD_ex, endD_ite, iterO_nx, iterO_ct, iterO_bk, iterO_rt, iniS_0, iniS_n, iniS_c, b_add, b_sub, b_mul, b_addT, b_addL, b_rep, b_div, b_mod, b_pow, b_shl, b_shr, b_band, b_bor, b_bxor, a_add, a_sub, c_lt, c_le, c_gt, c_ge, c_eqi, c_nei, c_eqb, c_neb, c_isn, c_nisn, c_isb, c_nisb, eqD_ii, eqD_tt, eqD_ll, eqDs_n, eqDs_c, pl_int, pl_non, pl_bl, pl_tup, pl_lst, all_ints, List.all_cons, List.all_nil, fmod_e, fdiv_e, isNon_non, isNon_int, isNon_tup, isNon_lst, x_idxT, x_idxL, idxO_some, at_0, at_1, at_2, at_3, at_4, at_5, at_6, at_7, i_lenT, i_lenL, i_min2, i_max2, i_max3, i_min3, i_abs, i_sumi, i_sori, i_sorTi, i_tupT, i_tupL, i_lstT, i_lstL, i_inti, i_intb, ty_ii, ty_ib, ty_bi, ty_bb, ty_tt, ty_ti, noIns_int, noIns_bl, noIns_tup, noIns_lst, noIns_non, noIns_str, seqOf_tup, seqOf_lst, it_seqT, it_seqL, Nat.reduceAdd, Nat.reduceSub, Nat.reduceMul, Nat.reduceEqDiff, Nat.reduceLeDiff, Int.reduceEq, Int.reduceNe, Int.reduceLT, Int.reduceLE, Int.reduceGT, Int.reduceGE, Int.reduceAdd, Int.reduceSub, Int.reduceMul, Int.reduceNeg, Int.reduceToNat, Int.reducePow, Int.reduceAbs, Int.cast_ofNat_Int, List.map_cons, List.map_nil, List.append_nil, List.nil_append, List.cons_append, List.length_cons, List.length_nil, List.length_map, decide_true, decide_false, decide_eq_true_eq, Bool.not_eq_true', decide_eq_false_iff_not, Bool.and_eq_true, Bool.or_eq_true, not_true_eq_false, not_false_eq_true, Bool.not_true, Bool.not_false, Bool.true_and, Bool.and_true, Bool.false_and, Bool.and_false, Bool.or_false, Bool.false_or, Bool.true_or, Bool.or_true, Bool.false_eq_true, if_true, if_false, ite_true, ite_false, reduceIte, ite_self, beq_self_eq_true, Bool.true_eq_false]
    rfl)
  refine ⟨(sortT ((List.range ts.length).map rw')).map fun ns => (ns.getD 1 0).toNat, ?_, ?_⟩
  · have eD : b_lined_up.drop 3 = [.retR (.comp (.var 3) [8, 3] .seq [(.bi .sor [(.var 2)])] none)] := rfl
    rw [xB_seg0 b_lined_up 3, A, goB_nx, eD, xB_cons, x_retR, hc, bind_ok]
    unfold ids
    simp only [bind_ok, bind_no, bind_ex, bind_ite, gd_true, getS_0, getS_s, slV_sh, slB_ow, slO_ow, setS_0, setS_s, wipe_nil, wipe_cons, frS_ow, frS_sh, frS_no, tg_one, tg_tup, setVs_nil, setVs_cons, iteD_bl, and_bl, or_bl, and_blp, or_blp, nand_blp, nor_blp, ev_var, ev_bor, ev_con, ev_glb, ev_bin, ev_neg, negD_int, ev_nt, notD_bl, ev_cmp, ev_chain, ev_and, ev_or, ev_ite, ev_tup, ev_lst, ev_idx, ev_slc, ev_rvs, rvs_L, rvs_T, ev_bi, ev_isi, lends, lent_false, ev_call, ev_nil, ev_cons, ev_none, ev_some, intD_int, evE_comp, cmpT_none, cmpT_some, compD_map, compA_nil, compA_cons, cmpC_some, cmpC_none, compA_int, goB_nx, goB_bk, goB_ct, goB_rt, goB_ex, goB_ite, xB_nil, xB_cons, getX_0, getX_s, bodyOf_for, bodyOf_while, loopB_eq, condOf_while, thenOf_ite, elseOf_ite, seg_eq, List.drop_succ_cons, List.drop_zero, List.take_succ_cons, List.take_zero, x_asg, ownD_lst, x_own, x_unp, x_aug, x_put, x_app, x_ext, x_pop, popM_app, popM_one, x_ite, x_for, forT_eq, forD_nil, forD_cons, x_ret, ret_false, ret_int, ret_bl, ret_non, ret_tup, x_retR, x_retN, x_brk, x_cnt, x_pas, x_frz, x_del, endD_rt, endD_nx, endD_ex, endD_ite, iterO_nx, iterO_ct, iterO_bk, iterO_rt, iniS_0, iniS_n, iniS_c, b_add, b_sub, b_mul, b_addT, b_addL, b_rep, b_div, b_mod, b_pow, b_shl, b_shr, b_band, b_bor, b_bxor, a_add, a_sub, c_lt, c_le, c_gt, c_ge, c_eqi, c_nei, c_eqb, c_neb, c_isn, c_nisn, c_isb, c_nisb, eqD_ii, eqD_tt, eqD_ll, eqDs_n, eqDs_c, pl_int, pl_non, pl_bl, pl_tup, pl_lst, all_ints, List.all_cons, List.all_nil, fmod_e, fdiv_e, isNon_non, isNon_int, isNon_tup, isNon_lst, x_idxT, x_idxL, idxO_some, at_0, at_1, at_2, at_3, at_4, at_5, at_6, at_7, i_lenT, i_lenL, i_min2, i_max2, i_max3, i_min3, i_abs, i_sumi, i_sori, i_sorTi, i_tupT, i_tupL, i_lstT, i_lstL, i_inti, i_intb, ty_ii, ty_ib, ty_bi, ty_bb, ty_tt, ty_ti, noIns_int, noIns_bl, noIns_tup, noIns_lst, noIns_non, noIns_str, seqOf_tup, seqOf_lst, it_seqT, it_seqL, Nat.reduceAdd, Nat.reduceSub, Nat.reduceMul, Nat.reduceEqDiff, Nat.reduceLeDiff, Int.reduceEq, Int.reduceNe, Int.reduceLT, Int.reduceLE, Int.reduceGT, Int.reduceGE, Int.reduceAdd, Int.reduceSub, Int.reduceMul, Int.reduceNeg, Int.reduceToNat, Int.reducePow, Int.reduceAbs, Int.cast_ofNat_Int, List.map_cons, List.map_nil, List.append_nil, List.nil_append, List.cons_append, List.length_cons, List.length_nil, List.length_map, decide_true, decide_false, decide_eq_true_eq, Bool.not_eq_true', decide_eq_false_iff_not, Bool.and_eq_true, Bool.or_eq_true, not_true_eq_false, not_false_eq_true, Bool.not_true, Bool.not_false, Bool.true_and, Bool.and_true, Bool.false_and, Bool.and_false, Bool.or_false, Bool.false_or, Bool.true_or, Bool.or_true, Bool.false_eq_true, if_true, if_false, ite_true, ite_false, reduceIte, ite_self, beq_self_eq_true, Bool.true_eq_false]
    rw [List.map_map]; rfl
  · have := sp.map fun ns => (ns.getD 1 0).toNat
    rw [List.map_map] at this
    have e2 : ((fun ns : List Int => (ns.getD 1 0).toNat) ∘ rw') = id := by funext k; rfl
    rwa [e2, List.map_id] at this
theorem rims_along_ok (n : Nat) {s : Nat} (hs : s ≤ 1000) (ts : List Td) (hl : ts.length ≤ 100000) (g : ∀ x ∈ ts, x.cov.length = s) (order : List Nat) (h0 : 0 < order.length) (ho : ∀ k ∈ order, k < ts.length) (hol : order.length ≤ 100000) : ∃ rims : List Int, callN P (n + 3) n_rims_along [.tup (ts.map encD), .lst (ids order)] = .ok (.lst (rims.map D.int)) ∧ rims.length = order.length := by
  rw [callN_eq P_rims_along _ (by simp)]
  have loop := for_list (f := forT (callN P (n + 2)) true [4] (loopB b_rims_along 2)) (enc := fun k : Nat => D.int (k : Int)) (fun t ρ => ∃ (rims : List Int) (c : List Sd), ρ = [.sh (.tup (ts.map encD)), .sh (.lst (ids order)), .ow (rims.map D.int), .sh (encF c), .no] ∧ rims.length = t ∧ c.length = s) order (ρ := [.sh (.tup (ts.map encD)), .sh (.lst (ids order)), .ow [], .sh (encF (ts[order[0]]'(ho _ (List.getElem_mem h0))).cov), .no]) ⟨[], _, rfl, rfl, g _ (List.getElem_mem _)⟩ (fun t k ρ ht hI => by
    obtain ⟨rims, c, rfl, h1, h2⟩ := hI
    have hk := ho k (List.mem_of_getElem? ht)
    have hto : t < order.length := by
      by_cases z : t < order.length
      · exact z
      · rw [List.getElem?_eq_none (by omega)] at ht; cases ht
    have e0 := at_td hk
    have gl := g ts[k] (List.getElem_mem hk)
    have j1 := frames_joined_ok (n + 1) c ts[k].cov (by omega)
    have r1 := cover_rim_ok n (joined c ts[k].cov) (by rw [joined_len (by omega)]; omega)
    have dk : decide (rims.length < sizeLine) = true := dec_size (by omega)
    refine ⟨_, ?_, rims ++ [rim (joined c ts[k].cov)], joined c ts[k].cov, rfl, by simp [h1], by rw [joined_len (by omega)]; exact h2⟩
    unfold b_rims_along
    simp only [bind_ok, bind_no, bind_ex, bind_ite, gd_true, getS_0, getS_s, slV_sh, slB_ow, slO_ow, setS_0, setS_s, wipe_nil, wipe_cons, frS_ow, frS_sh, frS_no, tg_one, tg_tup, setVs_nil, setVs_cons, iteD_bl, and_bl, or_bl, and_blp, or_blp, nand_blp, nor_blp, ev_var, ev_bor, ev_con, ev_glb, ev_bin, ev_neg, negD_int, ev_nt, notD_bl, ev_cmp, ev_chain, ev_and, ev_or, ev_ite, ev_tup, ev_lst, ev_idx, ev_slc, ev_rvs, rvs_L, rvs_T, ev_bi, ev_isi, lends, lent_false, ev_call, ev_nil, ev_cons, ev_none, ev_some, intD_int, evE_comp, cmpT_none, cmpT_some, compD_map, compA_nil, compA_cons, cmpC_some, cmpC_none, compA_int, goB_nx, goB_bk, goB_ct, goB_rt, goB_ex, goB_ite, xB_nil, xB_cons, getX_0, getX_s, bodyOf_for, bodyOf_while, loopB_eq, condOf_while, thenOf_ite, elseOf_ite, seg_eq, List.drop_succ_cons, List.drop_zero, List.take_succ_cons, List.take_zero, x_asg, ownD_lst, x_own, x_unp, x_aug, x_put, x_app, x_ext, x_pop, popM_app, popM_one, x_ite, x_for, forT_eq, forD_nil, forD_cons, x_ret, ret_false, ret_int, ret_bl, ret_non, ret_tup, x_retR, x_retN, x_brk, x_cnt, x_pas, x_frz, x_del, endD_rt, endD_nx, endD_ex, endD_ite, iterO_nx, iterO_ct, iterO_bk, iterO_rt, iniS_0, iniS_n, iniS_c, b_add, b_sub, b_mul, b_addT, b_addL, b_rep, b_div, b_mod, b_pow, b_shl, b_shr, b_band, b_bor, b_bxor, a_add, a_sub, c_lt, c_le, c_gt, c_ge, c_eqi, c_nei, c_eqb, c_neb, c_isn, c_nisn, c_isb, c_nisb, eqD_ii, eqD_tt, eqD_ll, eqDs_n, eqDs_c, pl_int, pl_non, pl_bl, pl_tup, pl_lst, all_ints, List.all_cons, List.all_nil, fmod_e, fdiv_e, isNon_non, isNon_int, isNon_tup, isNon_lst, x_idxT, x_idxL, idxO_some, at_0, at_1, at_2, at_3, at_4, at_5, at_6, at_7, i_lenT, i_lenL, i_min2, i_max2, i_max3, i_min3, i_abs, i_sumi, i_sori, i_sorTi, i_tupT, i_tupL, i_lstT, i_lstL, i_inti, i_intb, ty_ii, ty_ib, ty_bi, ty_bb, ty_tt, ty_ti, noIns_int, noIns_bl, noIns_tup, noIns_lst, noIns_non, noIns_str, seqOf_tup, seqOf_lst, it_seqT, it_seqL, Nat.reduceAdd, Nat.reduceSub, Nat.reduceMul, Nat.reduceEqDiff, Nat.reduceLeDiff, Int.reduceEq, Int.reduceNe, Int.reduceLT, Int.reduceLE, Int.reduceGT, Int.reduceGE, Int.reduceAdd, Int.reduceSub, Int.reduceMul, Int.reduceNeg, Int.reduceToNat, Int.reducePow, Int.reduceAbs, Int.cast_ofNat_Int, List.map_cons, List.map_nil, List.append_nil, List.nil_append, List.cons_append, List.length_cons, List.length_nil, List.length_map, decide_true, decide_false, decide_eq_true_eq, Bool.not_eq_true', decide_eq_false_iff_not, Bool.and_eq_true, Bool.or_eq_true, not_true_eq_false, not_false_eq_true, Bool.not_true, Bool.not_false, Bool.true_and, Bool.and_true, Bool.false_and, Bool.and_false, Bool.or_false, Bool.false_or, Bool.true_or, Bool.or_true, Bool.false_eq_true, if_true, if_false, ite_true, ite_false, reduceIte, ite_self, beq_self_eq_true, Bool.true_eq_false, e0, encD, at_td0, j1, r1, dk, List.map_append])
  obtain ⟨ρ', e, rims, c, rfl, h1, h2⟩ := loop
  refine ⟨rims, ?_, h1⟩
  have o0 : L2.atI (ids order) 0 = some (.int (order[0] : Nat)) := by
    unfold ids
    obtain ⟨a, r, rfl⟩ := one_of h0
    rw [List.map_cons, at_0]; rfl
  have e0 := at_td (ho _ (List.getElem_mem h0))
  have hseq : itD .seq [.lst (ids order)] = .ok (order.map fun k : Nat => D.int (k : Int)) := rfl
  unfold b_rims_along at e ⊢
  unfold encD at *
  simp only [bind_ok, bind_no, bind_ex, bind_ite, gd_true, getS_0, getS_s, slV_sh, slB_ow, slO_ow, setS_0, setS_s, wipe_nil, wipe_cons, frS_ow, frS_sh, frS_no, tg_one, tg_tup, setVs_nil, setVs_cons, iteD_bl, and_bl, or_bl, and_blp, or_blp, nand_blp, nor_blp, ev_var, ev_bor, ev_con, ev_glb, ev_bin, ev_neg, negD_int, ev_nt, notD_bl, ev_cmp, ev_chain, ev_and, ev_or, ev_ite, ev_tup, ev_lst, ev_idx, ev_slc, ev_rvs, rvs_L, rvs_T, ev_bi, ev_isi, lends, lent_false, ev_call, ev_nil, ev_cons, ev_none, ev_some, intD_int, evE_comp, cmpT_none, cmpT_some, compD_map, compA_nil, compA_cons, cmpC_some, cmpC_none, compA_int, goB_nx, goB_bk, goB_ct, goB_rt, goB_ex, goB_ite, xB_nil, xB_cons, getX_0, getX_s, bodyOf_for, bodyOf_while, loopB_eq, condOf_while, thenOf_ite, elseOf_ite, seg_eq, List.drop_succ_cons, List.drop_zero, List.take_succ_cons, List.take_zero, x_asg, ownD_lst, x_own, x_unp, x_aug, x_put, x_app, x_ext, x_pop, popM_app, popM_one, x_ite, x_for, forT_eq, forD_nil, forD_cons, x_ret, ret_false, ret_int, ret_bl, ret_non, ret_tup, x_retR, x_retN, x_brk, x_cnt, x_pas, x_frz, x_del, endD_rt, endD_nx, endD_ex, endD_ite, iterO_nx, iterO_ct, iterO_bk, iterO_rt, iniS_0, iniS_n, iniS_c, b_add, b_sub, b_mul, b_addT, b_addL, b_rep, b_div, b_mod, b_pow, b_shl, b_shr, b_band, b_bor, b_bxor, a_add, a_sub, c_lt, c_le, c_gt, c_ge, c_eqi, c_nei, c_eqb, c_neb, c_isn, c_nisn, c_isb, c_nisb, eqD_ii, eqD_tt, eqD_ll, eqDs_n, eqDs_c, pl_int, pl_non, pl_bl, pl_tup, pl_lst, all_ints, List.all_cons, List.all_nil, fmod_e, fdiv_e, isNon_non, isNon_int, isNon_tup, isNon_lst, x_idxT, x_idxL, idxO_some, at_0, at_1, at_2, at_3, at_4, at_5, at_6, at_7, i_lenT, i_lenL, i_min2, i_max2, i_max3, i_min3, i_abs, i_sumi, i_sori, i_sorTi, i_tupT, i_tupL, i_lstT, i_lstL, i_inti, i_intb, ty_ii, ty_ib, ty_bi, ty_bb, ty_tt, ty_ti, noIns_int, noIns_bl, noIns_tup, noIns_lst, noIns_non, noIns_str, seqOf_tup, seqOf_lst, it_seqT, it_seqL, Nat.reduceAdd, Nat.reduceSub, Nat.reduceMul, Nat.reduceEqDiff, Nat.reduceLeDiff, Int.reduceEq, Int.reduceNe, Int.reduceLT, Int.reduceLE, Int.reduceGT, Int.reduceGE, Int.reduceAdd, Int.reduceSub, Int.reduceMul, Int.reduceNeg, Int.reduceToNat, Int.reducePow, Int.reduceAbs, Int.cast_ofNat_Int, List.map_cons, List.map_nil, List.append_nil, List.nil_append, List.cons_append, List.length_cons, List.length_nil, List.length_map, decide_true, decide_false, decide_eq_true_eq, Bool.not_eq_true', decide_eq_false_iff_not, Bool.and_eq_true, Bool.or_eq_true, not_true_eq_false, not_false_eq_true, Bool.not_true, Bool.not_false, Bool.true_and, Bool.and_true, Bool.false_and, Bool.and_false, Bool.or_false, Bool.false_or, Bool.true_or, Bool.or_true, Bool.false_eq_true, if_true, if_false, ite_true, ite_false, reduceIte, ite_self, beq_self_eq_true, Bool.true_eq_false] at e
  simp only [bind_ok, bind_no, bind_ex, bind_ite, gd_true, getS_0, getS_s, slV_sh, slB_ow, slO_ow, setS_0, setS_s, wipe_nil, wipe_cons, frS_ow, frS_sh, frS_no, tg_one, tg_tup, setVs_nil, setVs_cons, iteD_bl, and_bl, or_bl, and_blp, or_blp, nand_blp, nor_blp, ev_var, ev_bor, ev_con, ev_glb, ev_bin, ev_neg, negD_int, ev_nt, notD_bl, ev_cmp, ev_chain, ev_and, ev_or, ev_ite, ev_tup, ev_lst, ev_idx, ev_slc, ev_rvs, rvs_L, rvs_T, ev_bi, ev_isi, lends, lent_false, ev_call, ev_nil, ev_cons, ev_none, ev_some, intD_int, evE_comp, cmpT_none, cmpT_some, compD_map, compA_nil, compA_cons, cmpC_some, cmpC_none, compA_int, goB_nx, goB_bk, goB_ct, goB_rt, goB_ex, goB_ite, xB_nil, xB_cons, getX_0, getX_s, bodyOf_for, bodyOf_while, loopB_eq, condOf_while, thenOf_ite, elseOf_ite, seg_eq, List.drop_succ_cons, List.drop_zero, List.take_succ_cons, List.take_zero, x_asg, ownD_lst, x_own, x_unp, x_aug, x_put, x_app, x_ext, x_pop, popM_app, popM_one, x_ite, x_for, forT_eq, forD_nil, forD_cons, x_ret, ret_false, ret_int, ret_bl, ret_non, ret_tup, x_retR, x_retN, x_brk, x_cnt, x_pas, x_frz, x_del, endD_rt, endD_nx, endD_ex, endD_ite, iterO_nx, iterO_ct, iterO_bk, iterO_rt, iniS_0, iniS_n, iniS_c, b_add, b_sub, b_mul, b_addT, b_addL, b_rep, b_div, b_mod, b_pow, b_shl, b_shr, b_band, b_bor, b_bxor, a_add, a_sub, c_lt, c_le, c_gt, c_ge, c_eqi, c_nei, c_eqb, c_neb, c_isn, c_nisn, c_isb, c_nisb, eqD_ii, eqD_tt, eqD_ll, eqDs_n, eqDs_c, pl_int, pl_non, pl_bl, pl_tup, pl_lst, all_ints, List.all_cons, List.all_nil, fmod_e, fdiv_e, isNon_non, isNon_int, isNon_tup, isNon_lst, x_idxT, x_idxL, idxO_some, at_0, at_1, at_2, at_3, at_4, at_5, at_6, at_7, i_lenT, i_lenL, i_min2, i_max2, i_max3, i_min3, i_abs, i_sumi, i_sori, i_sorTi, i_tupT, i_tupL, i_lstT, i_lstL, i_inti, i_intb, ty_ii, ty_ib, ty_bi, ty_bb, ty_tt, ty_ti, noIns_int, noIns_bl, noIns_tup, noIns_lst, noIns_non, noIns_str, seqOf_tup, seqOf_lst, it_seqT, it_seqL, Nat.reduceAdd, Nat.reduceSub, Nat.reduceMul, Nat.reduceEqDiff, Nat.reduceLeDiff, Int.reduceEq, Int.reduceNe, Int.reduceLT, Int.reduceLE, Int.reduceGT, Int.reduceGE, Int.reduceAdd, Int.reduceSub, Int.reduceMul, Int.reduceNeg, Int.reduceToNat, Int.reducePow, Int.reduceAbs, Int.cast_ofNat_Int, List.map_cons, List.map_nil, List.append_nil, List.nil_append, List.cons_append, List.length_cons, List.length_nil, List.length_map, decide_true, decide_false, decide_eq_true_eq, Bool.not_eq_true', decide_eq_false_iff_not, Bool.and_eq_true, Bool.or_eq_true, not_true_eq_false, not_false_eq_true, Bool.not_true, Bool.not_false, Bool.true_and, Bool.and_true, Bool.false_and, Bool.and_false, Bool.or_false, Bool.false_or, Bool.true_or, Bool.or_true, Bool.false_eq_true, if_true, if_false, ite_true, ite_false, reduceIte, ite_self, beq_self_eq_true, Bool.true_eq_false, o0, e0, at_td0, hseq, e]
end Dw

namespace Dw
open PySem
/-- two parts of n positions -/
structure GP (n room : Nat) (a b : List Nat) : Prop where
  sa : a.Pairwise (· < ·)
  sb : b.Pairwise (· < ·)
  all : (a ++ b).Perm (List.range n)
  la : room / 2 ≤ a.length ∧ a.length ≤ room
  lb : room / 2 ≤ b.length ∧ b.length ≤ room
def encGP (a b : List Nat) : D := .tup [.tup (ids a), .tup (ids b)]
theorem slc_take (l : List Nat) (c : Nat) (h : c ≤ l.length) : slcD (.lst (ids l)) none (some (c : Int)) = .ok (.lst (ids (l.take c))) := by
  unfold ids
  rw [slc_L]
  have e : HT.sIx l.length l.length (some (c : Int)) = c := by rw [HT.sIx_nat]; omega
  rw [e, HT.sIx_none, List.drop_zero, Nat.sub_zero]
theorem slc_drop (l : List Nat) (c : Nat) (h : c ≤ l.length) : slcD (.lst (ids l)) (some (c : Int)) none = .ok (.lst (ids (l.drop c))) := by
  unfold ids
  rw [slc_L]
  have e : HT.sIx l.length 0 (some (c : Int)) = c := by rw [HT.sIx_nat]; omega
  rw [e, HT.sIx_none, List.take_of_length_le (by rw [List.length_drop]; exact Nat.le_refl _)]
def envP (ts : List Td) (fw : Nat) (L Pt : D) (o a b : Sl) : List Sl := [.sh (.tup (ts.map encD)), .no, .sh (.int (fw : Nat)), .sh L, .sh Pt, .no, o, a, b, .no, .no]
theorem parted_ok (n : Nat) {s : Nat} (hs : s ≤ 1000) (hs0 : 0 < s) (ts : List Td) (room : Nat) (hr : 2 ≤ room) (hr2 : room ≤ 1000) (h1 : room < ts.length) (h2 : ts.length ≤ 2 * room) (g : ∀ x ∈ ts, x.cov.length = s) : ∃ a b, GP ts.length room a b ∧ callN P (n + 4) n_parted [.tup (ts.map encD), .int (room : Nat)] = .ok (encGP a b) := by
  rw [callN_eq P_parted _ (by simp)]
  obtain ⟨fw, hfw, f1, f2, f3⟩ : ∃ fw : Nat, max ((room : Int) / 2) ((ts.length : Int) - (room : Int)) = (fw : Int) ∧ 1 ≤ fw ∧ room / 2 ≤ fw ∧ ts.length - room ≤ fw ∧ 2 * fw ≤ ts.length := ⟨max (room / 2) (ts.length - room), by omega, by omega, by omega, by omega, by omega⟩
  obtain ⟨f3, f4⟩ := f3
  have len0 : 0 < ts.length := by omega
  let St : D → D → Prop := fun L Pt => ∃ i a b, L = .int i ∧ Pt = encGP a b ∧ GP ts.length room a b
  -- one side
  have side : ∀ (j : Nat), j < s → ∀ L Pt, ((L = .non ∧ Pt = .non) ∨ St L Pt) → ∃ L' Pt', St L' Pt' ∧ forT (callN P (n + 3)) false [5] (loopB b_parted 4) (.int (j : Nat)) (envP ts fw L Pt .no .no .no) = .ok (.nx (envP ts fw L' Pt' .no .no .no)) := fun j hj L Pt hL => by
    obtain ⟨order, eo, po⟩ := lined_up_ok (n + 2) hs ts (by omega) g hj
    have lo : order.length = ts.length := by rw [po.length_eq, List.length_range]
    have mo : ∀ k ∈ order, k < ts.length := fun k hk => List.mem_range.1 (po.mem_iff.1 hk)
    have nd : order.Nodup := po.nodup_iff.2 List.nodup_range
    obtain ⟨r1, e1, l1⟩ := rims_along_ok n hs ts (by omega) g order (by omega) mo (by omega)
    obtain ⟨r2, e2, l2⟩ := rims_along_ok n hs ts (by omega) g order.reverse (by rw [List.length_reverse]; omega) (fun k hk => mo k (List.mem_reverse.1 hk)) (by rw [List.length_reverse]; omega)
    have erv : (ids order).reverse = ids order.reverse := by unfold ids; rw [List.map_reverse]
    have inner := for_rng (f := forT (callN P (n + 3)) false [9] (loopB (loopB b_parted 4) 4)) (g := fun t : Nat => D.int ((fw : Int) + (t : Int))) (fun t ρ => ∃ L Pt, ρ = envP ts fw L Pt (.sh (.lst (ids order))) (.sh (.lst (r1.map D.int))) (.sh (.lst (r2.map D.int))) ∧ ((t = 0 ∧ L = .non ∧ Pt = .non) ∨ St L Pt)) (ts.length + 1 - 2 * fw) (ρ := envP ts fw L Pt (.sh (.lst (ids order))) (.sh (.lst (r1.map D.int))) (.sh (.lst (r2.map D.int)))) ⟨L, Pt, rfl, by
        rcases hL with ⟨a, b⟩ | h
        · exact .inl ⟨rfl, a, b⟩
        · exact .inr h⟩ (fun t ρ ht hI => by
      obtain ⟨L, Pt, rfl, hL⟩ := hI
      have ec : (fw : Int) + (t : Int) = ((fw + t : Nat) : Int) := by omega
      obtain ⟨x, _, _, ex⟩ := at_int (xs := r1) (i := ((fw + t : Nat) : Int) - 1) (by omega) (by omega)
      obtain ⟨y, _, _, ey⟩ := at_int (xs := r2) (i := (ts.length : Int) - ((fw + t : Nat) : Int) - 1) (by omega) (by rw [l2, List.length_reverse]; omega)
      obtain ⟨a, ea, pa, sa⟩ := sortN_i (nd.sublist (List.take_sublist (fw + t) order))
      obtain ⟨b, eb, pb, sb⟩ := sortN_i (nd.sublist (List.drop_sublist (fw + t) order))
      have st := slc_take order (fw + t) (by omega)
      have sd := slc_drop order (fw + t) (by omega)
      have gp : GP ts.length room a b := by
        refine ⟨sa, sb, ?_, ?_, ?_⟩
        · refine (pa.append pb).trans ?_
          rw [List.take_append_drop]; exact po
        · rw [pa.length_eq, List.length_take]; omega
        · rw [pb.length_eq, List.length_drop]; omega
      rcases hL with ⟨_, rfl, rfl⟩ | hL
      · refine ⟨_, ?_, .int (x + y), encGP a b, rfl, .inr ⟨_, a, b, rfl, rfl, gp⟩⟩
        unfold b_parted envP
        rw [ec]
        simp only [bind_ok, bind_no, bind_ex, bind_ite, gd_true, getS_0, getS_s, slV_sh, slB_ow, slO_ow, setS_0, setS_s, wipe_nil, wipe_cons, frS_ow, frS_sh, frS_no, tg_one, tg_tup, setVs_nil, setVs_cons, iteD_bl, and_bl, or_bl, and_blp, or_blp, nand_blp, nor_blp, ev_var, ev_bor, ev_con, ev_glb, ev_bin, ev_neg, negD_int, ev_nt, notD_bl, ev_cmp, ev_chain, ev_and, ev_or, ev_ite, ev_tup, ev_lst, ev_idx, ev_slc, ev_rvs, rvs_L, rvs_T, ev_bi, ev_isi, lends, lent_false, ev_call, ev_nil, ev_cons, ev_none, ev_some, intD_int, evE_comp, cmpT_none, cmpT_some, compD_map, compA_nil, compA_cons, cmpC_some, cmpC_none, compA_int, goB_nx, goB_bk, goB_ct, goB_rt, goB_ex, goB_ite, xB_nil, xB_cons, getX_0, getX_s, bodyOf_for, bodyOf_while, loopB_eq, condOf_while, thenOf_ite, elseOf_ite, seg_eq, List.drop_succ_cons, List.drop_zero, List.take_succ_cons, List.take_zero, x_asg, ownD_lst, x_own, x_unp, x_aug, x_put, x_app, x_ext, x_pop, popM_app, popM_one, x_ite, x_for, forT_eq, forD_nil, forD_cons, x_ret, ret_false, ret_int, ret_bl, ret_non, ret_tup, x_retR, x_retN, x_brk, x_cnt, x_pas, x_frz, x_del, endD_rt, endD_nx, endD_ex, endD_ite, iterO_nx, iterO_ct, iterO_bk, iterO_rt, iniS_0, iniS_n, iniS_c, b_add, b_sub, b_mul, b_addT, b_addL, b_rep, b_div, b_mod, b_pow, b_shl, b_shr, b_band, b_bor, b_bxor, a_add, a_sub, c_lt, c_le, c_gt, c_ge, c_eqi, c_nei, c_eqb, c_neb, c_isn, c_nisn, c_isb, c_nisb, eqD_ii, eqD_tt, eqD_ll, eqDs_n, eqDs_c, pl_int, pl_non, pl_bl, pl_tup, pl_lst, all_ints, List.all_cons, List.all_nil, fmod_e, fdiv_e, isNon_non, isNon_int, isNon_tup, isNon_lst, x_idxT, x_idxL, idxO_some, at_0, at_1, at_2, at_3, at_4, at_5, at_6, at_7, i_lenT, i_lenL, i_min2, i_max2, i_max3, i_min3, i_abs, i_sumi, i_sori, i_sorTi, i_tupT, i_tupL, i_lstT, i_lstL, i_inti, i_intb, ty_ii, ty_ib, ty_bi, ty_bb, ty_tt, ty_ti, noIns_int, noIns_bl, noIns_tup, noIns_lst, noIns_non, noIns_str, seqOf_tup, seqOf_lst, it_seqT, it_seqL, Nat.reduceAdd, Nat.reduceSub, Nat.reduceMul, Nat.reduceEqDiff, Nat.reduceLeDiff, Int.reduceEq, Int.reduceNe, Int.reduceLT, Int.reduceLE, Int.reduceGT, Int.reduceGE, Int.reduceAdd, Int.reduceSub, Int.reduceMul, Int.reduceNeg, Int.reduceToNat, Int.reducePow, Int.reduceAbs, Int.cast_ofNat_Int, List.map_cons, List.map_nil, List.append_nil, List.nil_append, List.cons_append, List.length_cons, List.length_nil, List.length_map, decide_true, decide_false, decide_eq_true_eq, Bool.not_eq_true', decide_eq_false_iff_not, Bool.and_eq_true, Bool.or_eq_true, not_true_eq_false, not_false_eq_true, Bool.not_true, Bool.not_false, Bool.true_and, Bool.and_true, Bool.false_and, Bool.and_false, Bool.or_false, Bool.false_or, Bool.true_or, Bool.or_true, Bool.false_eq_true, if_true, if_false, ite_true, ite_false, reduceIte, ite_self, beq_self_eq_true, Bool.true_eq_false, at_map, ex, ey, Option.map_some, st, sd, ea, eb]
        rfl
      · obtain ⟨i, a', b', rfl, rfl, gp'⟩ := hL
        by_cases hlt : x + y < i
        · refine ⟨_, ?_, .int (x + y), encGP a b, rfl, .inr ⟨_, a, b, rfl, rfl, gp⟩⟩
          unfold b_parted envP
          rw [ec]
          simp only [bind_ok, bind_no, bind_ex, bind_ite, gd_true, getS_0, getS_s, slV_sh, slB_ow, slO_ow, setS_0, setS_s, wipe_nil, wipe_cons, frS_ow, frS_sh, frS_no, tg_one, tg_tup, setVs_nil, setVs_cons, iteD_bl, and_bl, or_bl, and_blp, or_blp, nand_blp, nor_blp, ev_var, ev_bor, ev_con, ev_glb, ev_bin, ev_neg, negD_int, ev_nt, notD_bl, ev_cmp, ev_chain, ev_and, ev_or, ev_ite, ev_tup, ev_lst, ev_idx, ev_slc, ev_rvs, rvs_L, rvs_T, ev_bi, ev_isi, lends, lent_false, ev_call, ev_nil, ev_cons, ev_none, ev_some, intD_int, evE_comp, cmpT_none, cmpT_some, compD_map, compA_nil, compA_cons, cmpC_some, cmpC_none, compA_int, goB_nx, goB_bk, goB_ct, goB_rt, goB_ex, goB_ite, xB_nil, xB_cons, getX_0, getX_s, bodyOf_for, bodyOf_while, loopB_eq, condOf_while, thenOf_ite, elseOf_ite, seg_eq, List.drop_succ_cons, List.drop_zero, List.take_succ_cons, List.take_zero, x_asg, ownD_lst, x_own, x_unp, x_aug, x_put, x_app, x_ext, x_pop, popM_app, popM_one, x_ite, x_for, forT_eq, forD_nil, forD_cons, x_ret, ret_false, ret_int, ret_bl, ret_non, ret_tup, x_retR, x_retN, x_brk, x_cnt, x_pas, x_frz, x_del, endD_rt, endD_nx, endD_ex, endD_ite, iterO_nx, iterO_ct, iterO_bk, iterO_rt, iniS_0, iniS_n, iniS_c, b_add, b_sub, b_mul, b_addT, b_addL, b_rep, b_div, b_mod, b_pow, b_shl, b_shr, b_band, b_bor, b_bxor, a_add, a_sub, c_lt, c_le, c_gt, c_ge, c_eqi, c_nei, c_eqb, c_neb, c_isn, c_nisn, c_isb, c_nisb, eqD_ii, eqD_tt, eqD_ll, eqDs_n, eqDs_c, pl_int, pl_non, pl_bl, pl_tup, pl_lst, all_ints, List.all_cons, List.all_nil, fmod_e, fdiv_e, isNon_non, isNon_int, isNon_tup, isNon_lst, x_idxT, x_idxL, idxO_some, at_0, at_1, at_2, at_3, at_4, at_5, at_6, at_7, i_lenT, i_lenL, i_min2, i_max2, i_max3, i_min3, i_abs, i_sumi, i_sori, i_sorTi, i_tupT, i_tupL, i_lstT, i_lstL, i_inti, i_intb, ty_ii, ty_ib, ty_bi, ty_bb, ty_tt, ty_ti, noIns_int, noIns_bl, noIns_tup, noIns_lst, noIns_non, noIns_str, seqOf_tup, seqOf_lst, it_seqT, it_seqL, Nat.reduceAdd, Nat.reduceSub, Nat.reduceMul, Nat.reduceEqDiff, Nat.reduceLeDiff, Int.reduceEq, Int.reduceNe, Int.reduceLT, Int.reduceLE, Int.reduceGT, Int.reduceGE, Int.reduceAdd, Int.reduceSub, Int.reduceMul, Int.reduceNeg, Int.reduceToNat, Int.reducePow, Int.reduceAbs, Int.cast_ofNat_Int, List.map_cons, List.map_nil, List.append_nil, List.nil_append, List.cons_append, List.length_cons, List.length_nil, List.length_map, decide_true, decide_false, decide_eq_true_eq, Bool.not_eq_true', decide_eq_false_iff_not, Bool.and_eq_true, Bool.or_eq_true, not_true_eq_false, not_false_eq_true, Bool.not_true, Bool.not_false, Bool.true_and, Bool.and_true, Bool.false_and, Bool.and_false, Bool.or_false, Bool.false_or, Bool.true_or, Bool.or_true, Bool.false_eq_true, if_true, if_false, ite_true, ite_false, reduceIte, ite_self, beq_self_eq_true, Bool.true_eq_false, at_map, ex, ey, Option.map_some, st, sd, ea, eb, hlt]
          rfl
        · refine ⟨_, ?_, .int i, encGP a' b', rfl, .inr ⟨_, a', b', rfl, rfl, gp'⟩⟩
          unfold b_parted envP
          rw [ec]
          simp only [bind_ok, bind_no, bind_ex, bind_ite, gd_true, getS_0, getS_s, slV_sh, slB_ow, slO_ow, setS_0, setS_s, wipe_nil, wipe_cons, frS_ow, frS_sh, frS_no, tg_one, tg_tup, setVs_nil, setVs_cons, iteD_bl, and_bl, or_bl, and_blp, or_blp, nand_blp, nor_blp, ev_var, ev_bor, ev_con, ev_glb, ev_bin, ev_neg, negD_int, ev_nt, notD_bl, ev_cmp, ev_chain, ev_and, ev_or, ev_ite, ev_tup, ev_lst, ev_idx, ev_slc, ev_rvs, rvs_L, rvs_T, ev_bi, ev_isi, lends, lent_false, ev_call, ev_nil, ev_cons, ev_none, ev_some, intD_int, evE_comp, cmpT_none, cmpT_some, compD_map, compA_nil, compA_cons, cmpC_some, cmpC_none, compA_int, goB_nx, goB_bk, goB_ct, goB_rt, goB_ex, goB_ite, xB_nil, xB_cons, getX_0, getX_s, bodyOf_for, bodyOf_while, loopB_eq, condOf_while, thenOf_ite, elseOf_ite, seg_eq, List.drop_succ_cons, List.drop_zero, List.take_succ_cons, List.take_zero, x_asg, ownD_lst, x_own, x_unp, x_aug, x_put, x_app, x_ext, x_pop, popM_app, popM_one, x_ite, x_for, forT_eq, forD_nil, forD_cons, x_ret, ret_false, ret_int, ret_bl, ret_non, ret_tup, x_retR, x_retN, x_brk, x_cnt, x_pas, x_frz, x_del, endD_rt, endD_nx, endD_ex, endD_ite, iterO_nx, iterO_ct, iterO_bk, iterO_rt, iniS_0, iniS_n, iniS_c, b_add, b_sub, b_mul, b_addT, b_addL, b_rep, b_div, b_mod, b_pow, b_shl, b_shr, b_band, b_bor, b_bxor, a_add, a_sub, c_lt, c_le, c_gt, c_ge, c_eqi, c_nei, c_eqb, c_neb, c_isn, c_nisn, c_isb, c_nisb, eqD_ii, eqD_tt, eqD_ll, eqDs_n, eqDs_c, pl_int, pl_non, pl_bl, pl_tup, pl_lst, all_ints, List.all_cons, List.all_nil, fmod_e, fdiv_e, isNon_non, isNon_int, isNon_tup, isNon_lst, x_idxT, x_idxL, idxO_some, at_0, at_1, at_2, at_3, at_4, at_5, at_6, at_7, i_lenT, i_lenL, i_min2, i_max2, i_max3, i_min3, i_abs, i_sumi, i_sori, i_sorTi, i_tupT, i_tupL, i_lstT, i_lstL, i_inti, i_intb, ty_ii, ty_ib, ty_bi, ty_bb, ty_tt, ty_ti, noIns_int, noIns_bl, noIns_tup, noIns_lst, noIns_non, noIns_str, seqOf_tup, seqOf_lst, it_seqT, it_seqL, Nat.reduceAdd, Nat.reduceSub, Nat.reduceMul, Nat.reduceEqDiff, Nat.reduceLeDiff, Int.reduceEq, Int.reduceNe, Int.reduceLT, Int.reduceLE, Int.reduceGT, Int.reduceGE, Int.reduceAdd, Int.reduceSub, Int.reduceMul, Int.reduceNeg, Int.reduceToNat, Int.reducePow, Int.reduceAbs, Int.cast_ofNat_Int, List.map_cons, List.map_nil, List.append_nil, List.nil_append, List.cons_append, List.length_cons, List.length_nil, List.length_map, decide_true, decide_false, decide_eq_true_eq, Bool.not_eq_true', decide_eq_false_iff_not, Bool.and_eq_true, Bool.or_eq_true, not_true_eq_false, not_false_eq_true, Bool.not_true, Bool.not_false, Bool.true_and, Bool.and_true, Bool.false_and, Bool.and_false, Bool.or_false, Bool.false_or, Bool.true_or, Bool.or_true, Bool.false_eq_true, if_true, if_false, ite_true, ite_false, reduceIte, ite_self, beq_self_eq_true, Bool.true_eq_false, at_map, ex, ey, Option.map_some, st, sd, ea, eb, hlt])
    obtain ⟨ρ', e, L', Pt', rfl, hS⟩ := inner
    have hS : St L' Pt' := by
      rcases hS with ⟨z, _⟩ | h
      · omega
      · exact h
    refine ⟨L', Pt', hS, ?_⟩
    have e3 : itD .rng2 [.int (fw : Int), .int ((ts.length : Int) - (fw : Int) + 1)] = .ok ((List.range (ts.length + 1 - 2 * fw)).map fun t : Nat => D.int ((fw : Int) + (t : Int))) := by
      rw [it_rng2 (by omega) (by omega)]
      rw [show ((ts.length : Int) - (fw : Int) + 1 - (fw : Int)).toNat = ts.length + 1 - 2 * fw by omega]
    unfold b_parted envP at e ⊢
    simp only [bind_ok, bind_no, bind_ex, bind_ite, gd_true, getS_0, getS_s, slV_sh, slB_ow, slO_ow, setS_0, setS_s, wipe_nil, wipe_cons, frS_ow, frS_sh, frS_no, tg_one, tg_tup, setVs_nil, setVs_cons, iteD_bl, and_bl, or_bl, and_blp, or_blp, nand_blp, nor_blp, ev_var, ev_bor, ev_con, ev_glb, ev_bin, ev_neg, negD_int, ev_nt, notD_bl, ev_cmp, ev_chain, ev_and, ev_or, ev_ite, ev_tup, ev_lst, ev_idx, ev_slc, ev_rvs, rvs_L, rvs_T, ev_bi, ev_isi, lends, lent_false, ev_call, ev_nil, ev_cons, ev_none, ev_some, intD_int, evE_comp, cmpT_none, cmpT_some, compD_map, compA_nil, compA_cons, cmpC_some, cmpC_none, compA_int, goB_nx, goB_bk, goB_ct, goB_rt, goB_ex, goB_ite, xB_nil, xB_cons, getX_0, getX_s, bodyOf_for, bodyOf_while, loopB_eq, condOf_while, thenOf_ite, elseOf_ite, seg_eq, List.drop_succ_cons, List.drop_zero, List.take_succ_cons, List.take_zero, x_asg, ownD_lst, x_own, x_unp, x_aug, x_put, x_app, x_ext, x_pop, popM_app, popM_one, x_ite, x_for, forT_eq, forD_nil, forD_cons, x_ret, ret_false, ret_int, ret_bl, ret_non, ret_tup, x_retR, x_retN, x_brk, x_cnt, x_pas, x_frz, x_del, endD_rt, endD_nx, endD_ex, endD_ite, iterO_nx, iterO_ct, iterO_bk, iterO_rt, iniS_0, iniS_n, iniS_c, b_add, b_sub, b_mul, b_addT, b_addL, b_rep, b_div, b_mod, b_pow, b_shl, b_shr, b_band, b_bor, b_bxor, a_add, a_sub, c_lt, c_le, c_gt, c_ge, c_eqi, c_nei, c_eqb, c_neb, c_isn, c_nisn, c_isb, c_nisb, eqD_ii, eqD_tt, eqD_ll, eqDs_n, eqDs_c, pl_int, pl_non, pl_bl, pl_tup, pl_lst, all_ints, List.all_cons, List.all_nil, fmod_e, fdiv_e, isNon_non, isNon_int, isNon_tup, isNon_lst, x_idxT, x_idxL, idxO_some, at_0, at_1, at_2, at_3, at_4, at_5, at_6, at_7, i_lenT, i_lenL, i_min2, i_max2, i_max3, i_min3, i_abs, i_sumi, i_sori, i_sorTi, i_tupT, i_tupL, i_lstT, i_lstL, i_inti, i_intb, ty_ii, ty_ib, ty_bi, ty_bb, ty_tt, ty_ti, noIns_int, noIns_bl, noIns_tup, noIns_lst, noIns_non, noIns_str, seqOf_tup, seqOf_lst, it_seqT, it_seqL, Nat.reduceAdd, Nat.reduceSub, Nat.reduceMul, Nat.reduceEqDiff, Nat.reduceLeDiff, Int.reduceEq, Int.reduceNe, Int.reduceLT, Int.reduceLE, Int.reduceGT, Int.reduceGE, Int.reduceAdd, Int.reduceSub, Int.reduceMul, Int.reduceNeg, Int.reduceToNat, Int.reducePow, Int.reduceAbs, Int.cast_ofNat_Int, List.map_cons, List.map_nil, List.append_nil, List.nil_append, List.cons_append, List.length_cons, List.length_nil, List.length_map, decide_true, decide_false, decide_eq_true_eq, Bool.not_eq_true', decide_eq_false_iff_not, Bool.and_eq_true, Bool.or_eq_true, not_true_eq_false, not_false_eq_true, Bool.not_true, Bool.not_false, Bool.true_and, Bool.and_true, Bool.false_and, Bool.and_false, Bool.or_false, Bool.false_or, Bool.true_or, Bool.or_true, Bool.false_eq_true, if_true, if_false, ite_true, ite_false, reduceIte, ite_self, beq_self_eq_true, Bool.true_eq_false] at e
    simp only [bind_ok, bind_no, bind_ex, bind_ite, gd_true, getS_0, getS_s, slV_sh, slB_ow, slO_ow, setS_0, setS_s, wipe_nil, wipe_cons, frS_ow, frS_sh, frS_no, tg_one, tg_tup, setVs_nil, setVs_cons, iteD_bl, and_bl, or_bl, and_blp, or_blp, nand_blp, nor_blp, ev_var, ev_bor, ev_con, ev_glb, ev_bin, ev_neg, negD_int, ev_nt, notD_bl, ev_cmp, ev_chain, ev_and, ev_or, ev_ite, ev_tup, ev_lst, ev_idx, ev_slc, ev_rvs, rvs_L, rvs_T, ev_bi, ev_isi, lends, lent_false, ev_call, ev_nil, ev_cons, ev_none, ev_some, intD_int, evE_comp, cmpT_none, cmpT_some, compD_map, compA_nil, compA_cons, cmpC_some, cmpC_none, compA_int, goB_nx, goB_bk, goB_ct, goB_rt, goB_ex, goB_ite, xB_nil, xB_cons, getX_0, getX_s, bodyOf_for, bodyOf_while, loopB_eq, condOf_while, thenOf_ite, elseOf_ite, seg_eq, List.drop_succ_cons, List.drop_zero, List.take_succ_cons, List.take_zero, x_asg, ownD_lst, x_own, x_unp, x_aug, x_put, x_app, x_ext, x_pop, popM_app, popM_one, x_ite, x_for, forT_eq, forD_nil, forD_cons, x_ret, ret_false, ret_int, ret_bl, ret_non, ret_tup, x_retR, x_retN, x_brk, x_cnt, x_pas, x_frz, x_del, endD_rt, endD_nx, endD_ex, endD_ite, iterO_nx, iterO_ct, iterO_bk, iterO_rt, iniS_0, iniS_n, iniS_c, b_add, b_sub, b_mul, b_addT, b_addL, b_rep, b_div, b_mod, b_pow, b_shl, b_shr, b_band, b_bor, b_bxor, a_add, a_sub, c_lt, c_le, c_gt, c_ge, c_eqi, c_nei, c_eqb, c_neb, c_isn, c_nisn, c_isb, c_nisb, eqD_ii, eqD_tt, eqD_ll, eqDs_n, eqDs_c, pl_int, pl_non, pl_bl, pl_tup, pl_lst, all_ints, List.all_cons, List.all_nil, fmod_e, fdiv_e, isNon_non, isNon_int, isNon_tup, isNon_lst, x_idxT, x_idxL, idxO_some, at_0, at_1, at_2, at_3, at_4, at_5, at_6, at_7, i_lenT, i_lenL, i_min2, i_max2, i_max3, i_min3, i_abs, i_sumi, i_sori, i_sorTi, i_tupT, i_tupL, i_lstT, i_lstL, i_inti, i_intb, ty_ii, ty_ib, ty_bi, ty_bb, ty_tt, ty_ti, noIns_int, noIns_bl, noIns_tup, noIns_lst, noIns_non, noIns_str, seqOf_tup, seqOf_lst, it_seqT, it_seqL, Nat.reduceAdd, Nat.reduceSub, Nat.reduceMul, Nat.reduceEqDiff, Nat.reduceLeDiff, Int.reduceEq, Int.reduceNe, Int.reduceLT, Int.reduceLE, Int.reduceGT, Int.reduceGE, Int.reduceAdd, Int.reduceSub, Int.reduceMul, Int.reduceNeg, Int.reduceToNat, Int.reducePow, Int.reduceAbs, Int.cast_ofNat_Int, List.map_cons, List.map_nil, List.append_nil, List.nil_append, List.cons_append, List.length_cons, List.length_nil, List.length_map, decide_true, decide_false, decide_eq_true_eq, Bool.not_eq_true', decide_eq_false_iff_not, Bool.and_eq_true, Bool.or_eq_true, not_true_eq_false, not_false_eq_true, Bool.not_true, Bool.not_false, Bool.true_and, Bool.and_true, Bool.false_and, Bool.and_false, Bool.or_false, Bool.false_or, Bool.true_or, Bool.or_true, Bool.false_eq_true, if_true, if_false, ite_true, ite_false, reduceIte, ite_self, beq_self_eq_true, Bool.true_eq_false, eo, e1, erv, e2, e3, e]
  have outer := for_rng (f := forT (callN P (n + 3)) false [5] (loopB b_parted 4)) (g := fun j : Nat => D.int (j : Int)) (fun j ρ => ∃ L Pt, ρ = envP ts fw L Pt .no .no .no ∧ ((j = 0 ∧ L = .non ∧ Pt = .non) ∨ St L Pt)) s (ρ := envP ts fw .non .non .no .no .no) ⟨_, _, rfl, .inl ⟨rfl, rfl, rfl⟩⟩ (fun j ρ hj hI => by
    obtain ⟨L, Pt, rfl, hL⟩ := hI
    obtain ⟨L', Pt', hS, e⟩ := side j hj L Pt (by
      rcases hL with ⟨_, a, b⟩ | h
      · exact .inl ⟨a, b⟩
      · exact .inr h)
    exact ⟨_, e, L', Pt', rfl, .inr hS⟩)
  obtain ⟨ρ', e, L, Pt, rfl, hS⟩ := outer
  obtain ⟨i, a, b, rfl, rfl, gp⟩ : St L Pt := by
    rcases hS with ⟨z, _⟩ | h
    · omega
    · exact h
  refine ⟨a, b, gp, ?_⟩
  have e0 := at_td len0
  have z : ((0 : Nat) : Int) = 0 := rfl
  rw [z] at e0
  have lc : biD .len [encF ts[0].cov] = .ok (.int (s : Nat)) := by
    unfold encF
    rw [i_lenT, List.length_map, g _ (List.getElem_mem len0)]
  unfold b_parted envP at e
  unfold b_parted
  simp only [bind_ok, bind_no, bind_ex, bind_ite, gd_true, getS_0, getS_s, slV_sh, slB_ow, slO_ow, setS_0, setS_s, wipe_nil, wipe_cons, frS_ow, frS_sh, frS_no, tg_one, tg_tup, setVs_nil, setVs_cons, iteD_bl, and_bl, or_bl, and_blp, or_blp, nand_blp, nor_blp, ev_var, ev_bor, ev_con, ev_glb, ev_bin, ev_neg, negD_int, ev_nt, notD_bl, ev_cmp, ev_chain, ev_and, ev_or, ev_ite, ev_tup, ev_lst, ev_idx, ev_slc, ev_rvs, rvs_L, rvs_T, ev_bi, ev_isi, lends, lent_false, ev_call, ev_nil, ev_cons, ev_none, ev_some, intD_int, evE_comp, cmpT_none, cmpT_some, compD_map, compA_nil, compA_cons, cmpC_some, cmpC_none, compA_int, goB_nx, goB_bk, goB_ct, goB_rt, goB_ex, goB_ite, xB_nil, xB_cons, getX_0, getX_s, bodyOf_for, bodyOf_while, loopB_eq, condOf_while, thenOf_ite, elseOf_ite, seg_eq, List.drop_succ_cons, List.drop_zero, List.take_succ_cons, List.take_zero, x_asg, ownD_lst, x_own, x_unp, x_aug, x_put, x_app, x_ext, x_pop, popM_app, popM_one, x_ite, x_for, forT_eq, forD_nil, forD_cons, x_ret, ret_false, ret_int, ret_bl, ret_non, ret_tup, x_retR, x_retN, x_brk, x_cnt, x_pas, x_frz, x_del, endD_rt, endD_nx, endD_ex, endD_ite, iterO_nx, iterO_ct, iterO_bk, iterO_rt, iniS_0, iniS_n, iniS_c, b_add, b_sub, b_mul, b_addT, b_addL, b_rep, b_div, b_mod, b_pow, b_shl, b_shr, b_band, b_bor, b_bxor, a_add, a_sub, c_lt, c_le, c_gt, c_ge, c_eqi, c_nei, c_eqb, c_neb, c_isn, c_nisn, c_isb, c_nisb, eqD_ii, eqD_tt, eqD_ll, eqDs_n, eqDs_c, pl_int, pl_non, pl_bl, pl_tup, pl_lst, all_ints, List.all_cons, List.all_nil, fmod_e, fdiv_e, isNon_non, isNon_int, isNon_tup, isNon_lst, x_idxT, x_idxL, idxO_some, at_0, at_1, at_2, at_3, at_4, at_5, at_6, at_7, i_lenT, i_lenL, i_min2, i_max2, i_max3, i_min3, i_abs, i_sumi, i_sori, i_sorTi, i_tupT, i_tupL, i_lstT, i_lstL, i_inti, i_intb, ty_ii, ty_ib, ty_bi, ty_bb, ty_tt, ty_ti, noIns_int, noIns_bl, noIns_tup, noIns_lst, noIns_non, noIns_str, seqOf_tup, seqOf_lst, it_seqT, it_seqL, Nat.reduceAdd, Nat.reduceSub, Nat.reduceMul, Nat.reduceEqDiff, Nat.reduceLeDiff, Int.reduceEq, Int.reduceNe, Int.reduceLT, Int.reduceLE, Int.reduceGT, Int.reduceGE, Int.reduceAdd, Int.reduceSub, Int.reduceMul, Int.reduceNeg, Int.reduceToNat, Int.reducePow, Int.reduceAbs, Int.cast_ofNat_Int, List.map_cons, List.map_nil, List.append_nil, List.nil_append, List.cons_append, List.length_cons, List.length_nil, List.length_map, decide_true, decide_false, decide_eq_true_eq, Bool.not_eq_true', decide_eq_false_iff_not, Bool.and_eq_true, Bool.or_eq_true, not_true_eq_false, not_false_eq_true, Bool.not_true, Bool.not_false, Bool.true_and, Bool.and_true, Bool.false_and, Bool.and_false, Bool.or_false, Bool.false_or, Bool.true_or, Bool.or_true, Bool.false_eq_true, if_true, if_false, ite_true, ite_false, reduceIte, ite_self, beq_self_eq_true, Bool.true_eq_false] at e
  unfold encD at *
  simp only [bind_ok, bind_no, bind_ex, bind_ite, gd_true, getS_0, getS_s, slV_sh, slB_ow, slO_ow, setS_0, setS_s, wipe_nil, wipe_cons, frS_ow, frS_sh, frS_no, tg_one, tg_tup, setVs_nil, setVs_cons, iteD_bl, and_bl, or_bl, and_blp, or_blp, nand_blp, nor_blp, ev_var, ev_bor, ev_con, ev_glb, ev_bin, ev_neg, negD_int, ev_nt, notD_bl, ev_cmp, ev_chain, ev_and, ev_or, ev_ite, ev_tup, ev_lst, ev_idx, ev_slc, ev_rvs, rvs_L, rvs_T, ev_bi, ev_isi, lends, lent_false, ev_call, ev_nil, ev_cons, ev_none, ev_some, intD_int, evE_comp, cmpT_none, cmpT_some, compD_map, compA_nil, compA_cons, cmpC_some, cmpC_none, compA_int, goB_nx, goB_bk, goB_ct, goB_rt, goB_ex, goB_ite, xB_nil, xB_cons, getX_0, getX_s, bodyOf_for, bodyOf_while, loopB_eq, condOf_while, thenOf_ite, elseOf_ite, seg_eq, List.drop_succ_cons, List.drop_zero, List.take_succ_cons, List.take_zero, x_asg, ownD_lst, x_own, x_unp, x_aug, x_put, x_app, x_ext, x_pop, popM_app, popM_one, x_ite, x_for, forT_eq, forD_nil, forD_cons, x_ret, ret_false, ret_int, ret_bl, ret_non, ret_tup, x_retR, x_retN, x_brk, x_cnt, x_pas, x_frz, x_del, endD_rt, endD_nx, endD_ex, endD_ite, iterO_nx, iterO_ct, iterO_bk, iterO_rt, iniS_0, iniS_n, iniS_c, b_add, b_sub, b_mul, b_addT, b_addL, b_rep, b_div, b_mod, b_pow, b_shl, b_shr, b_band, b_bor, b_bxor, a_add, a_sub, c_lt, c_le, c_gt, c_ge, c_eqi, c_nei, c_eqb, c_neb, c_isn, c_nisn, c_isb, c_nisb, eqD_ii, eqD_tt, eqD_ll, eqDs_n, eqDs_c, pl_int, pl_non, pl_bl, pl_tup, pl_lst, all_ints, List.all_cons, List.all_nil, fmod_e, fdiv_e, isNon_non, isNon_int, isNon_tup, isNon_lst, x_idxT, x_idxL, idxO_some, at_0, at_1, at_2, at_3, at_4, at_5, at_6, at_7, i_lenT, i_lenL, i_min2, i_max2, i_max3, i_min3, i_abs, i_sumi, i_sori, i_sorTi, i_tupT, i_tupL, i_lstT, i_lstL, i_inti, i_intb, ty_ii, ty_ib, ty_bi, ty_bb, ty_tt, ty_ti, noIns_int, noIns_bl, noIns_tup, noIns_lst, noIns_non, noIns_str, seqOf_tup, seqOf_lst, it_seqT, it_seqL, Nat.reduceAdd, Nat.reduceSub, Nat.reduceMul, Nat.reduceEqDiff, Nat.reduceLeDiff, Int.reduceEq, Int.reduceNe, Int.reduceLT, Int.reduceLE, Int.reduceGT, Int.reduceGE, Int.reduceAdd, Int.reduceSub, Int.reduceMul, Int.reduceNeg, Int.reduceToNat, Int.reducePow, Int.reduceAbs, Int.cast_ofNat_Int, List.map_cons, List.map_nil, List.append_nil, List.nil_append, List.cons_append, List.length_cons, List.length_nil, List.length_map, decide_true, decide_false, decide_eq_true_eq, Bool.not_eq_true', decide_eq_false_iff_not, Bool.and_eq_true, Bool.or_eq_true, not_true_eq_false, not_false_eq_true, Bool.not_true, Bool.not_false, Bool.true_and, Bool.and_true, Bool.false_and, Bool.and_false, Bool.or_false, Bool.false_or, Bool.true_or, Bool.or_true, Bool.false_eq_true, if_true, if_false, ite_true, ite_false, reduceIte, ite_self, beq_self_eq_true, Bool.true_eq_false, div_ok2, hfw, e0, at_td0, lc, it_rng1n (show s < 2 ^ 62 by omega), e]
end Dw

namespace Dw
open PySem
theorem at_ids {l : List Nat} {k : Nat} (h : k < l.length) : L2.atI (ids l) (k : Int) = some (.int (l[k] : Nat)) := by
  obtain ⟨x, _, h1, h2⟩ := at_int (xs := l) (i := (k : Int)) (by omega) (by omega)
  unfold ids
  rw [at_map, h2, Option.map_some]
  rw [Int.toNat_natCast, List.getElem?_eq_getElem h] at h1
  cases h1; rfl
theorem len_ids (l : List Nat) : biD .len [.tup (ids l)] = .ok (.int (l.length : Nat)) := by unfold ids; rw [i_lenT, List.length_map]
theorem law_rising_ok (n : Nat) (a : List Nat) (room : Nat) (hr : room ≤ 100000) (h1 : room / 2 ≤ a.length) (h2 : a.length ≤ room) (hs : a.Pairwise (· < ·)) : callN P (n + 2) n_law_rising [.tup (ids a), .int (room : Nat)] = .ok (.bl true) := by
  rw [callN_eq P_law_rising _ (by simp)]
  have c1 : ¬ (a.length : Int) < (room : Int) / 2 := by omega
  have c2 : ¬ (room : Int) < (a.length : Int) := by omega
  have loop : forD (forT (callN P (n + 1)) false [2] (loopB b_law_rising 1)) ((List.range a.length).map fun k : Nat => D.int (k : Int)) [.sh (.tup (ids a)), .no, .no] = .ok (.nx [.sh (.tup (ids a)), .no, .no]) := by
    refine forD_all (enc := fun k : Nat => D.int (k : Int)) (List.range a.length) fun k hk => ?_
    have hk := List.mem_range.1 hk
    have e := at_ids hk
    have w := law_whole_ok n ((a[k] : Nat) : Int)
    unfold b_law_rising
    by_cases z : k = 0
    · subst z
      have e : L2.atI (ids a) 0 = some (.int (a[0] : Nat)) := e
      simp only [bind_ok, bind_no, bind_ex, bind_ite, gd_true, getS_0, getS_s, slV_sh, slB_ow, slO_ow, setS_0, setS_s, wipe_nil, wipe_cons, frS_ow, frS_sh, frS_no, tg_one, tg_tup, setVs_nil, setVs_cons, iteD_bl, and_bl, or_bl, and_blp, or_blp, nand_blp, nor_blp, ev_var, ev_bor, ev_con, ev_glb, ev_bin, ev_neg, negD_int, ev_nt, notD_bl, ev_cmp, ev_chain, ev_and, ev_or, ev_ite, ev_tup, ev_lst, ev_idx, ev_slc, ev_rvs, rvs_L, rvs_T, ev_bi, ev_isi, lends, lent_false, ev_call, ev_nil, ev_cons, ev_none, ev_some, intD_int, evE_comp, cmpT_none, cmpT_some, compD_map, compA_nil, compA_cons, cmpC_some, cmpC_none, compA_int, goB_nx, goB_bk, goB_ct, goB_rt, goB_ex, goB_ite, xB_nil, xB_cons, getX_0, getX_s, bodyOf_for, bodyOf_while, loopB_eq, condOf_while, thenOf_ite, elseOf_ite, seg_eq, List.drop_succ_cons, List.drop_zero, List.take_succ_cons, List.take_zero, x_asg, ownD_lst, x_own, x_unp, x_aug, x_put, x_app, x_ext, x_pop, popM_app, popM_one, x_ite, x_for, forT_eq, forD_nil, forD_cons, x_ret, ret_false, ret_int, ret_bl, ret_non, ret_tup, x_retR, x_retN, x_brk, x_cnt, x_pas, x_frz, x_del, endD_rt, endD_nx, endD_ex, endD_ite, iterO_nx, iterO_ct, iterO_bk, iterO_rt, iniS_0, iniS_n, iniS_c, b_add, b_sub, b_mul, b_addT, b_addL, b_rep, b_div, b_mod, b_pow, b_shl, b_shr, b_band, b_bor, b_bxor, a_add, a_sub, c_lt, c_le, c_gt, c_ge, c_eqi, c_nei, c_eqb, c_neb, c_isn, c_nisn, c_isb, c_nisb, eqD_ii, eqD_tt, eqD_ll, eqDs_n, eqDs_c, pl_int, pl_non, pl_bl, pl_tup, pl_lst, all_ints, List.all_cons, List.all_nil, fmod_e, fdiv_e, isNon_non, isNon_int, isNon_tup, isNon_lst, x_idxT, x_idxL, idxO_some, at_0, at_1, at_2, at_3, at_4, at_5, at_6, at_7, i_lenT, i_lenL, i_min2, i_max2, i_max3, i_min3, i_abs, i_sumi, i_sori, i_sorTi, i_tupT, i_tupL, i_lstT, i_lstL, i_inti, i_intb, ty_ii, ty_ib, ty_bi, ty_bb, ty_tt, ty_ti, noIns_int, noIns_bl, noIns_tup, noIns_lst, noIns_non, noIns_str, seqOf_tup, seqOf_lst, it_seqT, it_seqL, Nat.reduceAdd, Nat.reduceSub, Nat.reduceMul, Nat.reduceEqDiff, Nat.reduceLeDiff, Int.reduceEq, Int.reduceNe, Int.reduceLT, Int.reduceLE, Int.reduceGT, Int.reduceGE, Int.reduceAdd, Int.reduceSub, Int.reduceMul, Int.reduceNeg, Int.reduceToNat, Int.reducePow, Int.reduceAbs, Int.cast_ofNat_Int, List.map_cons, List.map_nil, List.append_nil, List.nil_append, List.cons_append, List.length_cons, List.length_nil, List.length_map, decide_true, decide_false, decide_eq_true_eq, Bool.not_eq_true', decide_eq_false_iff_not, Bool.and_eq_true, Bool.or_eq_true, not_true_eq_false, not_false_eq_true, Bool.not_true, Bool.not_false, Bool.true_and, Bool.and_true, Bool.false_and, Bool.and_false, Bool.or_false, Bool.false_or, Bool.true_or, Bool.or_true, Bool.false_eq_true, if_true, if_false, ite_true, ite_false, reduceIte, ite_self, beq_self_eq_true, Bool.true_eq_false, e, w]
    · have zp : (0 : Int) < (k : Int) := by omega
      have e2 := at_ids (show k - 1 < a.length by omega)
      rw [show ((k - 1 : Nat) : Int) = (k : Int) - 1 by omega] at e2
      have lt := (List.pairwise_iff_getElem.1 hs) (k - 1) k (by omega) hk (by omega)
      have nle : ¬ ((a[k] : Nat) : Int) ≤ ((a[k - 1] : Nat) : Int) := by omega
      simp only [bind_ok, bind_no, bind_ex, bind_ite, gd_true, getS_0, getS_s, slV_sh, slB_ow, slO_ow, setS_0, setS_s, wipe_nil, wipe_cons, frS_ow, frS_sh, frS_no, tg_one, tg_tup, setVs_nil, setVs_cons, iteD_bl, and_bl, or_bl, and_blp, or_blp, nand_blp, nor_blp, ev_var, ev_bor, ev_con, ev_glb, ev_bin, ev_neg, negD_int, ev_nt, notD_bl, ev_cmp, ev_chain, ev_and, ev_or, ev_ite, ev_tup, ev_lst, ev_idx, ev_slc, ev_rvs, rvs_L, rvs_T, ev_bi, ev_isi, lends, lent_false, ev_call, ev_nil, ev_cons, ev_none, ev_some, intD_int, evE_comp, cmpT_none, cmpT_some, compD_map, compA_nil, compA_cons, cmpC_some, cmpC_none, compA_int, goB_nx, goB_bk, goB_ct, goB_rt, goB_ex, goB_ite, xB_nil, xB_cons, getX_0, getX_s, bodyOf_for, bodyOf_while, loopB_eq, condOf_while, thenOf_ite, elseOf_ite, seg_eq, List.drop_succ_cons, List.drop_zero, List.take_succ_cons, List.take_zero, x_asg, ownD_lst, x_own, x_unp, x_aug, x_put, x_app, x_ext, x_pop, popM_app, popM_one, x_ite, x_for, forT_eq, forD_nil, forD_cons, x_ret, ret_false, ret_int, ret_bl, ret_non, ret_tup, x_retR, x_retN, x_brk, x_cnt, x_pas, x_frz, x_del, endD_rt, endD_nx, endD_ex, endD_ite, iterO_nx, iterO_ct, iterO_bk, iterO_rt, iniS_0, iniS_n, iniS_c, b_add, b_sub, b_mul, b_addT, b_addL, b_rep, b_div, b_mod, b_pow, b_shl, b_shr, b_band, b_bor, b_bxor, a_add, a_sub, c_lt, c_le, c_gt, c_ge, c_eqi, c_nei, c_eqb, c_neb, c_isn, c_nisn, c_isb, c_nisb, eqD_ii, eqD_tt, eqD_ll, eqDs_n, eqDs_c, pl_int, pl_non, pl_bl, pl_tup, pl_lst, all_ints, List.all_cons, List.all_nil, fmod_e, fdiv_e, isNon_non, isNon_int, isNon_tup, isNon_lst, x_idxT, x_idxL, idxO_some, at_0, at_1, at_2, at_3, at_4, at_5, at_6, at_7, i_lenT, i_lenL, i_min2, i_max2, i_max3, i_min3, i_abs, i_sumi, i_sori, i_sorTi, i_tupT, i_tupL, i_lstT, i_lstL, i_inti, i_intb, ty_ii, ty_ib, ty_bi, ty_bb, ty_tt, ty_ti, noIns_int, noIns_bl, noIns_tup, noIns_lst, noIns_non, noIns_str, seqOf_tup, seqOf_lst, it_seqT, it_seqL, Nat.reduceAdd, Nat.reduceSub, Nat.reduceMul, Nat.reduceEqDiff, Nat.reduceLeDiff, Int.reduceEq, Int.reduceNe, Int.reduceLT, Int.reduceLE, Int.reduceGT, Int.reduceGE, Int.reduceAdd, Int.reduceSub, Int.reduceMul, Int.reduceNeg, Int.reduceToNat, Int.reducePow, Int.reduceAbs, Int.cast_ofNat_Int, List.map_cons, List.map_nil, List.append_nil, List.nil_append, List.cons_append, List.length_cons, List.length_nil, List.length_map, decide_true, decide_false, decide_eq_true_eq, Bool.not_eq_true', decide_eq_false_iff_not, Bool.and_eq_true, Bool.or_eq_true, not_true_eq_false, not_false_eq_true, Bool.not_true, Bool.not_false, Bool.true_and, Bool.and_true, Bool.false_and, Bool.and_false, Bool.or_false, Bool.false_or, Bool.true_or, Bool.or_true, Bool.false_eq_true, if_true, if_false, ite_true, ite_false, reduceIte, ite_self, beq_self_eq_true, Bool.true_eq_false, e, w, zp, e2, nle]
  unfold b_law_rising at loop ⊢
  simp only [bind_ok, bind_no, bind_ex, bind_ite, gd_true, getS_0, getS_s, slV_sh, slB_ow, slO_ow, setS_0, setS_s, wipe_nil, wipe_cons, frS_ow, frS_sh, frS_no, tg_one, tg_tup, setVs_nil, setVs_cons, iteD_bl, and_bl, or_bl, and_blp, or_blp, nand_blp, nor_blp, ev_var, ev_bor, ev_con, ev_glb, ev_bin, ev_neg, negD_int, ev_nt, notD_bl, ev_cmp, ev_chain, ev_and, ev_or, ev_ite, ev_tup, ev_lst, ev_idx, ev_slc, ev_rvs, rvs_L, rvs_T, ev_bi, ev_isi, lends, lent_false, ev_call, ev_nil, ev_cons, ev_none, ev_some, intD_int, evE_comp, cmpT_none, cmpT_some, compD_map, compA_nil, compA_cons, cmpC_some, cmpC_none, compA_int, goB_nx, goB_bk, goB_ct, goB_rt, goB_ex, goB_ite, xB_nil, xB_cons, getX_0, getX_s, bodyOf_for, bodyOf_while, loopB_eq, condOf_while, thenOf_ite, elseOf_ite, seg_eq, List.drop_succ_cons, List.drop_zero, List.take_succ_cons, List.take_zero, x_asg, ownD_lst, x_own, x_unp, x_aug, x_put, x_app, x_ext, x_pop, popM_app, popM_one, x_ite, x_for, forT_eq, forD_nil, forD_cons, x_ret, ret_false, ret_int, ret_bl, ret_non, ret_tup, x_retR, x_retN, x_brk, x_cnt, x_pas, x_frz, x_del, endD_rt, endD_nx, endD_ex, endD_ite, iterO_nx, iterO_ct, iterO_bk, iterO_rt, iniS_0, iniS_n, iniS_c, b_add, b_sub, b_mul, b_addT, b_addL, b_rep, b_div, b_mod, b_pow, b_shl, b_shr, b_band, b_bor, b_bxor, a_add, a_sub, c_lt, c_le, c_gt, c_ge, c_eqi, c_nei, c_eqb, c_neb, c_isn, c_nisn, c_isb, c_nisb, eqD_ii, eqD_tt, eqD_ll, eqDs_n, eqDs_c, pl_int, pl_non, pl_bl, pl_tup, pl_lst, all_ints, List.all_cons, List.all_nil, fmod_e, fdiv_e, isNon_non, isNon_int, isNon_tup, isNon_lst, x_idxT, x_idxL, idxO_some, at_0, at_1, at_2, at_3, at_4, at_5, at_6, at_7, i_lenT, i_lenL, i_min2, i_max2, i_max3, i_min3, i_abs, i_sumi, i_sori, i_sorTi, i_tupT, i_tupL, i_lstT, i_lstL, i_inti, i_intb, ty_ii, ty_ib, ty_bi, ty_bb, ty_tt, ty_ti, noIns_int, noIns_bl, noIns_tup, noIns_lst, noIns_non, noIns_str, seqOf_tup, seqOf_lst, it_seqT, it_seqL, Nat.reduceAdd, Nat.reduceSub, Nat.reduceMul, Nat.reduceEqDiff, Nat.reduceLeDiff, Int.reduceEq, Int.reduceNe, Int.reduceLT, Int.reduceLE, Int.reduceGT, Int.reduceGE, Int.reduceAdd, Int.reduceSub, Int.reduceMul, Int.reduceNeg, Int.reduceToNat, Int.reducePow, Int.reduceAbs, Int.cast_ofNat_Int, List.map_cons, List.map_nil, List.append_nil, List.nil_append, List.cons_append, List.length_cons, List.length_nil, List.length_map, decide_true, decide_false, decide_eq_true_eq, Bool.not_eq_true', decide_eq_false_iff_not, Bool.and_eq_true, Bool.or_eq_true, not_true_eq_false, not_false_eq_true, Bool.not_true, Bool.not_false, Bool.true_and, Bool.and_true, Bool.false_and, Bool.and_false, Bool.or_false, Bool.false_or, Bool.true_or, Bool.or_true, Bool.false_eq_true, if_true, if_false, ite_true, ite_false, reduceIte, ite_self, beq_self_eq_true, Bool.true_eq_false] at loop
  have lids : (ids a).length = a.length := by unfold ids; rw [List.length_map]
  simp only [bind_ok, bind_no, bind_ex, bind_ite, gd_true, getS_0, getS_s, slV_sh, slB_ow, slO_ow, setS_0, setS_s, wipe_nil, wipe_cons, frS_ow, frS_sh, frS_no, tg_one, tg_tup, setVs_nil, setVs_cons, iteD_bl, and_bl, or_bl, and_blp, or_blp, nand_blp, nor_blp, ev_var, ev_bor, ev_con, ev_glb, ev_bin, ev_neg, negD_int, ev_nt, notD_bl, ev_cmp, ev_chain, ev_and, ev_or, ev_ite, ev_tup, ev_lst, ev_idx, ev_slc, ev_rvs, rvs_L, rvs_T, ev_bi, ev_isi, lends, lent_false, ev_call, ev_nil, ev_cons, ev_none, ev_some, intD_int, evE_comp, cmpT_none, cmpT_some, compD_map, compA_nil, compA_cons, cmpC_some, cmpC_none, compA_int, goB_nx, goB_bk, goB_ct, goB_rt, goB_ex, goB_ite, xB_nil, xB_cons, getX_0, getX_s, bodyOf_for, bodyOf_while, loopB_eq, condOf_while, thenOf_ite, elseOf_ite, seg_eq, List.drop_succ_cons, List.drop_zero, List.take_succ_cons, List.take_zero, x_asg, ownD_lst, x_own, x_unp, x_aug, x_put, x_app, x_ext, x_pop, popM_app, popM_one, x_ite, x_for, forT_eq, forD_nil, forD_cons, x_ret, ret_false, ret_int, ret_bl, ret_non, ret_tup, x_retR, x_retN, x_brk, x_cnt, x_pas, x_frz, x_del, endD_rt, endD_nx, endD_ex, endD_ite, iterO_nx, iterO_ct, iterO_bk, iterO_rt, iniS_0, iniS_n, iniS_c, b_add, b_sub, b_mul, b_addT, b_addL, b_rep, b_div, b_mod, b_pow, b_shl, b_shr, b_band, b_bor, b_bxor, a_add, a_sub, c_lt, c_le, c_gt, c_ge, c_eqi, c_nei, c_eqb, c_neb, c_isn, c_nisn, c_isb, c_nisb, eqD_ii, eqD_tt, eqD_ll, eqDs_n, eqDs_c, pl_int, pl_non, pl_bl, pl_tup, pl_lst, all_ints, List.all_cons, List.all_nil, fmod_e, fdiv_e, isNon_non, isNon_int, isNon_tup, isNon_lst, x_idxT, x_idxL, idxO_some, at_0, at_1, at_2, at_3, at_4, at_5, at_6, at_7, i_lenT, i_lenL, i_min2, i_max2, i_max3, i_min3, i_abs, i_sumi, i_sori, i_sorTi, i_tupT, i_tupL, i_lstT, i_lstL, i_inti, i_intb, ty_ii, ty_ib, ty_bi, ty_bb, ty_tt, ty_ti, noIns_int, noIns_bl, noIns_tup, noIns_lst, noIns_non, noIns_str, seqOf_tup, seqOf_lst, it_seqT, it_seqL, Nat.reduceAdd, Nat.reduceSub, Nat.reduceMul, Nat.reduceEqDiff, Nat.reduceLeDiff, Int.reduceEq, Int.reduceNe, Int.reduceLT, Int.reduceLE, Int.reduceGT, Int.reduceGE, Int.reduceAdd, Int.reduceSub, Int.reduceMul, Int.reduceNeg, Int.reduceToNat, Int.reducePow, Int.reduceAbs, Int.cast_ofNat_Int, List.map_cons, List.map_nil, List.append_nil, List.nil_append, List.cons_append, List.length_cons, List.length_nil, List.length_map, decide_true, decide_false, decide_eq_true_eq, Bool.not_eq_true', decide_eq_false_iff_not, Bool.and_eq_true, Bool.or_eq_true, not_true_eq_false, not_false_eq_true, Bool.not_true, Bool.not_false, Bool.true_and, Bool.and_true, Bool.false_and, Bool.and_false, Bool.or_false, Bool.false_or, Bool.true_or, Bool.or_true, Bool.false_eq_true, if_true, if_false, ite_true, ite_false, reduceIte, ite_self, beq_self_eq_true, Bool.true_eq_false, lids, c1, c2, div_ok2, it_rng1n (show a.length < 2 ^ 62 by omega), loop]
theorem ids_add {a b : List Nat} (h : a.length + b.length ≤ 1000000) : binD .add (.tup (ids a)) (.tup (ids b)) = .ok (.tup (ids (a ++ b))) := by
  have := b_addT (xs := ids a) (ys := ids b)
  unfold ids at *
  rw [this, fits_of (by rw [List.length_map, List.length_map]; exact h), gd_true, List.map_append]
/-- all positions, sorted -/
theorem sort_all {l : List Nat} {m : Nat} (h : l.Perm (List.range m)) : biD .sor [.tup (ids l)] = .ok (.lst (ids (List.range m))) := by
  have e : ids l = (l.map fun k : Nat => (k : Int)).map D.int := by unfold ids; rw [List.map_map]; rfl
  have e2 : ids (List.range m) = ((List.range m).map fun k : Nat => (k : Int)).map D.int := by unfold ids; rw [List.map_map]; rfl
  rw [e, e2, i_sorTi]
  have p : (sortI (l.map fun k : Nat => (k : Int))).Perm ((List.range m).map fun k : Nat => (k : Int)) := (sort_perm _).trans (h.map _)
  have s : ((List.range m).map fun k : Nat => (k : Int)).Pairwise (· ≤ ·) := by
    rw [List.pairwise_map]
    exact List.pairwise_lt_range.imp fun h => by omega
  rw [sorted_one p (sort_sorted _) s]
end Dw

namespace Dw
open PySem
theorem law_true (ns : List Int) (hns : ns.length ≤ 63) : callN P 10 n_law_26 [.lst (ns.map D.int)] = .ok (.bl true) := by
  rw [callN_eq P_law_26 _ (by simp)]
  obtain ⟨s, hs, es⟩ : ∃ s : Nat, (s = 2 ∨ s = 3) ∧ (2 : Int) + (if cell ns 0 % 4 = 1 then 1 else 0) = (s : Int) := by
    by_cases h : cell ns 0 % 4 = 1
    · exact ⟨3, .inr rfl, by simp [h]⟩
    · exact ⟨2, .inl rfl, by simp [h]⟩
  have wy := emod_bd (cell ns 1) 54 (by decide)
  have c2 := emod_bd (cell ns 2) 13 (by decide)
  have c3 := emod_bd (cell ns 2 / 13) 2 (by decide)
  have d13 : divOk 13 = true := by decide
  have d4 : divOk 4 = true := by decide
  have d3 : divOk 3 = true := by decide
  obtain ⟨room, hr, hr2, er⟩ : ∃ room : Nat, 4 ≤ room ∧ room ≤ 16 ∧ (4 : Int) + cell ns 2 % 13 = (room : Int) := ⟨(4 + cell ns 2 % 13).toNat, by omega, by omega, by omega⟩
  obtain ⟨turn, hturn, eturn⟩ : ∃ turn : Nat, turn ≤ 1 ∧ cell ns 2 / 13 % 2 = (turn : Int) := ⟨(cell ns 2 / 13 % 2).toNat, by omega, by omega⟩
  obtain ⟨way, hway, eway⟩ : ∃ way : Int, 0 ≤ way ∧ cell ns 1 % 54 = way := ⟨_, wy.1, rfl⟩
  obtain ⟨cells, hcl, ecells⟩ : ∃ cells : List Int, cells.length ≤ 63 ∧ slcD (.lst (ns.map D.int)) (some 3) none = .ok (.lst (cells.map D.int)) :=
    ⟨_, by rw [List.length_take, List.length_drop]; omega, slc_L D.int ns (some 3) none⟩
  have rnz : ¬ (room : Int) = 0 := by omega
  have rm := emod_bd (cell ns 0 / 4) (room : Int) (by omega)
  have mul2 : ∀ v : Int, mulOk 2 v = true := fun v => mul_ok1 (by decide)
  have cast2 : (room : Int) < (cells.length : Int) ↔ room < cells.length := by omega
  obtain ⟨many, hm1, hm2, A⟩ : ∃ many : Nat, room < many ∧ many ≤ 2 * room ∧ exB (callN P 9) false (seg b_law_26 0 9) (iniS 13 [.lst (ns.map D.int)]) = .ok (.nx [.no, .sh (.int (s : Nat)), .sh (.int way), .sh (.int (room : Nat)), .sh (.lst (cells.map D.int)), .sh (.int (many : Nat)), .sh (.int (turn : Nat)), .ow [], .no, .no, .no, .no, .no]) := by
    unfold b_law_26
    by_cases h : (room : Int) < (cells.length : Int)
    · by_cases h' : (cells.length : Int) ≤ 2 * (room : Int)
      · exact ⟨cells.length, by omega, by omega, by simp only [bind_ok, bind_no, bind_ex, bind_ite, gd_true, getS_0, getS_s, slV_sh, slB_ow, slO_ow, setS_0, setS_s, wipe_nil, wipe_cons, frS_ow, frS_sh, frS_no, tg_one, tg_tup, setVs_nil, setVs_cons, iteD_bl, and_bl, or_bl, and_blp, or_blp, nand_blp, nor_blp, ev_var, ev_bor, ev_con, ev_glb, ev_bin, ev_neg, negD_int, ev_nt, notD_bl, ev_cmp, ev_chain, ev_and, ev_or, ev_ite, ev_tup, ev_lst, ev_idx, ev_slc, ev_rvs, rvs_L, rvs_T, ev_bi, ev_isi, lends, lent_false, ev_call, ev_nil, ev_cons, ev_none, ev_some, intD_int, evE_comp, cmpT_none, cmpT_some, compD_map, compA_nil, compA_cons, cmpC_some, cmpC_none, compA_int, goB_nx, goB_bk, goB_ct, goB_rt, goB_ex, goB_ite, xB_nil, xB_cons, getX_0, getX_s, bodyOf_for, bodyOf_while, loopB_eq, condOf_while, thenOf_ite, elseOf_ite, seg_eq, List.drop_succ_cons, List.drop_zero, List.take_succ_cons, List.take_zero, x_asg, ownD_lst, x_own, x_unp, x_aug, x_put, x_app, x_ext, x_pop, popM_app, popM_one, x_ite, x_for, forT_eq, forD_nil, forD_cons, x_ret, ret_false, ret_int, ret_bl, ret_non, ret_tup, x_retR, x_retN, x_brk, x_cnt, x_pas, x_frz, x_del, endD_rt, endD_nx, endD_ex, endD_ite, iterO_nx, iterO_ct, iterO_bk, iterO_rt, iniS_0, iniS_n, iniS_c, b_add, b_sub, b_mul, b_addT, b_addL, b_rep, b_div, b_mod, b_pow, b_shl, b_shr, b_band, b_bor, b_bxor, a_add, a_sub, c_lt, c_le, c_gt, c_ge, c_eqi, c_nei, c_eqb, c_neb, c_isn, c_nisn, c_isb, c_nisb, eqD_ii, eqD_tt, eqD_ll, eqDs_n, eqDs_c, pl_int, pl_non, pl_bl, pl_tup, pl_lst, all_ints, List.all_cons, List.all_nil, fmod_e, fdiv_e, isNon_non, isNon_int, isNon_tup, isNon_lst, x_idxT, x_idxL, idxO_some, at_0, at_1, at_2, at_3, at_4, at_5, at_6, at_7, i_lenT, i_lenL, i_min2, i_max2, i_max3, i_min3, i_abs, i_sumi, i_sori, i_sorTi, i_tupT, i_tupL, i_lstT, i_lstL, i_inti, i_intb, ty_ii, ty_ib, ty_bi, ty_bb, ty_tt, ty_ti, noIns_int, noIns_bl, noIns_tup, noIns_lst, noIns_non, noIns_str, seqOf_tup, seqOf_lst, it_seqT, it_seqL, Nat.reduceAdd, Nat.reduceSub, Nat.reduceMul, Nat.reduceEqDiff, Nat.reduceLeDiff, Int.reduceEq, Int.reduceNe, Int.reduceLT, Int.reduceLE, Int.reduceGT, Int.reduceGE, Int.reduceAdd, Int.reduceSub, Int.reduceMul, Int.reduceNeg, Int.reduceToNat, Int.reducePow, Int.reduceAbs, Int.cast_ofNat_Int, List.map_cons, List.map_nil, List.append_nil, List.nil_append, List.cons_append, List.length_cons, List.length_nil, List.length_map, decide_true, decide_false, decide_eq_true_eq, Bool.not_eq_true', decide_eq_false_iff_not, Bool.and_eq_true, Bool.or_eq_true, not_true_eq_false, not_false_eq_true, Bool.not_true, Bool.not_false, Bool.true_and, Bool.and_true, Bool.false_and, Bool.and_false, Bool.or_false, Bool.false_or, Bool.true_or, Bool.or_true, Bool.false_eq_true, if_true, if_false, ite_true, ite_false, reduceIte, ite_self, beq_self_eq_true, Bool.true_eq_false, cell_at_i, es, eway, er, ecells, d4, rnz, fmod_e (show (0 : Int) ≤ (room : Int) by omega), mul2, h, h', d13, eturn]⟩
      · refine ⟨(room + 1 + cell ns 0 / 4 % room).toNat, by omega, by omega, ?_⟩
        have e : (room : Int) + 1 + cell ns 0 / 4 % (room : Int) = (((room : Int) + 1 + cell ns 0 / 4 % (room : Int)).toNat : Int) := by omega
        simp only [bind_ok, bind_no, bind_ex, bind_ite, gd_true, getS_0, getS_s, slV_sh, slB_ow, slO_ow, setS_0, setS_s, wipe_nil, wipe_cons, frS_ow, frS_sh, frS_no, tg_one, tg_tup, setVs_nil, setVs_cons, iteD_bl, and_bl, or_bl, and_blp, or_blp, nand_blp, nor_blp, ev_var, ev_bor, ev_con, ev_glb, ev_bin, ev_neg, negD_int, ev_nt, notD_bl, ev_cmp, ev_chain, ev_and, ev_or, ev_ite, ev_tup, ev_lst, ev_idx, ev_slc, ev_rvs, rvs_L, rvs_T, ev_bi, ev_isi, lends, lent_false, ev_call, ev_nil, ev_cons, ev_none, ev_some, intD_int, evE_comp, cmpT_none, cmpT_some, compD_map, compA_nil, compA_cons, cmpC_some, cmpC_none, compA_int, goB_nx, goB_bk, goB_ct, goB_rt, goB_ex, goB_ite, xB_nil, xB_cons, getX_0, getX_s, bodyOf_for, bodyOf_while, loopB_eq, condOf_while, thenOf_ite, elseOf_ite, seg_eq, List.drop_succ_cons, List.drop_zero, List.take_succ_cons, List.take_zero, x_asg, ownD_lst, x_own, x_unp, x_aug, x_put, x_app, x_ext, x_pop, popM_app, popM_one, x_ite, x_for, forT_eq, forD_nil, forD_cons, x_ret, ret_false, ret_int, ret_bl, ret_non, ret_tup, x_retR, x_retN, x_brk, x_cnt, x_pas, x_frz, x_del, endD_rt, endD_nx, endD_ex, endD_ite, iterO_nx, iterO_ct, iterO_bk, iterO_rt, iniS_0, iniS_n, iniS_c, b_add, b_sub, b_mul, b_addT, b_addL, b_rep, b_div, b_mod, b_pow, b_shl, b_shr, b_band, b_bor, b_bxor, a_add, a_sub, c_lt, c_le, c_gt, c_ge, c_eqi, c_nei, c_eqb, c_neb, c_isn, c_nisn, c_isb, c_nisb, eqD_ii, eqD_tt, eqD_ll, eqDs_n, eqDs_c, pl_int, pl_non, pl_bl, pl_tup, pl_lst, all_ints, List.all_cons, List.all_nil, fmod_e, fdiv_e, isNon_non, isNon_int, isNon_tup, isNon_lst, x_idxT, x_idxL, idxO_some, at_0, at_1, at_2, at_3, at_4, at_5, at_6, at_7, i_lenT, i_lenL, i_min2, i_max2, i_max3, i_min3, i_abs, i_sumi, i_sori, i_sorTi, i_tupT, i_tupL, i_lstT, i_lstL, i_inti, i_intb, ty_ii, ty_ib, ty_bi, ty_bb, ty_tt, ty_ti, noIns_int, noIns_bl, noIns_tup, noIns_lst, noIns_non, noIns_str, seqOf_tup, seqOf_lst, it_seqT, it_seqL, Nat.reduceAdd, Nat.reduceSub, Nat.reduceMul, Nat.reduceEqDiff, Nat.reduceLeDiff, Int.reduceEq, Int.reduceNe, Int.reduceLT, Int.reduceLE, Int.reduceGT, Int.reduceGE, Int.reduceAdd, Int.reduceSub, Int.reduceMul, Int.reduceNeg, Int.reduceToNat, Int.reducePow, Int.reduceAbs, Int.cast_ofNat_Int, List.map_cons, List.map_nil, List.append_nil, List.nil_append, List.cons_append, List.length_cons, List.length_nil, List.length_map, decide_true, decide_false, decide_eq_true_eq, Bool.not_eq_true', decide_eq_false_iff_not, Bool.and_eq_true, Bool.or_eq_true, not_true_eq_false, not_false_eq_true, Bool.not_true, Bool.not_false, Bool.true_and, Bool.and_true, Bool.false_and, Bool.and_false, Bool.or_false, Bool.false_or, Bool.true_or, Bool.or_true, Bool.false_eq_true, if_true, if_false, ite_true, ite_false, reduceIte, ite_self, beq_self_eq_true, Bool.true_eq_false, cell_at_i, es, eway, er, ecells, d4, rnz, fmod_e (show (0 : Int) ≤ (room : Int) by omega), mul2, h, h', d13, eturn]
        rw [← e]
    · refine ⟨(room + 1 + cell ns 0 / 4 % room).toNat, by omega, by omega, ?_⟩
      have e : (room : Int) + 1 + cell ns 0 / 4 % (room : Int) = (((room : Int) + 1 + cell ns 0 / 4 % (room : Int)).toNat : Int) := by omega
      simp only [bind_ok, bind_no, bind_ex, bind_ite, gd_true, getS_0, getS_s, slV_sh, slB_ow, slO_ow, setS_0, setS_s, wipe_nil, wipe_cons, frS_ow, frS_sh, frS_no, tg_one, tg_tup, setVs_nil, setVs_cons, iteD_bl, and_bl, or_bl, and_blp, or_blp, nand_blp, nor_blp, ev_var, ev_bor, ev_con, ev_glb, ev_bin, ev_neg, negD_int, ev_nt, notD_bl, ev_cmp, ev_chain, ev_and, ev_or, ev_ite, ev_tup, ev_lst, ev_idx, ev_slc, ev_rvs, rvs_L, rvs_T, ev_bi, ev_isi, lends, lent_false, ev_call, ev_nil, ev_cons, ev_none, ev_some, intD_int, evE_comp, cmpT_none, cmpT_some, compD_map, compA_nil, compA_cons, cmpC_some, cmpC_none, compA_int, goB_nx, goB_bk, goB_ct, goB_rt, goB_ex, goB_ite, xB_nil, xB_cons, getX_0, getX_s, bodyOf_for, bodyOf_while, loopB_eq, condOf_while, thenOf_ite, elseOf_ite, seg_eq, List.drop_succ_cons, List.drop_zero, List.take_succ_cons, List.take_zero, x_asg, ownD_lst, x_own, x_unp, x_aug, x_put, x_app, x_ext, x_pop, popM_app, popM_one, x_ite, x_for, forT_eq, forD_nil, forD_cons, x_ret, ret_false, ret_int, ret_bl, ret_non, ret_tup, x_retR, x_retN, x_brk, x_cnt, x_pas, x_frz, x_del, endD_rt, endD_nx, endD_ex, endD_ite, iterO_nx, iterO_ct, iterO_bk, iterO_rt, iniS_0, iniS_n, iniS_c, b_add, b_sub, b_mul, b_addT, b_addL, b_rep, b_div, b_mod, b_pow, b_shl, b_shr, b_band, b_bor, b_bxor, a_add, a_sub, c_lt, c_le, c_gt, c_ge, c_eqi, c_nei, c_eqb, c_neb, c_isn, c_nisn, c_isb, c_nisb, eqD_ii, eqD_tt, eqD_ll, eqDs_n, eqDs_c, pl_int, pl_non, pl_bl, pl_tup, pl_lst, all_ints, List.all_cons, List.all_nil, fmod_e, fdiv_e, isNon_non, isNon_int, isNon_tup, isNon_lst, x_idxT, x_idxL, idxO_some, at_0, at_1, at_2, at_3, at_4, at_5, at_6, at_7, i_lenT, i_lenL, i_min2, i_max2, i_max3, i_min3, i_abs, i_sumi, i_sori, i_sorTi, i_tupT, i_tupL, i_lstT, i_lstL, i_inti, i_intb, ty_ii, ty_ib, ty_bi, ty_bb, ty_tt, ty_ti, noIns_int, noIns_bl, noIns_tup, noIns_lst, noIns_non, noIns_str, seqOf_tup, seqOf_lst, it_seqT, it_seqL, Nat.reduceAdd, Nat.reduceSub, Nat.reduceMul, Nat.reduceEqDiff, Nat.reduceLeDiff, Int.reduceEq, Int.reduceNe, Int.reduceLT, Int.reduceLE, Int.reduceGT, Int.reduceGE, Int.reduceAdd, Int.reduceSub, Int.reduceMul, Int.reduceNeg, Int.reduceToNat, Int.reducePow, Int.reduceAbs, Int.cast_ofNat_Int, List.map_cons, List.map_nil, List.append_nil, List.nil_append, List.cons_append, List.length_cons, List.length_nil, List.length_map, decide_true, decide_false, decide_eq_true_eq, Bool.not_eq_true', decide_eq_false_iff_not, Bool.and_eq_true, Bool.or_eq_true, not_true_eq_false, not_false_eq_true, Bool.not_true, Bool.not_false, Bool.true_and, Bool.and_true, Bool.false_and, Bool.and_false, Bool.or_false, Bool.false_or, Bool.true_or, Bool.or_true, Bool.false_eq_true, if_true, if_false, ite_true, ite_false, reduceIte, ite_self, beq_self_eq_true, Bool.true_eq_false, cell_at_i, es, eway, er, ecells, d4, rnz, fmod_e (show (0 : Int) ≤ (room : Int) by omega), mul2, h, d13, eturn]
      rw [← e]
  rw [xB_seg0 b_law_26 9, A, goB_nx]
  clear A
  have loop := for_rng (f := forT (callN P 9) false [8] (loopB b_law_26 9)) (g := fun j : Nat => D.int (j : Int)) (fun k ρ => ∃ tds : List Td, ρ = [.no, .sh (.int (s : Nat)), .sh (.int way), .sh (.int (room : Nat)), .sh (.lst (cells.map D.int)), .sh (.int (many : Nat)), .sh (.int (turn : Nat)), .ow (tds.map encD), .no, .no, .no, .no, .no] ∧ tds.length = k ∧ ∀ x ∈ tds, x.cov.length = s) many (ρ := [.no, .sh (.int (s : Nat)), .sh (.int way), .sh (.int (room : Nat)), .sh (.lst (cells.map D.int)), .sh (.int (many : Nat)), .sh (.int (turn : Nat)), .ow [], .no, .no, .no, .no, .no]) ⟨[], rfl, rfl, fun x hx => by cases hx⟩ (fun k ρ hk hI => by
    obtain ⟨tds, rfl, hl, hg⟩ := hI
    have kt : 0 ≤ (k : Int) * (turn : Int) ∧ (k : Int) * (turn : Int) ≤ 900 := by
      have : turn = 0 ∨ turn = 1 := by omega
      rcases this with rfl | rfl <;> omega
    have hk0 : (0 : Int) ≤ (k : Int) := by omega
    have mt : ∀ v : Int, mulOk v (turn : Int) = true := fun v => mul_ok2 (by omega)
    have dk : decide (tds.length < sizeLine) = true := dec_size (by omega)
    obtain ⟨size, hz1, hz2, ez⟩ : ∃ size : Nat, 1 ≤ size ∧ size ≤ 9 ∧ L2.atI [D.int 1, .int 1, .int 2, .int 9] (cell cells k % 4) = some (.int (size : Nat)) := by
      have : cell cells k % 4 = 0 ∨ cell cells k % 4 = 1 ∨ cell cells k % 4 = 2 ∨ cell cells k % 4 = 3 := by omega
      rcases this with h | h | h | h
      · exact ⟨1, by omega, by omega, by rw [h]; rfl⟩
      · exact ⟨1, by omega, by omega, by rw [h]; rfl⟩
      · exact ⟨2, by omega, by omega, by rw [h]; rfl⟩
      · exact ⟨9, by omega, by omega, by rw [h]; rfl⟩
    obtain ⟨ts, ets, lts, gts⟩ := compA_ex (f := fun j : Nat => (callN P 9 n_law_thing_3 [.int (cell cells k / 3), .int ((k : Int) * (turn : Int) + (j : Int)), .int (s : Nat), .int way]).bind fun y => .ok (some y)) (enc := encT) (R := GT s) (l := List.range size) (fun j hj => by
      have := List.mem_range.1 hj
      obtain ⟨t, g, e⟩ := law_thing3_ok 7 (cell cells k / 3) ((k : Int) * (turn : Int) + (j : Int)) way hs (by omega) hway
      exact ⟨t, by rw [e]; rfl, g⟩)
    rw [List.length_range] at lts
    have ot := law_told_ok 8 (show s ≤ 1000 by omega) ts (by intro z; subst z; simp at lts; omega) (by omega) (fun t ht => (gts t ht).len)
    refine ⟨_, ?_, tds ++ [told s ts], rfl, by simp [hl], fun x hx => ?_⟩
    · unfold b_law_26
      simp only [bind_ok, bind_no, bind_ex, bind_ite, gd_true, getS_0, getS_s, slV_sh, slB_ow, slO_ow, setS_0, setS_s, wipe_nil, wipe_cons, frS_ow, frS_sh, frS_no, tg_one, tg_tup, setVs_nil, setVs_cons, iteD_bl, and_bl, or_bl, and_blp, or_blp, nand_blp, nor_blp, ev_var, ev_bor, ev_con, ev_glb, ev_bin, ev_neg, negD_int, ev_nt, notD_bl, ev_cmp, ev_chain, ev_and, ev_or, ev_ite, ev_tup, ev_lst, ev_idx, ev_slc, ev_rvs, rvs_L, rvs_T, ev_bi, ev_isi, lends, lent_false, ev_call, ev_nil, ev_cons, ev_none, ev_some, intD_int, evE_comp, cmpT_none, cmpT_some, compD_map, compA_nil, compA_cons, cmpC_some, cmpC_none, compA_int, goB_nx, goB_bk, goB_ct, goB_rt, goB_ex, goB_ite, xB_nil, xB_cons, getX_0, getX_s, bodyOf_for, bodyOf_while, loopB_eq, condOf_while, thenOf_ite, elseOf_ite, seg_eq, List.drop_succ_cons, List.drop_zero, List.take_succ_cons, List.take_zero, x_asg, ownD_lst, x_own, x_unp, x_aug, x_put, x_app, x_ext, x_pop, popM_app, popM_one, x_ite, x_for, forT_eq, forD_nil, forD_cons, x_ret, ret_false, ret_int, ret_bl, ret_non, ret_tup, x_retR, x_retN, x_brk, x_cnt, x_pas, x_frz, x_del, endD_rt, endD_nx, endD_ex, endD_ite, iterO_nx, iterO_ct, iterO_bk, iterO_rt, iniS_0, iniS_n, iniS_c, b_add, b_sub, b_mul, b_addT, b_addL, b_rep, b_div, b_mod, b_pow, b_shl, b_shr, b_band, b_bor, b_bxor, a_add, a_sub, c_lt, c_le, c_gt, c_ge, c_eqi, c_nei, c_eqb, c_neb, c_isn, c_nisn, c_isb, c_nisb, eqD_ii, eqD_tt, eqD_ll, eqDs_n, eqDs_c, pl_int, pl_non, pl_bl, pl_tup, pl_lst, all_ints, List.all_cons, List.all_nil, fmod_e, fdiv_e, isNon_non, isNon_int, isNon_tup, isNon_lst, x_idxT, x_idxL, idxO_some, at_0, at_1, at_2, at_3, at_4, at_5, at_6, at_7, i_lenT, i_lenL, i_min2, i_max2, i_max3, i_min3, i_abs, i_sumi, i_sori, i_sorTi, i_tupT, i_tupL, i_lstT, i_lstL, i_inti, i_intb, ty_ii, ty_ib, ty_bi, ty_bb, ty_tt, ty_ti, noIns_int, noIns_bl, noIns_tup, noIns_lst, noIns_non, noIns_str, seqOf_tup, seqOf_lst, it_seqT, it_seqL, Nat.reduceAdd, Nat.reduceSub, Nat.reduceMul, Nat.reduceEqDiff, Nat.reduceLeDiff, Int.reduceEq, Int.reduceNe, Int.reduceLT, Int.reduceLE, Int.reduceGT, Int.reduceGE, Int.reduceAdd, Int.reduceSub, Int.reduceMul, Int.reduceNeg, Int.reduceToNat, Int.reducePow, Int.reduceAbs, Int.cast_ofNat_Int, List.map_cons, List.map_nil, List.append_nil, List.nil_append, List.cons_append, List.length_cons, List.length_nil, List.length_map, decide_true, decide_false, decide_eq_true_eq, Bool.not_eq_true', decide_eq_false_iff_not, Bool.and_eq_true, Bool.or_eq_true, not_true_eq_false, not_false_eq_true, Bool.not_true, Bool.not_false, Bool.true_and, Bool.and_true, Bool.false_and, Bool.and_false, Bool.or_false, Bool.false_or, Bool.true_or, Bool.or_true, Bool.false_eq_true, if_true, if_false, ite_true, ite_false, reduceIte, ite_self, beq_self_eq_true, Bool.true_eq_false, cell_at_i, hk0, Int.toNat_natCast, ez, d3, mt, it_rng1n (show size < 2 ^ 62 by omega), List.length_range, fits_of (show size ≤ 1000000 by omega), ets, ot, dk, List.map_append]
    · rcases List.mem_append.1 hx with hx | hx
      · exact hg x hx
      · rw [List.mem_singleton.1 hx]; unfold told; simp)
  obtain ⟨ρ', e, tds, rfl, hl, hg⟩ := loop
  obtain ⟨a, b, gp, ep⟩ := parted_ok 5 (show s ≤ 1000 by omega) (by omega) tds room (by omega) (by omega) (by omega) (by omega) hg
  rw [hl] at gp
  have ra := law_rising_ok 7 a room (by omega) gp.la.1 gp.la.2 gp.sa
  have rb := law_rising_ok 7 b room (by omega) gp.lb.1 gp.lb.2 gp.sb
  have ad := ids_add (a := a) (b := b) (by have := gp.la.2; have := gp.lb.2; omega)
  have so := sort_all gp.all
  have ceq : cmpD .eq (.lst (ids (List.range many))) (.lst (((List.range many).map (Nat.cast : Nat → Int)).map D.int)) = .ok (.bl true) := by
    rw [List.map_map, show (D.int ∘ (Nat.cast : Nat → Int)) = fun k : Nat => D.int (k : Int) from rfl]
    have e : ids (List.range many) = (List.range many).map fun k : Nat => D.int (k : Int) := rfl
    rw [e, c_eq]
    have pl : plainD 60 (.lst ((List.range many).map fun k : Nat => D.int (k : Int))) = true := by
      rw [pl_lst, List.all_map, List.all_eq_true]
      intro k _
      exact pl_int _ _
    have eq : eqD (.lst ((List.range many).map fun k : Nat => D.int (k : Int))) (.lst ((List.range many).map fun k : Nat => D.int (k : Int))) = true := by
      rw [eqD_ll, eqDs_map (fun k : Nat => D.int (k : Int)) (fun a b => by rw [eqD_ii]; exact decide_eq_decide.2 (by omega))]
      simp
    rw [pl, eq]; rfl
  unfold b_law_26 at e ⊢
  simp only [bind_ok, bind_no, bind_ex, bind_ite, gd_true, getS_0, getS_s, slV_sh, slB_ow, slO_ow, setS_0, setS_s, wipe_nil, wipe_cons, frS_ow, frS_sh, frS_no, tg_one, tg_tup, setVs_nil, setVs_cons, iteD_bl, and_bl, or_bl, and_blp, or_blp, nand_blp, nor_blp, ev_var, ev_bor, ev_con, ev_glb, ev_bin, ev_neg, negD_int, ev_nt, notD_bl, ev_cmp, ev_chain, ev_and, ev_or, ev_ite, ev_tup, ev_lst, ev_idx, ev_slc, ev_rvs, rvs_L, rvs_T, ev_bi, ev_isi, lends, lent_false, ev_call, ev_nil, ev_cons, ev_none, ev_some, intD_int, evE_comp, cmpT_none, cmpT_some, compD_map, compA_nil, compA_cons, cmpC_some, cmpC_none, compA_int, goB_nx, goB_bk, goB_ct, goB_rt, goB_ex, goB_ite, xB_nil, xB_cons, getX_0, getX_s, bodyOf_for, bodyOf_while, loopB_eq, condOf_while, thenOf_ite, elseOf_ite, seg_eq, List.drop_succ_cons, List.drop_zero, List.take_succ_cons, List.take_zero, x_asg, ownD_lst, x_own, x_unp, x_aug, x_put, x_app, x_ext, x_pop, popM_app, popM_one, x_ite, x_for, forT_eq, forD_nil, forD_cons, x_ret, ret_false, ret_int, ret_bl, ret_non, ret_tup, x_retR, x_retN, x_brk, x_cnt, x_pas, x_frz, x_del, endD_rt, endD_nx, endD_ex, endD_ite, iterO_nx, iterO_ct, iterO_bk, iterO_rt, iniS_0, iniS_n, iniS_c, b_add, b_sub, b_mul, b_addT, b_addL, b_rep, b_div, b_mod, b_pow, b_shl, b_shr, b_band, b_bor, b_bxor, a_add, a_sub, c_lt, c_le, c_gt, c_ge, c_eqi, c_nei, c_eqb, c_neb, c_isn, c_nisn, c_isb, c_nisb, eqD_ii, eqD_tt, eqD_ll, eqDs_n, eqDs_c, pl_int, pl_non, pl_bl, pl_tup, pl_lst, all_ints, List.all_cons, List.all_nil, fmod_e, fdiv_e, isNon_non, isNon_int, isNon_tup, isNon_lst, x_idxT, x_idxL, idxO_some, at_0, at_1, at_2, at_3, at_4, at_5, at_6, at_7, i_lenT, i_lenL, i_min2, i_max2, i_max3, i_min3, i_abs, i_sumi, i_sori, i_sorTi, i_tupT, i_tupL, i_lstT, i_lstL, i_inti, i_intb, ty_ii, ty_ib, ty_bi, ty_bb, ty_tt, ty_ti, noIns_int, noIns_bl, noIns_tup, noIns_lst, noIns_non, noIns_str, seqOf_tup, seqOf_lst, it_seqT, it_seqL, Nat.reduceAdd, Nat.reduceSub, Nat.reduceMul, Nat.reduceEqDiff, Nat.reduceLeDiff, Int.reduceEq, Int.reduceNe, Int.reduceLT, Int.reduceLE, Int.reduceGT, Int.reduceGE, Int.reduceAdd, Int.reduceSub, Int.reduceMul, Int.reduceNeg, Int.reduceToNat, Int.reducePow, Int.reduceAbs, Int.cast_ofNat_Int, List.map_cons, List.map_nil, List.append_nil, List.nil_append, List.cons_append, List.length_cons, List.length_nil, List.length_map, decide_true, decide_false, decide_eq_true_eq, Bool.not_eq_true', decide_eq_false_iff_not, Bool.and_eq_true, Bool.or_eq_true, not_true_eq_false, not_false_eq_true, Bool.not_true, Bool.not_false, Bool.true_and, Bool.and_true, Bool.false_and, Bool.and_false, Bool.or_false, Bool.false_or, Bool.true_or, Bool.or_true, Bool.false_eq_true, if_true, if_false, ite_true, ite_false, reduceIte, ite_self, beq_self_eq_true, Bool.true_eq_false] at e
  simp only [bind_ok, bind_no, bind_ex, bind_ite, gd_true, getS_0, getS_s, slV_sh, slB_ow, slO_ow, setS_0, setS_s, wipe_nil, wipe_cons, frS_ow, frS_sh, frS_no, tg_one, tg_tup, setVs_nil, setVs_cons, iteD_bl, and_bl, or_bl, and_blp, or_blp, nand_blp, nor_blp, ev_var, ev_bor, ev_con, ev_glb, ev_bin, ev_neg, negD_int, ev_nt, notD_bl, ev_cmp, ev_chain, ev_and, ev_or, ev_ite, ev_tup, ev_lst, ev_idx, ev_slc, ev_rvs, rvs_L, rvs_T, ev_bi, ev_isi, lends, lent_false, ev_call, ev_nil, ev_cons, ev_none, ev_some, intD_int, evE_comp, cmpT_none, cmpT_some, compD_map, compA_nil, compA_cons, cmpC_some, cmpC_none, compA_int, goB_nx, goB_bk, goB_ct, goB_rt, goB_ex, goB_ite, xB_nil, xB_cons, getX_0, getX_s, bodyOf_for, bodyOf_while, loopB_eq, condOf_while, thenOf_ite, elseOf_ite, seg_eq, List.drop_succ_cons, List.drop_zero, List.take_succ_cons, List.take_zero, x_asg, ownD_lst, x_own, x_unp, x_aug, x_put, x_app, x_ext, x_pop, popM_app, popM_one, x_ite, x_for, forT_eq, forD_nil, forD_cons, x_ret, ret_false, ret_int, ret_bl, ret_non, ret_tup, x_retR, x_retN, x_brk, x_cnt, x_pas, x_frz, x_del, endD_rt, endD_nx, endD_ex, endD_ite, iterO_nx, iterO_ct, iterO_bk, iterO_rt, iniS_0, iniS_n, iniS_c, b_add, b_sub, b_mul, b_addT, b_addL, b_rep, b_div, b_mod, b_pow, b_shl, b_shr, b_band, b_bor, b_bxor, a_add, a_sub, c_lt, c_le, c_gt, c_ge, c_eqi, c_nei, c_eqb, c_neb, c_isn, c_nisn, c_isb, c_nisb, eqD_ii, eqD_tt, eqD_ll, eqDs_n, eqDs_c, pl_int, pl_non, pl_bl, pl_tup, pl_lst, all_ints, List.all_cons, List.all_nil, fmod_e, fdiv_e, isNon_non, isNon_int, isNon_tup, isNon_lst, x_idxT, x_idxL, idxO_some, at_0, at_1, at_2, at_3, at_4, at_5, at_6, at_7, i_lenT, i_lenL, i_min2, i_max2, i_max3, i_min3, i_abs, i_sumi, i_sori, i_sorTi, i_tupT, i_tupL, i_lstT, i_lstL, i_inti, i_intb, ty_ii, ty_ib, ty_bi, ty_bb, ty_tt, ty_ti, noIns_int, noIns_bl, noIns_tup, noIns_lst, noIns_non, noIns_str, seqOf_tup, seqOf_lst, it_seqT, it_seqL, Nat.reduceAdd, Nat.reduceSub, Nat.reduceMul, Nat.reduceEqDiff, Nat.reduceLeDiff, Int.reduceEq, Int.reduceNe, Int.reduceLT, Int.reduceLE, Int.reduceGT, Int.reduceGE, Int.reduceAdd, Int.reduceSub, Int.reduceMul, Int.reduceNeg, Int.reduceToNat, Int.reducePow, Int.reduceAbs, Int.cast_ofNat_Int, List.map_cons, List.map_nil, List.append_nil, List.nil_append, List.cons_append, List.length_cons, List.length_nil, List.length_map, decide_true, decide_false, decide_eq_true_eq, Bool.not_eq_true', decide_eq_false_iff_not, Bool.and_eq_true, Bool.or_eq_true, not_true_eq_false, not_false_eq_true, Bool.not_true, Bool.not_false, Bool.true_and, Bool.and_true, Bool.false_and, Bool.and_false, Bool.or_false, Bool.false_or, Bool.true_or, Bool.or_true, Bool.false_eq_true, if_true, if_false, ite_true, ite_false, reduceIte, ite_self, beq_self_eq_true, Bool.true_eq_false, it_rng1n (show many < 2 ^ 62 by omega), e, ep, encGP, ra, rb, ad, so, List.length_range, fits_of (show many ≤ 1000000 by omega), compA_ok, ceq]
end Dw

/-! ### the text is what is run -/
namespace Dw
open PySem PySem.Spec PyProof.Rows L2
def topS (i : Nat) : Stmt := PySem.Challenge.pw_driftwood_k32_a_row_parted.main.body.getD i (.Pass ⟨0, 0, 0, 0⟩)
abbrev s_box_rim : Stmt := topS 1
abbrev s_frame_at : Stmt := topS 3
abbrev s_frames_joined : Stmt := topS 4
abbrev s_cover_rim : Stmt := topS 6
abbrev s_lined_up : Stmt := topS 7
abbrev s_rims_along : Stmt := topS 8
abbrev s_parted : Stmt := topS 9
abbrev s__law_cell_at : Stmt := topS 11
abbrev s__law_whole : Stmt := topS 12
abbrev s__law_draw : Stmt := topS 13
abbrev s__law_thing : Stmt := topS 14
abbrev s__law_told : Stmt := topS 15
abbrev s__law_rising : Stmt := topS 16
abbrev s_law : Stmt := topS 17
def T : Tab := ⟨[(n_box_rim, ⟨"box_rim", 1, [], false⟩), (n_frame_at, ⟨"frame_at", 2, [], false⟩), (n_frames_joined, ⟨"frames_joined", 2, [], false⟩), (n_cover_rim, ⟨"cover_rim", 1, [], false⟩), (n_lined_up, ⟨"lined_up", 2, [], true⟩), (n_rims_along, ⟨"rims_along", 2, [], true⟩), (n_parted, ⟨"parted", 2, [], false⟩), (n_law_cell_at, ⟨"_law_cell_at", 2, [], false⟩), (n_law_whole, ⟨"_law_whole", 1, [], false⟩), (n_law_draw, ⟨"_law_draw", 3, [], true⟩), (n_law_thing_3, ⟨"_law_thing", 4, [], false⟩), (n_law_told_4, ⟨"_law_told", 1, [], false⟩), (n_law_rising, ⟨"_law_rising", 2, [], false⟩), (n_law_26, ⟨"law", 1, [], false⟩)], []⟩
theorem sc_box_rim : FnScope ["box", "side"] ["box"] (defScope s_box_rim) := ⟨rfl, rfl, rfl, by decide +kernel, rfl, by decide +kernel, by decide +kernel⟩
theorem ck_box_rim : chkB T ["box", "side"] false (defScope s_box_rim) b_box_rim (defBody s_box_rim) = true := by decide +kernel
theorem sc_frame_at : FnScope ["frame", "beat", "side"] ["frame", "beat"] (defScope s_frame_at) := ⟨rfl, rfl, rfl, by decide +kernel, rfl, by decide +kernel, by decide +kernel⟩
theorem ck_frame_at : chkB T ["frame", "beat", "side"] false (defScope s_frame_at) b_frame_at (defBody s_frame_at) = true := by decide +kernel
theorem sc_frames_joined : FnScope ["one", "two", "a", "b"] ["one", "two"] (defScope s_frames_joined) := ⟨rfl, rfl, rfl, by decide +kernel, rfl, by decide +kernel, by decide +kernel⟩
theorem ck_frames_joined : chkB T ["one", "two", "a", "b"] false (defScope s_frames_joined) b_frames_joined (defBody s_frames_joined) = true := by decide +kernel
theorem sc_cover_rim : FnScope ["cover"] ["cover"] (defScope s_cover_rim) := ⟨rfl, rfl, rfl, by decide +kernel, rfl, by decide +kernel, by decide +kernel⟩
theorem ck_cover_rim : chkB T ["cover"] false (defScope s_cover_rim) b_cover_rim (defBody s_cover_rim) = true := by decide +kernel
theorem sc_lined_up : FnScope ["tolds", "side", "row", "k", "low", "high", "slow", "fast", "middle"] ["tolds", "side"] (defScope s_lined_up) := ⟨rfl, rfl, rfl, by decide +kernel, rfl, by decide +kernel, by decide +kernel⟩
theorem ck_lined_up : chkB T ["tolds", "side", "row", "k", "low", "high", "slow", "fast", "middle"] true (defScope s_lined_up) b_lined_up (defBody s_lined_up) = true := by decide +kernel
theorem sc_rims_along : FnScope ["tolds", "order", "rims", "cover", "k"] ["tolds", "order"] (defScope s_rims_along) := ⟨rfl, rfl, rfl, by decide +kernel, rfl, by decide +kernel, by decide +kernel⟩
theorem ck_rims_along : chkB T ["tolds", "order", "rims", "cover", "k"] true (defScope s_rims_along) b_rims_along (defBody s_rims_along) = true := by decide +kernel
theorem sc_parted : FnScope ["tolds", "room", "fewest", "least", "parts", "side", "order", "ahead", "behind", "cut", "rim"] ["tolds", "room"] (defScope s_parted) := ⟨rfl, rfl, rfl, by decide +kernel, rfl, by decide +kernel, by decide +kernel⟩
theorem ck_parted : chkB T ["tolds", "room", "fewest", "least", "parts", "side", "order", "ahead", "behind", "cut", "rim"] false (defScope s_parted) b_parted (defBody s_parted) = true := by decide +kernel
theorem sc__law_cell_at : FnScope ["script", "k"] ["script", "k"] (defScope s__law_cell_at) := ⟨rfl, rfl, rfl, by decide +kernel, rfl, by decide +kernel, by decide +kernel⟩
theorem ck__law_cell_at : chkB T ["script", "k"] false (defScope s__law_cell_at) b_law_cell_at (defBody s__law_cell_at) = true := by decide +kernel
theorem sc__law_whole : FnScope ["found"] ["found"] (defScope s__law_whole) := ⟨rfl, rfl, rfl, by decide +kernel, rfl, by decide +kernel, by decide +kernel⟩
theorem ck__law_whole : chkB T ["found"] false (defScope s__law_whole) b_law_whole (defBody s__law_whole) = true := by decide +kernel
theorem sc__law_draw : FnScope ["seed", "j", "many"] ["seed", "j", "many"] (defScope s__law_draw) := ⟨rfl, rfl, rfl, by decide +kernel, rfl, by decide +kernel, by decide +kernel⟩
theorem ck__law_draw : chkB T ["seed", "j", "many"] true (defScope s__law_draw) b_law_draw (defBody s__law_draw) = true := by decide +kernel
theorem sc__law_thing : FnScope ["cell", "k", "sides", "way", "seed", "far", "fast", "swath", "j", "handle", "worth", "low", "wide", "speed"] ["cell", "k", "sides", "way"] (defScope s__law_thing) := ⟨rfl, rfl, rfl, by decide +kernel, rfl, by decide +kernel, by decide +kernel⟩
theorem ck__law_thing : chkB T ["cell", "k", "sides", "way", "seed", "far", "fast", "swath", "j", "handle", "worth", "low", "wide", "speed"] false (defScope s__law_thing) b_law_thing_3 (defBody s__law_thing) = true := by decide +kernel
theorem sc__law_told : FnScope ["things", "cover", "heart", "j", "some", "every", "thing", "worths", "lows", "highs", "speeds"] ["things"] (defScope s__law_told) := ⟨rfl, rfl, rfl, by decide +kernel, rfl, by decide +kernel, by decide +kernel⟩
theorem ck__law_told : chkB T ["things", "cover", "heart", "j", "some", "every", "thing", "worths", "lows", "highs", "speeds"] false (defScope s__law_told) b_law_told_4 (defBody s__law_told) = true := by decide +kernel
theorem sc__law_rising : FnScope ["part", "room", "k"] ["part", "room"] (defScope s__law_rising) := ⟨rfl, rfl, rfl, by decide +kernel, rfl, by decide +kernel, by decide +kernel⟩
theorem ck__law_rising : chkB T ["part", "room", "k"] false (defScope s__law_rising) b_law_rising (defBody s__law_rising) = true := by decide +kernel
theorem sc_law : FnScope ["script", "sides", "way", "room", "cells", "many", "turn", "tolds", "k", "found", "cell", "size", "j"] ["script"] (defScope s_law) := ⟨rfl, rfl, rfl, by decide +kernel, rfl, by decide +kernel, by decide +kernel⟩
theorem ck_law : chkB T ["script", "sides", "way", "room", "cells", "many", "turn", "tolds", "k", "found", "cell", "size", "j"] false (defScope s_law) b_law_26 (defBody s_law) = true := by decide +kernel
theorem all_mk {w : World} {K : PySem.W.Frag} {h : Heap} {mg : Str → Option Value} {fa : Addr} {f1 f2 f3 f4 f5 f6 f7 f8 f9 f10 f11 f12 f13 f14 : Addr} (law : ∀ ns : List Int, ns.length ≤ 63 → callN P 10 n_law_26 [.lst (ns.map D.int)] = .ok (.bl true)) (X : K.In h) (G : h.Ns mainGlobals mg) (hfa : mg "law" = some (.ref fa))
    {od1 an1 od2 an2 od3 an3 od4 an4 od5 an5 od6 an6 od7 an7 od8 an8 od9 an9 od10 an10 od11 an11 od12 an12 od13 an13 od14 an14 : Option Addr} {sl1 sl2 sl3 sl4 sl5 sl6 sl7 sl8 sl9 sl10 sl11 sl12 sl13 sl14 : Array (Option Value)} {oc1 kV1 dc1 pm1 cd1 ct1 oc2 kV2 dc2 pm2 cd2 ct2 oc3 kV3 dc3 pm3 cd3 ct3 oc4 kV4 dc4 pm4 cd4 ct4 oc5 kV5 dc5 pm5 cd5 ct5 oc6 kV6 dc6 pm6 cd6 ct6 oc7 kV7 dc7 pm7 cd7 ct7 oc8 kV8 dc8 pm8 cd8 ct8 oc9 kV9 dc9 pm9 cd9 ct9 oc10 kV10 dc10 pm10 cd10 ct10 oc11 kV11 dc11 pm11 cd11 ct11 oc12 kV12 dc12 pm12 cd12 ct12 oc13 kV13 dc13 pm13 cd13 ct13 oc14 kV14 dc14 pm14 cd14 ct14 : Value}
    (a1 : PySem.W.nsIn K mainGlobals "box_rim" = some (some (.ref f1))) (l1 : K.lookup f1 = some ⟨oc1, od1, .func (PySem.W.fnOf "box_rim" "box_rim" (defArgs s_box_rim) (defBody s_box_rim) (defScope s_box_rim) .none kV1 dc1 pm1 an1 cd1 ct1), sl1⟩) (c1 : PySem.W.codeIn K cd1 "box_rim" = true) (k1 : PySem.W.keepIn K (.ref f1) = true)
    (a2 : PySem.W.nsIn K mainGlobals "frame_at" = some (some (.ref f2))) (l2 : K.lookup f2 = some ⟨oc2, od2, .func (PySem.W.fnOf "frame_at" "frame_at" (defArgs s_frame_at) (defBody s_frame_at) (defScope s_frame_at) .none kV2 dc2 pm2 an2 cd2 ct2), sl2⟩) (c2 : PySem.W.codeIn K cd2 "frame_at" = true) (k2 : PySem.W.keepIn K (.ref f2) = true)
    (a3 : PySem.W.nsIn K mainGlobals "frames_joined" = some (some (.ref f3))) (l3 : K.lookup f3 = some ⟨oc3, od3, .func (PySem.W.fnOf "frames_joined" "frames_joined" (defArgs s_frames_joined) (defBody s_frames_joined) (defScope s_frames_joined) .none kV3 dc3 pm3 an3 cd3 ct3), sl3⟩) (c3 : PySem.W.codeIn K cd3 "frames_joined" = true) (k3 : PySem.W.keepIn K (.ref f3) = true)
    (a4 : PySem.W.nsIn K mainGlobals "cover_rim" = some (some (.ref f4))) (l4 : K.lookup f4 = some ⟨oc4, od4, .func (PySem.W.fnOf "cover_rim" "cover_rim" (defArgs s_cover_rim) (defBody s_cover_rim) (defScope s_cover_rim) .none kV4 dc4 pm4 an4 cd4 ct4), sl4⟩) (c4 : PySem.W.codeIn K cd4 "cover_rim" = true) (k4 : PySem.W.keepIn K (.ref f4) = true)
    (a5 : PySem.W.nsIn K mainGlobals "lined_up" = some (some (.ref f5))) (l5 : K.lookup f5 = some ⟨oc5, od5, .func (PySem.W.fnOf "lined_up" "lined_up" (defArgs s_lined_up) (defBody s_lined_up) (defScope s_lined_up) .none kV5 dc5 pm5 an5 cd5 ct5), sl5⟩) (c5 : PySem.W.codeIn K cd5 "lined_up" = true) (k5 : PySem.W.keepIn K (.ref f5) = true)
    (a6 : PySem.W.nsIn K mainGlobals "rims_along" = some (some (.ref f6))) (l6 : K.lookup f6 = some ⟨oc6, od6, .func (PySem.W.fnOf "rims_along" "rims_along" (defArgs s_rims_along) (defBody s_rims_along) (defScope s_rims_along) .none kV6 dc6 pm6 an6 cd6 ct6), sl6⟩) (c6 : PySem.W.codeIn K cd6 "rims_along" = true) (k6 : PySem.W.keepIn K (.ref f6) = true)
    (a7 : PySem.W.nsIn K mainGlobals "parted" = some (some (.ref f7))) (l7 : K.lookup f7 = some ⟨oc7, od7, .func (PySem.W.fnOf "parted" "parted" (defArgs s_parted) (defBody s_parted) (defScope s_parted) .none kV7 dc7 pm7 an7 cd7 ct7), sl7⟩) (c7 : PySem.W.codeIn K cd7 "parted" = true) (k7 : PySem.W.keepIn K (.ref f7) = true)
    (a8 : PySem.W.nsIn K mainGlobals "_law_cell_at" = some (some (.ref f8))) (l8 : K.lookup f8 = some ⟨oc8, od8, .func (PySem.W.fnOf "_law_cell_at" "_law_cell_at" (defArgs s__law_cell_at) (defBody s__law_cell_at) (defScope s__law_cell_at) .none kV8 dc8 pm8 an8 cd8 ct8), sl8⟩) (c8 : PySem.W.codeIn K cd8 "_law_cell_at" = true) (k8 : PySem.W.keepIn K (.ref f8) = true)
    (a9 : PySem.W.nsIn K mainGlobals "_law_whole" = some (some (.ref f9))) (l9 : K.lookup f9 = some ⟨oc9, od9, .func (PySem.W.fnOf "_law_whole" "_law_whole" (defArgs s__law_whole) (defBody s__law_whole) (defScope s__law_whole) .none kV9 dc9 pm9 an9 cd9 ct9), sl9⟩) (c9 : PySem.W.codeIn K cd9 "_law_whole" = true) (k9 : PySem.W.keepIn K (.ref f9) = true)
    (a10 : PySem.W.nsIn K mainGlobals "_law_draw" = some (some (.ref f10))) (l10 : K.lookup f10 = some ⟨oc10, od10, .func (PySem.W.fnOf "_law_draw" "_law_draw" (defArgs s__law_draw) (defBody s__law_draw) (defScope s__law_draw) .none kV10 dc10 pm10 an10 cd10 ct10), sl10⟩) (c10 : PySem.W.codeIn K cd10 "_law_draw" = true) (k10 : PySem.W.keepIn K (.ref f10) = true)
    (a11 : PySem.W.nsIn K mainGlobals "_law_thing" = some (some (.ref f11))) (l11 : K.lookup f11 = some ⟨oc11, od11, .func (PySem.W.fnOf "_law_thing" "_law_thing" (defArgs s__law_thing) (defBody s__law_thing) (defScope s__law_thing) .none kV11 dc11 pm11 an11 cd11 ct11), sl11⟩) (c11 : PySem.W.codeIn K cd11 "_law_thing" = true) (k11 : PySem.W.keepIn K (.ref f11) = true)
    (a12 : PySem.W.nsIn K mainGlobals "_law_told" = some (some (.ref f12))) (l12 : K.lookup f12 = some ⟨oc12, od12, .func (PySem.W.fnOf "_law_told" "_law_told" (defArgs s__law_told) (defBody s__law_told) (defScope s__law_told) .none kV12 dc12 pm12 an12 cd12 ct12), sl12⟩) (c12 : PySem.W.codeIn K cd12 "_law_told" = true) (k12 : PySem.W.keepIn K (.ref f12) = true)
    (a13 : PySem.W.nsIn K mainGlobals "_law_rising" = some (some (.ref f13))) (l13 : K.lookup f13 = some ⟨oc13, od13, .func (PySem.W.fnOf "_law_rising" "_law_rising" (defArgs s__law_rising) (defBody s__law_rising) (defScope s__law_rising) .none kV13 dc13 pm13 an13 cd13 ct13), sl13⟩) (c13 : PySem.W.codeIn K cd13 "_law_rising" = true) (k13 : PySem.W.keepIn K (.ref f13) = true)
    (a14 : PySem.W.nsIn K mainGlobals "law" = some (some (.ref f14))) (l14 : K.lookup f14 = some ⟨oc14, od14, .func (PySem.W.fnOf "law" "law" (defArgs s_law) (defBody s_law) (defScope s_law) .none kV14 dc14 pm14 an14 cd14 ct14), sl14⟩) (c14 : PySem.W.codeIn K cd14 "law" = true) (k14 : PySem.W.keepIn K (.ref f14) = true)
    (z0 : PySem.W.nsIn K mainGlobals "len" = some none) (z1 : PySem.W.nsIn K mainGlobals "min" = some none) (z2 : PySem.W.nsIn K mainGlobals "max" = some none) (z3 : PySem.W.nsIn K mainGlobals "sum" = some none) (z4 : PySem.W.nsIn K mainGlobals "abs" = some none) (z5 : PySem.W.nsIn K mainGlobals "tuple" = some none) (z6 : PySem.W.nsIn K mainGlobals "list" = some none) (z7 : PySem.W.nsIn K mainGlobals "int" = some none) (z8 : PySem.W.nsIn K mainGlobals "any" = some none) (z9 : PySem.W.nsIn K mainGlobals "all" = some none) (z10 : PySem.W.nsIn K mainGlobals "sorted" = some none) (z11 : PySem.W.nsIn K mainGlobals "range" = some none) (z12 : PySem.W.nsIn K mainGlobals "enumerate" = some none) (z13 : PySem.W.nsIn K mainGlobals "zip" = some none) (z14 : PySem.W.nsIn K mainGlobals "reversed" = some none) (z15 : PySem.W.nsIn K mainGlobals "isinstance" = some none) (z16 : PySem.W.nsIn K mainGlobals "bool" = some none) (z17 : PySem.W.nsIn K mainGlobals "str" = some none) :
    ∃ fd : FuncData, (∀ (s : Shared) (v : Value), BindsTo s fd ⟨[v], []⟩ [("script", v)]) ∧ ∀ base : Heap, K.In base → base.Ns mainGlobals mg → FnOk PySem.Challenge.rw_driftwood_k32_a_row_parted.prog w K mg base (L2.CX PySem.Challenge.rw_driftwood_k32_a_row_parted.prog w) 10 fa fd ["script"] (spLaw K 63) := by
  have e := hfa.symm.trans (PySem.W.mg_of X G a14)
  cases e
  have F1 := fun_mk (st := s_box_rim) l1 c1 k1
  have b1 := F1.binds (ps := ["box"]) fun _ _ _ _ _ _ us hl => match us, hl with | [_], _ => rfl
  have D1 : DOk K mg T P n_box_rim ⟨"box_rim", 1, [], false⟩ := ⟨⟨_, _, _, _, _, _, _, P_box_rim, F1, PySem.W.mg_of X G a1, sc_box_rim, rfl, rfl, rfl, ck_box_rim, fun j _ => ⟨[], [], b1, .nil, fun g H => by rw [List.drop_nil]; exact .nil⟩⟩⟩
  have F2 := fun_mk (st := s_frame_at) l2 c2 k2
  have b2 := F2.binds (ps := ["frame", "beat"]) fun _ _ _ _ _ _ us hl => match us, hl with | [_, _], _ => rfl
  have D2 : DOk K mg T P n_frame_at ⟨"frame_at", 2, [], false⟩ := ⟨⟨_, _, _, _, _, _, _, P_frame_at, F2, PySem.W.mg_of X G a2, sc_frame_at, rfl, rfl, rfl, ck_frame_at, fun j _ => ⟨[], [], b2, .nil, fun g H => by rw [List.drop_nil]; exact .nil⟩⟩⟩
  have F3 := fun_mk (st := s_frames_joined) l3 c3 k3
  have b3 := F3.binds (ps := ["one", "two"]) fun _ _ _ _ _ _ us hl => match us, hl with | [_, _], _ => rfl
  have D3 : DOk K mg T P n_frames_joined ⟨"frames_joined", 2, [], false⟩ := ⟨⟨_, _, _, _, _, _, _, P_frames_joined, F3, PySem.W.mg_of X G a3, sc_frames_joined, rfl, rfl, rfl, ck_frames_joined, fun j _ => ⟨[], [], b3, .nil, fun g H => by rw [List.drop_nil]; exact .nil⟩⟩⟩
  have F4 := fun_mk (st := s_cover_rim) l4 c4 k4
  have b4 := F4.binds (ps := ["cover"]) fun _ _ _ _ _ _ us hl => match us, hl with | [_], _ => rfl
  have D4 : DOk K mg T P n_cover_rim ⟨"cover_rim", 1, [], false⟩ := ⟨⟨_, _, _, _, _, _, _, P_cover_rim, F4, PySem.W.mg_of X G a4, sc_cover_rim, rfl, rfl, rfl, ck_cover_rim, fun j _ => ⟨[], [], b4, .nil, fun g H => by rw [List.drop_nil]; exact .nil⟩⟩⟩
  have F5 := fun_mk (st := s_lined_up) l5 c5 k5
  have b5 := F5.binds (ps := ["tolds", "side"]) fun _ _ _ _ _ _ us hl => match us, hl with | [_, _], _ => rfl
  have D5 : DOk K mg T P n_lined_up ⟨"lined_up", 2, [], true⟩ := ⟨⟨_, _, _, _, _, _, _, P_lined_up, F5, PySem.W.mg_of X G a5, sc_lined_up, rfl, rfl, rfl, ck_lined_up, fun j _ => ⟨[], [], b5, .nil, fun g H => by rw [List.drop_nil]; exact .nil⟩⟩⟩
  have F6 := fun_mk (st := s_rims_along) l6 c6 k6
  have b6 := F6.binds (ps := ["tolds", "order"]) fun _ _ _ _ _ _ us hl => match us, hl with | [_, _], _ => rfl
  have D6 : DOk K mg T P n_rims_along ⟨"rims_along", 2, [], true⟩ := ⟨⟨_, _, _, _, _, _, _, P_rims_along, F6, PySem.W.mg_of X G a6, sc_rims_along, rfl, rfl, rfl, ck_rims_along, fun j _ => ⟨[], [], b6, .nil, fun g H => by rw [List.drop_nil]; exact .nil⟩⟩⟩
  have F7 := fun_mk (st := s_parted) l7 c7 k7
  have b7 := F7.binds (ps := ["tolds", "room"]) fun _ _ _ _ _ _ us hl => match us, hl with | [_, _], _ => rfl
  have D7 : DOk K mg T P n_parted ⟨"parted", 2, [], false⟩ := ⟨⟨_, _, _, _, _, _, _, P_parted, F7, PySem.W.mg_of X G a7, sc_parted, rfl, rfl, rfl, ck_parted, fun j _ => ⟨[], [], b7, .nil, fun g H => by rw [List.drop_nil]; exact .nil⟩⟩⟩
  have F8 := fun_mk (st := s__law_cell_at) l8 c8 k8
  have b8 := F8.binds (ps := ["script", "k"]) fun _ _ _ _ _ _ us hl => match us, hl with | [_, _], _ => rfl
  have D8 : DOk K mg T P n_law_cell_at ⟨"_law_cell_at", 2, [], false⟩ := ⟨⟨_, _, _, _, _, _, _, P_law_cell_at, F8, PySem.W.mg_of X G a8, sc__law_cell_at, rfl, rfl, rfl, ck__law_cell_at, fun j _ => ⟨[], [], b8, .nil, fun g H => by rw [List.drop_nil]; exact .nil⟩⟩⟩
  have F9 := fun_mk (st := s__law_whole) l9 c9 k9
  have b9 := F9.binds (ps := ["found"]) fun _ _ _ _ _ _ us hl => match us, hl with | [_], _ => rfl
  have D9 : DOk K mg T P n_law_whole ⟨"_law_whole", 1, [], false⟩ := ⟨⟨_, _, _, _, _, _, _, P_law_whole, F9, PySem.W.mg_of X G a9, sc__law_whole, rfl, rfl, rfl, ck__law_whole, fun j _ => ⟨[], [], b9, .nil, fun g H => by rw [List.drop_nil]; exact .nil⟩⟩⟩
  have F10 := fun_mk (st := s__law_draw) l10 c10 k10
  have b10 := F10.binds (ps := ["seed", "j", "many"]) fun _ _ _ _ _ _ us hl => match us, hl with | [_, _, _], _ => rfl
  have D10 : DOk K mg T P n_law_draw ⟨"_law_draw", 3, [], true⟩ := ⟨⟨_, _, _, _, _, _, _, P_law_draw, F10, PySem.W.mg_of X G a10, sc__law_draw, rfl, rfl, rfl, ck__law_draw, fun j _ => ⟨[], [], b10, .nil, fun g H => by rw [List.drop_nil]; exact .nil⟩⟩⟩
  have F11 := fun_mk (st := s__law_thing) l11 c11 k11
  have b11 := F11.binds (ps := ["cell", "k", "sides", "way"]) fun _ _ _ _ _ _ us hl => match us, hl with | [_, _, _, _], _ => rfl
  have D11 : DOk K mg T P n_law_thing_3 ⟨"_law_thing", 4, [], false⟩ := ⟨⟨_, _, _, _, _, _, _, P_law_thing_3, F11, PySem.W.mg_of X G a11, sc__law_thing, rfl, rfl, rfl, ck__law_thing, fun j _ => ⟨[], [], b11, .nil, fun g H => by rw [List.drop_nil]; exact .nil⟩⟩⟩
  have F12 := fun_mk (st := s__law_told) l12 c12 k12
  have b12 := F12.binds (ps := ["things"]) fun _ _ _ _ _ _ us hl => match us, hl with | [_], _ => rfl
  have D12 : DOk K mg T P n_law_told_4 ⟨"_law_told", 1, [], false⟩ := ⟨⟨_, _, _, _, _, _, _, P_law_told_4, F12, PySem.W.mg_of X G a12, sc__law_told, rfl, rfl, rfl, ck__law_told, fun j _ => ⟨[], [], b12, .nil, fun g H => by rw [List.drop_nil]; exact .nil⟩⟩⟩
  have F13 := fun_mk (st := s__law_rising) l13 c13 k13
  have b13 := F13.binds (ps := ["part", "room"]) fun _ _ _ _ _ _ us hl => match us, hl with | [_, _], _ => rfl
  have D13 : DOk K mg T P n_law_rising ⟨"_law_rising", 2, [], false⟩ := ⟨⟨_, _, _, _, _, _, _, P_law_rising, F13, PySem.W.mg_of X G a13, sc__law_rising, rfl, rfl, rfl, ck__law_rising, fun j _ => ⟨[], [], b13, .nil, fun g H => by rw [List.drop_nil]; exact .nil⟩⟩⟩
  have F14 := fun_mk (st := s_law) l14 c14 k14
  have b14 := F14.binds (ps := ["script"]) fun _ _ _ _ _ _ us hl => match us, hl with | [_], _ => rfl
  have D14 : DOk K mg T P n_law_26 ⟨"law", 1, [], false⟩ := ⟨⟨_, _, _, _, _, _, _, P_law_26, F14, PySem.W.mg_of X G a14, sc_law, rfl, rfl, rfl, ck_law, fun j _ => ⟨[], [], b14, .nil, fun g H => by rw [List.drop_nil]; exact .nil⟩⟩⟩
  have hb : ∀ n ∈ biNames, mg n = none := by
    intro n hn
    simp only [biNames, List.mem_cons, List.not_mem_nil, or_false] at hn
    rcases hn with rfl | rfl | rfl | rfl | rfl | rfl | rfl | rfl | rfl | rfl | rfl | rfl | rfl | rfl | rfl | rfl | rfl | rfl
    · exact PySem.W.mg_none_of X G z0
    · exact PySem.W.mg_none_of X G z1
    · exact PySem.W.mg_none_of X G z2
    · exact PySem.W.mg_none_of X G z3
    · exact PySem.W.mg_none_of X G z4
    · exact PySem.W.mg_none_of X G z5
    · exact PySem.W.mg_none_of X G z6
    · exact PySem.W.mg_none_of X G z7
    · exact PySem.W.mg_none_of X G z8
    · exact PySem.W.mg_none_of X G z9
    · exact PySem.W.mg_none_of X G z10
    · exact PySem.W.mg_none_of X G z11
    · exact PySem.W.mg_none_of X G z12
    · exact PySem.W.mg_none_of X G z13
    · exact PySem.W.mg_none_of X G z14
    · exact PySem.W.mg_none_of X G z15
    · exact PySem.W.mg_none_of X G z16
    · exact PySem.W.mg_none_of X G z17
  have hc : ∀ p ∈ T.cons, ∃ u v, mg p.1 = some u ∧ RelV v u ∧ ∀ H, Rep (⟨K, fun _ => 0, fun _ => [], fun _ => 0⟩ : Dw.G) H v p.2 := by
    intro p hp
    exact absurd hp (List.not_mem_nil)
  have hd : ∀ i fi, T.fn i = some fi → DOk K mg T P i fi := by
    intro i fi hi
    have hm := lookup_mem hi
    simp only [T, List.mem_cons, List.not_mem_nil, or_false, Prod.mk.injEq] at hm
    rcases hm with ⟨rfl, rfl⟩ | ⟨rfl, rfl⟩ | ⟨rfl, rfl⟩ | ⟨rfl, rfl⟩ | ⟨rfl, rfl⟩ | ⟨rfl, rfl⟩ | ⟨rfl, rfl⟩ | ⟨rfl, rfl⟩ | ⟨rfl, rfl⟩ | ⟨rfl, rfl⟩ | ⟨rfl, rfl⟩ | ⟨rfl, rfl⟩ | ⟨rfl, rfl⟩ | ⟨rfl, rfl⟩
    · exact D1
    · exact D2
    · exact D3
    · exact D4
    · exact D5
    · exact D6
    · exact D7
    · exact D8
    · exact D9
    · exact D10
    · exact D11
    · exact D12
    · exact D13
    · exact D14
  exact ⟨_, fun s v => .of_eq rfl, fun base _ _ => law_ok (g := ⟨K, fun _ => 0, fun _ => [], fun _ => 0⟩) (fi := ⟨"law", 1, [], false⟩) rfl hb hc hd P_law_26 F14 sc_law rfl rfl rfl ck_law rfl rfl law⟩
end Dw
open PySem PySem.W PyProof.Rows
set_option maxHeartbeats 0 in
theorem PySem.Challenge.cw_driftwood_k32_a_row_parted_holds : PySem.Challenge.rw_driftwood_k32_a_row_parted.Holds := by
  w_on; o_law; k_head; (case hw => w_witness2)
  k_fill
  refine L2.walk_of (l := PySem.Challenge.rw_driftwood_k32_a_row_parted) (n := 63) (k := 10) (x := "script") (CX := fun w => L2.CX PySem.Challenge.rw_driftwood_k32_a_row_parted.prog w) (sp := fun w => Dw.spLaw _ 63) rfl (by decide) rfl ⟨rfl, by decide, by decide⟩ (fun w h Y => PySem.W.kIn_of Y) ?F (fun _ _ a ns hl _ hS => ⟨a, ns, rfl, hS, hl, fun _ => rfl⟩) (fun _ _ _ _ _ h => Dw.law_cx h)
  case F =>
    intro w mg fa h KX G hmg
    refine' Dw.all_mk Dw.law_true KX G hmg ?a1 ?l1 ?c1 ?k1 ?a2 ?l2 ?c2 ?k2 ?a3 ?l3 ?c3 ?k3 ?a4 ?l4 ?c4 ?k4 ?a5 ?l5 ?c5 ?k5 ?a6 ?l6 ?c6 ?k6 ?a7 ?l7 ?c7 ?k7 ?a8 ?l8 ?c8 ?k8 ?a9 ?l9 ?c9 ?k9 ?a10 ?l10 ?c10 ?k10 ?a11 ?l11 ?c11 ?k11 ?a12 ?l12 ?c12 ?k12 ?a13 ?l13 ?c13 ?k13 ?a14 ?l14 ?c14 ?k14 ?z0 ?z1 ?z2 ?z3 ?z4 ?z5 ?z6 ?z7 ?z8 ?z9 ?z10 ?z11 ?z12 ?z13 ?z14 ?z15 ?z16 ?z17
    (case a1 => k_is); (case l1 => k_is); (case c1 => k_is); (case k1 => k_is); (case a2 => k_is); (case l2 => k_is); (case c2 => k_is); (case k2 => k_is); (case a3 => k_is); (case l3 => k_is); (case c3 => k_is); (case k3 => k_is); (case a4 => k_is); (case l4 => k_is); (case c4 => k_is); (case k4 => k_is); (case a5 => k_is); (case l5 => k_is); (case c5 => k_is); (case k5 => k_is); (case a6 => k_is); (case l6 => k_is); (case c6 => k_is); (case k6 => k_is); (case a7 => k_is); (case l7 => k_is); (case c7 => k_is); (case k7 => k_is); (case a8 => k_is); (case l8 => k_is); (case c8 => k_is); (case k8 => k_is); (case a9 => k_is); (case l9 => k_is); (case c9 => k_is); (case k9 => k_is); (case a10 => k_is); (case l10 => k_is); (case c10 => k_is); (case k10 => k_is); (case a11 => k_is); (case l11 => k_is); (case c11 => k_is); (case k11 => k_is); (case a12 => k_is); (case l12 => k_is); (case c12 => k_is); (case k12 => k_is); (case a13 => k_is); (case l13 => k_is); (case c13 => k_is); (case k13 => k_is); (case a14 => k_is); (case l14 => k_is); (case c14 => k_is); (case k14 => k_is); (case z0 => k_is); (case z1 => k_is); (case z2 => k_is); (case z3 => k_is); (case z4 => k_is); (case z5 => k_is); (case z6 => k_is); (case z7 => k_is); (case z8 => k_is); (case z9 => k_is); (case z10 => k_is); (case z11 => k_is); (case z12 => k_is); (case z13 => k_is); (case z14 => k_is); (case z15 => k_is); (case z16 => k_is); (case z17 => k_is)
