import PyProof.Rows.All
import Wide.All
import OpenK.AllK
import Wide.FinOn
import HandS.ForMost
import HandS.Star
import HandS.TupAny
import HandS.TupMul
import HandS.Zip
import HandS.Walk
import HandS.IsInst
import HandS.Deep
import HandS.WordsExc
import HandS.Style
import HandS.NoneIn
import HandS.Iter
import HandS.TupSets
import HandS.Conv
import HandS.FStr
import HandS.RaiseMore
import HandS.Text
import HandS.TupLe
import HandS.RevTup
import HandS.More
import KE.SortData
import HandS.Zip0
import KE.KUnpackStar
import HandS.Dict
import PySem.Challenge.RW_ownrights_k01_kinds_and_forms
set_option Elab.async false
set_option linter.all false
set_option maxRecDepth 100000
namespace Ev
open PySem L2
/-- values as trees; a cell is a shared list that changes -/
inductive PV where
  | non | bl (b : Bool) | int (i : Int) | str (s : Str)
  | tup (xs : List PV) | lst (xs : List PV) | rol (xs : List PV)
  | cell (k : Nat) | dct (ks : List Key) (xs : List PV)
mutual
def PV.data : PV → Option PyData
  | .non => some .none
  | .bl b => some (.bool b)
  | .int i => some (.int i)
  | .str s => some (.str s)
  | .tup xs => (PV.dataL xs).map .tuple
  | .lst xs => (PV.dataL xs).map .list
  | .rol _ => none
  | .cell _ => none
  | .dct _ _ => none
def PV.dataL : List PV → Option (List PyData)
  | [] => some []
  | x :: xs => match x.data, PV.dataL xs with
    | some d, some ds => some (d :: ds)
    | _, _ => none
end
abbrev Cel := List PV
inductive Slot where
  | emp | val (v : PV) | own (v : PV)
abbrev En := List Slot
structure EX where
  cls : Nat
  args : List PV
inductive R (α : Type) where
  | ok (a : α) (st : Cel) | exc (e : EX) (st : Cel) | bad
def R.bind {α β : Type} : R α → (α → Cel → R β) → R β
  | .ok a st, f => f a st
  | .exc e st, _ => .exc e st
  | .bad, _ => .bad
@[simp] theorem R.bind_ok {α β : Type} (a : α) (st : Cel) (f : α → Cel → R β) : (R.ok a st).bind f = f a st := rfl
@[simp] theorem R.bind_exc {α β : Type} (e : EX) (st : Cel) (f : α → Cel → R β) : (R.exc e st : R α).bind f = .exc e st := rfl
@[simp] theorem R.bind_bad {α β : Type} (f : α → Cel → R β) : (R.bad : R α).bind f = .bad := rfl
/-- a callee's end: an exception is not carried yet -/
def R.noexc {α : Type} : R α → R α
  | .ok a st => .ok a st
  | _ => .bad
@[simp] theorem R.noexc_ok {α : Type} (a : α) (st : Cel) : (R.ok a st).noexc = .ok a st := rfl
@[simp] theorem R.noexc_bad {α : Type} : (R.bad : R α).noexc = .bad := rfl
def R.of {α : Type} (o : Option α) (st : Cel) : R α := match o with
  | some a => .ok a st
  | none => .bad
@[simp] theorem R.of_some {α : Type} (a : α) (st : Cel) : R.of (some a) st = .ok a st := rfl
@[simp] theorem R.of_none {α : Type} (st : Cel) : R.of (none : Option α) st = .bad := rfl
inductive BOp where | add | sub | mul | fdiv | mod | pow
inductive COp where | lt | le | gt | ge | eq | ne | in_ | nin | isN | notN
inductive Ty where | int | bool | str | tuple | list
mutual
inductive C where
  | var (i : Nat) | bor (i : Nat) | int (i : Int) | str (s : Str) | bl (b : Bool) | non
  | bin (op : BOp) (a b : C) | neg (a : C) | not (a : C) | cmp (op : COp) (a b : C) | and (a b : C) | or (a b : C) | ite (t a b : C)
  | tup (es : Cs) | lst (es : Cs)
  | call (f : Nat) (es : Cs)
  | len (a : C) | toInt (a : C) | tupleOf (a : C) | listOf (a : C) | isa (a : C) (t : Ty) | all (a : C) | indexOf (a b : C)
  | ix (a i : C) | sl (a : C) (lo hi : Cs)
  | comp (elt : C) (tg : List Nat) (it : C) (ifs : Cs) (own : List Nat)
  | rng1 (a : C) | rng2 (a b : C) | zip2 (a b : C)
  | repr (a : C) | dct (kvs : Cs) | dget (a k : C)
  | any (a : C) | str1 (a : C) | chain (o1 o2 : COp) (a b c : C) | gc (g : Nat) | kget (g : Nat) (k : C) | kin (neg : Bool) (g : Nat) (k : C)
  | comp2 (elt : C) (tg : List Nat) (it : C) (tg2 : List Nat) (it2 : C) (ifs : Cs) (own own2 : List Nat)
  | isa2 (a : C) (t u : Ty) | cat (a b : C) | dgetD (a k : C) | revT (a : C)
  | enum (a : C) | join (a b : C) | fstr (es : Cs) | rev (a : C) | tupRng (a b : C) | sset (a : C) | sorted (a : C)
inductive Cs where
  | nil | cons (a : C) (r : Cs) | star (a : C) (r : Cs)
end
def szOk (n : Nat) : Bool := decide (n ≤ sizeLine)
def eqD (a b : PV) : Option Bool := match a.data, b.data with
  | some d, some e => if SeqAt.shaped d && SeqAt.shaped e then some (PyData.eqv d e) else none
  | _, _ => none
/-- a text beside a scalar -/
def scalE : PV → PV → Option Bool
  | .str s, .str t => some (decide (s = t))
  | .str _, .int _ => some false
  | .int _, .str _ => some false
  | .str _, .bl _ => some false
  | .bl _, .str _ => some false
  | .str _, .non => some false
  | .non, .str _ => some false
  | _, _ => none
def eqV (a b : PV) : Option Bool := match scalE a b with
  | some k => some k
  | none => eqD a b
/-- a text so many times -/
def repS (n : Nat) (x : Str) : Str := ⟨(List.replicate n x.cps).foldl (· ++ ·) #[]⟩
/-- a tuple of ints -/
def intsP : List PV → Option (List Int)
  | [] => some []
  | .int i :: r => (intsP r).map (i :: ·)
  | _ :: _ => none
def leI (ns ms : List Int) : Bool := Ob.lexAt (fun j => decide (ns.getD j 0 = ms.getD j 0)) (fun j => decide (ns.getD j 0 ≤ ms.getD j 0)) (decide (ns.length ≤ ms.length)) 0 (min ns.length ms.length)
def cmpT (f : List Int → List Int → Bool) (xs ys : List PV) : Option Bool := match intsP xs, intsP ys with
  | some a, some b => some (f a b)
  | _, _ => none
def signsP (s : Str) : List PV := s.cps.toList.map fun c => .str ⟨#[c]⟩
def binV : BOp → PV → PV → Option PV
  | .add, .int i, .int j => some (.int (i + j))
  | .add, .str x, .str y => if szOk (x.length + y.length) then some (.str (x ++ y)) else none
  | .add, .lst xs, .lst ys => if szOk (xs.length + ys.length) then some (.lst (xs ++ ys)) else none
  | .add, .tup xs, .tup ys => if szOk (xs.length + ys.length) then some (.tup (xs ++ ys)) else none
  | .sub, .int i, .int j => some (.int (i - j))
  | .mul, .int i, .int j => if (-(2 ^ 64) < i && i < 2 ^ 64) || (-(2 ^ 64) < j && j < 2 ^ 64) then some (.int (i * j)) else none
  | .mul, .lst xs, .int k => if -(2 ^ 63) ≤ k && k < 2 ^ 63 && szOk (xs.length * k.toNat) then some (.lst (List.replicate k.toNat xs).flatten) else none
  | .mul, .tup xs, .int k => if 1 ≤ k && k ≤ 1000 && decide (xs.length ≤ 1000) && !xs.isEmpty then some (.tup (List.replicate k.toNat xs).flatten) else none
  | .fdiv, .int i, .int j => if j ≠ 0 ∧ j.natAbs < 1073741824 then some (.int (i.fdiv j)) else none
  | .mod, .int i, .int j => if j ≠ 0 then some (.int (i.fmod j)) else none
  | .pow, .int i, .int j => if 0 ≤ j ∧ j ≤ 1000000 ∧ i.natAbs < 2 ^ 64 then some (.int (i ^ j.toNat)) else none
  | .add, .bl c, .int j => some (.int ((if c then 1 else 0) + j))
  | .mul, .str x, .int k => if 2 ≤ k && k ≤ 100000 && decide (x.length ≠ 0) && szOk (x.length * k.toNat) then some (.str (repS k.toNat x)) else none
  | _, _, _ => none
def PV.isNone : PV → Bool
  | .non => true
  | _ => false
/-- among data -/
def inL (d : PyData) (ds : List PyData) : Option Bool := if SeqAt.shaped d && SeqAt.shaped (.list ds) then some (ds.any fun z => PyData.eqv z d) else none
/-- flat things: what `in` over a tuple looks at -/
def flatP : PV → Option V
  | .non => some .non
  | .bl b => some (.bl b)
  | .int i => some (.int i)
  | .str x => some (.str x)
  | _ => none
def flatPs : List PV → Option (List V)
  | [] => some []
  | x :: xs => match flatP x, flatPs xs with
    | some v, some vs => some (v :: vs)
    | _, _ => none
def inV (a : PV) : PV → Option Bool
  | .lst xs => match a.data, PV.dataL xs with
    | some d, some ds => inL d ds
    | _, _ => none
  | .tup xs => match flatP a, flatPs xs with
    | some v, some vs => some (L2.inV v vs)
    | _, _ => none
  | .str z => match a with
    | .str x => (match x.cps.toList with
      | [c] => some (decide (c ∈ z.cps.toList))
      | _ => none)
    | _ => none
  | _ => none
def cmpV : COp → PV → PV → Option Bool
  | .lt, .int i, .int j => some (decide (i < j))
  | .le, .int i, .int j => some (decide (i ≤ j))
  | .gt, .int i, .int j => some (decide (j < i))
  | .ge, .int i, .int j => some (decide (j ≤ i))
  | .lt, .str x, .str y => some (decide (x.cps.toList < y.cps.toList))
  | .le, .str x, .str y => some (!decide (y.cps.toList < x.cps.toList))
  | .lt, .tup x, .tup y => cmpT HT.lexLt x y
  | .le, .tup x, .tup y => cmpT leI x y
  | .eq, a, b => eqV a b
  | .ne, a, b => (eqV a b).map (!·)
  | .in_, a, b => inV a b
  | .nin, a, b => (inV a b).map (!·)
  | .isN, a, .non => some a.isNone
  | .notN, a, .non => some (!a.isNone)
  | _, _, _ => none
def kP : Key → PV
  | .inl i => .int i
  | .inr x => .str x
def keyP : PV → Option Key
  | .int i => some (.inl i)
  | .str x => some (.inr x)
  | _ => none
def pairsP : List PV → Option (List Key × List PV)
  | [] => some ([], [])
  | k :: v :: r => match keyP k, pairsP r with
    | some k', some q => some (k' :: q.1, v :: q.2)
    | _, _ => none
  | _ => none
/-- a dict's display: no key twice -/
def dctV (xs : List PV) : Option PV := match pairsP xs with
  | some q => if q.1.Nodup ∧ q.1.length ≤ 15 then some (.dct q.1 q.2) else none
  | none => none
def valP : List Key → List PV → Key → Option PV
  | k :: ks, t :: ts, x => if k = x then some t else valP ks ts x
  | _, _, _ => none
def dgetV : PV → PV → Option PV
  | .dct ks ts, k => match keyP k with
    | some k' => valP ks ts k'
    | none => none
  | _, _ => none
/-- repr of data -/
def reprV (a : PV) : Option PV := match a.data with
  | some d => if d.showable && !d.hasDict && decide (d.depth ≤ 60) && szOk d.shown.length then some (.str d.shown) else none
  | none => none
/-- the first place of an equal item -/
def indexD (d : PyData) : List PyData → Nat → Option Nat
  | [], _ => none
  | z :: zs, i => if PyData.eqv z d then some i else indexD d zs (i + 1)
def indexV (a b : PV) : Option PV := match a.data, b.data with
  | some (.list ds), some d => if SeqAt.shaped (.list ds) && SeqAt.shaped d then (indexD d ds 0).map fun j => .int (j : Nat) else none
  | _, _ => none
def itemsOf : PV → Option (List PV)
  | .lst xs => some xs
  | .tup xs => some xs
  | .rol xs => some xs
  | .dct ks _ => some (ks.map kP)
  | .str s => some (signsP s)
  | _ => none
def lenV : PV → Option PV
  | .lst xs => some (.int xs.length)
  | .tup xs => some (.int xs.length)
  | .rol xs => some (.int xs.length)
  | .str s => if szOk s.length then some (.int s.length) else none
  | _ => none
def atP (xs : List PV) (i : Int) : Option PV := atI xs i
/-- items and the cells' contents -/
def ixV (st : Cel) : PV → PV → Option PV
  | .lst xs, .int i => atP xs i
  | .tup xs, .int i => atP xs i
  | .rol xs, .int i => atP xs i
  | .cell k, .int i => match st[k]? with
    | some (.lst xs) => atP xs i
    | _ => none
  | .str z, .int i => if szOk z.length then (atI z.cps.toList i).map fun c => .str ⟨#[c]⟩ else none
  | _, _ => none
def cutP (xs : List PV) (lo hi : Option Int) : List PV := (xs.drop (HT.sIx xs.length 0 lo)).take (HT.sIx xs.length xs.length hi - HT.sIx xs.length 0 lo)
def slV (a : PV) (lo hi : Option Int) : Option PV := match a with
  | .lst xs => some (.lst (cutP xs lo hi))
  | .rol xs => some (.lst (cutP xs lo hi))
  | .tup xs => some (.tup (cutP xs lo hi))
  | .str z => if szOk z.length then some (.str (cutS z lo hi)) else none
  | _ => none
def allB : List PV → Option (List Bool)
  | [] => some []
  | .bl b :: r => (allB r).map (b :: ·)
  | _ :: _ => none
def isaV : PV → Ty → Option Bool
  | .non, _ => some false
  | .bl _, .int => some true
  | .bl _, .bool => some true
  | .bl _, _ => some false
  | .int _, .int => some true
  | .int _, _ => some false
  | .str _, .str => some true
  | .str _, _ => some false
  | .tup _, .tuple => some true
  | .tup _, _ => some false
  | .lst _, .list => some true
  | .lst _, _ => some false
  | _, _ => none
def set1 (ρ : En) (i : Nat) (v : PV) : En := ρ.set i (.val v)
/-- one name, or several for a tuple -/
def assignT (tg : List Nat) (v : PV) (ρ : En) : Option En := match tg with
  | [i] => some (set1 ρ i v)
  | is => match v with
    | .lst xs => if xs.length = is.length then some ((is.zip xs).foldl (fun ρ p => set1 ρ p.1 p.2) ρ) else none
    | .tup xs => if xs.length = is.length then some ((is.zip xs).foldl (fun ρ p => set1 ρ p.1 p.2) ρ) else none
    | _ => none
def wipeE (ρ : En) : List Nat → En
  | [] => ρ
  | v :: vs => (wipeE ρ vs).set v .emp
/-- a comprehension's turns: none may raise -/
def compL (f : PV → Cel → R (Option PV)) : List PV → Cel → R (List PV)
  | [], st => .ok [] st
  | x :: xs, st => match f x st with
    | .ok o st1 => (compL f xs st1).bind fun ys st2 => .ok (match o with
      | some y => y :: ys
      | none => ys) st2
    | _ => .bad
def rngP (lo hi : Int) : List PV := (List.range (hi - lo).toNat).map fun k => .int (lo + (k : Nat))
def rOk (i : Int) : Bool := -(2 ^ 62) ≤ i && i < 2 ^ 62
def blV : PV → Option Bool
  | .bl b => some b
  | _ => none
def negV : PV → Option PV
  | .int i => some (.int (-i))
  | _ => none
def notV : PV → Option PV
  | .bl b => some (.bl (!b))
  | _ => none
def toIntV : PV → Option PV
  | .int i => some (.int i)
  | .bl b => some (.int (if b then 1 else 0))
  | _ => none
def tupleV : PV → Option PV
  | .str s => if szOk s.length then some (.tup (signsP s)) else none
  | .lst xs => some (.tup xs)
  | .tup xs => some (.tup xs)
  | _ => none
def listV : PV → Option PV
  | .lst xs => some (.lst xs)
  | .tup xs => some (.lst xs)
  | _ => none
def allV : PV → Option PV
  | .lst xs => (allB xs).map fun bs => .bl (bs.all id)
  | _ => none
def anyV : PV → Option PV
  | .lst xs => (allB xs).map fun bs => .bl (bs.any id)
  | _ => none
def str1V : PV → Option PV
  | .int i => if i.natAbs.log2 < 1920 then some (.str (toString i)) else none
  | .str s => some (.str s)
  | _ => none
def strsP : List PV → Option (List Str)
  | [] => some []
  | .str s :: r => (strsP r).map (s :: ·)
  | _ :: _ => none
def joinV : PV → PV → Option PV
  | .str a, .lst xs => match strsP xs with
    | some ys => if (ys.map (·.length)).sum + ys.length * a.length ≤ 16777216 then some (.str (Txt.join a ys)) else none
    | none => none
  | .str a, .tup xs => match strsP xs with
    | some ys => if (ys.map (·.length)).sum + ys.length * a.length ≤ 16777216 then some (.str (Txt.join a ys)) else none
    | none => none
  | _, _ => none
/-- a part of an f-string behind the others -/
def fmtV (acc : Str) (x : PV) : Option Str := match str1V x with
  | some (.str y) => if szOk (acc ++ y).length then some (acc ++ y) else none
  | _ => none
def revV : PV → Option PV
  | .lst xs => some (.lst xs.reverse)
  | _ => none
/-- lists, one behind the other: a new one -/
def catV : PV → PV → Option PV
  | .lst xs, .lst ys => if szOk (xs.length + ys.length) then some (.lst (xs ++ ys)) else none
  | _, _ => none
def revTV : PV → Option PV
  | .tup xs => some (.tup xs.reverse)
  | _ => none
def isa2V (x : PV) (t u : Ty) : Option Bool := match isaV x t, isaV x u with
  | some a, some b => some (a || b)
  | _, _ => none
/-- d.get(k) -/
def dgetN : PV → PV → Option PV
  | .dct ks ts, k => match keyP k with
    | some k' => some ((valP ks ts k').getD .non)
    | none => none
  | _, _ => none
def tupRngV : PV → PV → Option PV
  | .int i, .int j => if rOk i && rOk j && szOk (j - i).toNat then some (.tup (rngP i j)) else none
  | _, _ => none
def enumP (n : Nat) : List PV → List PV
  | [] => []
  | x :: xs => .tup [.int (n : Nat), x] :: enumP (n + 1) xs
def enumV : PV → Option PV
  | .lst xs => some (.lst (enumP 0 xs))
  | .tup xs => some (.lst (enumP 0 xs))
  | _ => none
def rowsP : List PV → Option (List (List Int))
  | [] => some []
  | .tup xs :: r => match intsP xs, rowsP r with
    | some k, some ks => some (k :: ks)
    | _, _ => none
  | _ :: _ => none
/-- sorted, none twice -/
def insR (k : List Int) : List (List Int) → List (List Int)
  | [] => [k]
  | m :: r => if k = m then m :: r else if k < m then k :: m :: r else m :: insR k r
def ssetR (ks : List (List Int)) : List (List Int) := ks.foldr insR []
def ssetV : PV → Option PV
  | .lst xs => match rowsP xs with
    | some ks => if ks.length < 64 && ks.all (fun k => !k.isEmpty) then some (.lst ((ssetR ks).map fun k => .tup (k.map .int))) else none
    | none => none
  | _ => none
/-- sorted of alike data -/
def alikeB (ds : List PyData) : Bool := ds.all fun d => ds.all fun e => PySem.W.alike d e
def sortB (ds : List PyData) : Bool := (ds.all fun d => match d with
    | .tuple (_ :: _) => true
    | _ => false) || ds.all fun d => match d with
    | .none => false
    | .tuple _ => false
    | _ => true
def sortP (ps : List (PV × PyData)) : List PV := (ps.mergeSort (PySem.W.dataLe false (fun p => p.2))).map (·.1)
def sortedV : PV → Option PV
  | .lst xs => match PV.dataL xs with
    | some ds => if alikeB ds && sortB ds && ds.all (fun d => decide (d.depth ≤ 50)) then some (.lst (sortP (xs.zip ds))) else none
    | none => none
  | _ => none
def rng1V : PV → Option PV
  | .int i => if rOk i then some (.lst (rngP 0 i)) else none
  | _ => none
def rng2V : PV → PV → Option PV
  | .int i, .int j => if rOk i && rOk j then some (.lst (rngP i j)) else none
  | _, _ => none
def zipV : PV → PV → Option PV
  | .tup xs, .tup ys => some (.lst ((xs.zip ys).map fun p => .tup [p.1, p.2]))
  | .lst xs, .lst ys => some (.lst ((xs.zip ys).map fun p => .tup [p.1, p.2]))
  | _, _ => none
/-- the second clause of a comprehension, its turns one behind the other -/
def flatL (f : PV → Cel → R (List PV)) : List PV → Cel → R (List PV)
  | [], st => .ok [] st
  | x :: xs, st => match f x st with
    | .ok ys st1 => (flatL f xs st1).bind fun zs st2 => .ok (ys ++ zs) st2
    | _ => .bad
section
variable (Φ : Nat → List PV → Cel → R PV)
mutual
def ev : C → En → Cel → R PV
  | .var i, ρ, st => match ρ[i]? with
    | some (.val v) => .ok v st
    | _ => .bad
  | .bor i, ρ, st => match ρ[i]? with
    | some (.own v) => .ok v st
    | some (.val v) => .ok v st
    | _ => .bad
  | .int i, _, st => .ok (.int i) st
  | .str s, _, st => .ok (.str s) st
  | .bl b, _, st => .ok (.bl b) st
  | .non, _, st => .ok .non st
  | .bin op a b, ρ, st => (ev a ρ st).bind fun x st => (ev b ρ st).bind fun y st => R.of (binV op x y) st
  | .neg a, ρ, st => (ev a ρ st).bind fun x st => R.of (negV x) st
  | .not a, ρ, st => (ev a ρ st).bind fun x st => R.of (notV x) st
  | .cmp op a b, ρ, st => (ev a ρ st).bind fun x st => (ev b ρ st).bind fun y st => R.of ((cmpV op x y).map .bl) st
  | .and a b, ρ, st => (ev a ρ st).bind fun x st => match x with
    | .bl true => ev b ρ st
    | .bl false => .ok (.bl false) st
    | _ => .bad
  | .or a b, ρ, st => (ev a ρ st).bind fun x st => match x with
    | .bl true => .ok (.bl true) st
    | .bl false => ev b ρ st
    | _ => .bad
  | .ite t a b, ρ, st => (ev t ρ st).bind fun x st => match x with
    | .bl true => ev a ρ st
    | .bl false => ev b ρ st
    | _ => .bad
  | .tup es, ρ, st => (evs es ρ st).bind fun xs st => if szOk xs.length then .ok (.tup xs) st else .bad
  | .lst es, ρ, st => (evs es ρ st).bind fun xs st => if szOk xs.length then .ok (.lst xs) st else .bad
  | .call f es, ρ, st => (evs es ρ st).bind fun xs st => (Φ f xs st).noexc
  | .len a, ρ, st => (ev a ρ st).bind fun x st => R.of (lenV x) st
  | .toInt a, ρ, st => (ev a ρ st).bind fun x st => R.of (toIntV x) st
  | .tupleOf a, ρ, st => (ev a ρ st).bind fun x st => R.of (tupleV x) st
  | .listOf a, ρ, st => (ev a ρ st).bind fun x st => R.of (listV x) st
  | .isa a t, ρ, st => (ev a ρ st).bind fun x st => R.of ((isaV x t).map .bl) st
  | .all a, ρ, st => (ev a ρ st).bind fun x st => R.of (allV x) st
  | .indexOf a b, ρ, st => (ev a ρ st).bind fun x st => match x with
    | .lst xs => (ev b ρ st).bind fun y st => R.of (indexV (.lst xs) y) st
    | _ => .bad
  | .ix a i, ρ, st => (ev a ρ st).bind fun x st => (ev i ρ st).bind fun y st => R.of (ixV st x y) st
  | .sl a lo hi, ρ, st => (ev a ρ st).bind fun x st => (evo lo ρ st).bind fun l st => (evo hi ρ st).bind fun h st => R.of (slV x l h) st
  | .comp elt tg it ifs own, ρ, st => (ev it ρ st).bind fun iv st => match itemsOf iv with
    | some xs => (compL (fun x st => match assignT tg x (wipeE ρ own) with
        | some ρ1 => (evt ifs ρ1 st).bind fun b st => if b then (ev elt ρ1 st).bind fun y st => .ok (some y) st else .ok none st
        | none => .bad) xs st).bind fun ys st => if szOk ys.length then .ok (.lst ys) st else .bad
    | none => .bad
  | .rng1 a, ρ, st => (ev a ρ st).bind fun x st => R.of (rng1V x) st
  | .rng2 a b, ρ, st => (ev a ρ st).bind fun x st => (ev b ρ st).bind fun y st => R.of (rng2V x y) st
  | .zip2 a b, ρ, st => (ev a ρ st).bind fun x st => (ev b ρ st).bind fun y st => R.of (zipV x y) st
  | .repr a, ρ, st => (ev a ρ st).bind fun x st => R.of (reprV x) st
  | .dct kvs, ρ, st => (evs kvs ρ st).bind fun xs st => R.of (dctV xs) st
  | .dget a k, ρ, st => (ev a ρ st).bind fun x st => (ev k ρ st).bind fun y st => R.of (dgetV x y) st
  | .any a, ρ, st => (ev a ρ st).bind fun x st => R.of (anyV x) st
  | .str1 a, ρ, st => (ev a ρ st).bind fun x st => R.of (str1V x) st
  | .chain o1 o2 a b c, ρ, st => (ev a ρ st).bind fun x st => (ev b ρ st).bind fun y st => match cmpV o1 x y with
    | some true => (ev c ρ st).bind fun z st => R.of ((cmpV o2 y z).map .bl) st
    | some false => .ok (.bl false) st
    | none => .bad
  | .gc g, ρ, st => (Φ (1000 + g) [] st).noexc
  | .kget g k, ρ, st => (ev k ρ st).bind fun x st => (Φ (2000 + g) [x] st).noexc
  | .kin neg g k, ρ, st => (ev k ρ st).bind fun x st => (Φ (3000 + g) [x] st).noexc.bind fun b st => if neg then R.of (notV b) st else .ok b st
  | .comp2 elt tg it tg2 it2 ifs own own2, ρ, st => (ev it ρ st).bind fun iv st => match itemsOf iv with
    | some xs => (flatL (fun x st => match assignT tg x (wipeE ρ own) with
        | some ρ1 => (ev it2 ρ1 st).bind fun iv2 st => (match itemsOf iv2 with
          | some ys => compL (fun y st => match assignT tg2 y (wipeE ρ1 own2) with
            | some ρ2 => (evt ifs ρ2 st).bind fun b st => if b then (ev elt ρ2 st).bind fun z st => .ok (some z) st else .ok none st
            | none => .bad) ys st
          | none => .bad)
        | none => .bad) xs st).bind fun ys st => if szOk ys.length then .ok (.lst ys) st else .bad
    | none => .bad
  | .cat a b, ρ, st => (ev a ρ st).bind fun x st => (ev b ρ st).bind fun y st => R.of (catV x y) st
  | .isa2 a t u, ρ, st => (ev a ρ st).bind fun x st => R.of ((isa2V x t u).map .bl) st
  | .dgetD a k, ρ, st => (ev a ρ st).bind fun x st => match x with
    | .dct ks ts => (ev k ρ st).bind fun y st => R.of (dgetN (.dct ks ts) y) st
    | _ => .bad
  | .revT a, ρ, st => (ev a ρ st).bind fun x st => R.of (revTV x) st
  | .enum a, ρ, st => (ev a ρ st).bind fun x st => R.of (enumV x) st
  | .join a b, ρ, st => (ev a ρ st).bind fun x st => match x with
    | .str s => (ev b ρ st).bind fun y st => R.of (joinV (.str s) y) st
    | _ => .bad
  | .fstr es, ρ, st => (evj es Str.empty ρ st).bind fun s st => .ok (.str s) st
  | .rev a, ρ, st => (ev a ρ st).bind fun x st => R.of (revV x) st
  | .tupRng a b, ρ, st => (ev a ρ st).bind fun x st => (ev b ρ st).bind fun y st => R.of (tupRngV x y) st
  | .sset a, ρ, st => (ev a ρ st).bind fun x st => R.of (ssetV x) st
  | .sorted a, ρ, st => (ev a ρ st).bind fun x st => R.of (sortedV x) st
def evs : Cs → En → Cel → R (List PV)
  | .nil, _, st => .ok [] st
  | .cons a r, ρ, st => (ev a ρ st).bind fun x st => (evs r ρ st).bind fun xs st => .ok (x :: xs) st
  | .star a r, ρ, st => (ev a ρ st).bind fun x st => match x with
    | .tup ys => (evs r ρ st).bind fun xs st => .ok (ys ++ xs) st
    | .lst ys => (evs r ρ st).bind fun xs st => .ok (ys ++ xs) st
    | _ => .bad
/-- the parts of an f-string -/
def evj : Cs → Str → En → Cel → R Str
  | .nil, acc, _, st => .ok acc st
  | .cons a r, acc, ρ, st => (ev a ρ st).bind fun x st => match fmtV acc x with
    | some acc' => evj r acc' ρ st
    | none => .bad
  | .star _ _, _, _, _ => .bad
/-- a slice's part: nothing, or an int -/
def evo : Cs → En → Cel → R (Option Int)
  | .cons a .nil, ρ, st => (ev a ρ st).bind fun x st => match x with
    | .int i => .ok (some i) st
    | _ => .bad
  | .nil, _, st => .ok none st
  | _, _, _ => .bad
/-- a clause's tests: none or one -/
def evt : Cs → En → Cel → R Bool
  | .cons a .nil, ρ, st => (ev a ρ st).bind fun x st => R.of (blV x) st
  | .nil, _, st => .ok true st
  | _, _, _ => .bad
end
end
end Ev
namespace Ev
open PySem L2
mutual
inductive S where
  | asg (tg : List Nat) (e : C) | par (is : List Nat) (es : Cs) | asgO (i : Nat) (e : C) | asgC (i : Nat) (e : C) | setI (a i e : C)
  | app (i : Nat) (e : C) | ext (i : Nat) (e : C)
  | if_ (t : C) (a b : Ss) | for_ (tg : List Nat) (it : C) (b : Ss) | while_ (t : C) (b : Ss)
  | ret (e : C) | expr (e : C) | pass | brk | cnt | frz (i : Nat)
  | ustar (is : List Nat) (j : Nat) (e : C)
  | popA (tg : List Nat) (i : Nat) | popK (i : Nat) (k : C) | insO (i : Nat) (a e : C) | setO (i : Nat) (a e : C) | never
  | parOV (i j : Nat) (a b : C) | parVO (i j : Nat) (a b : C)
inductive Ss where
  | nil | cons (s : S) (r : Ss)
end
inductive RS where
  | nx (ρ : En) (st : Cel) | rt (v : PV) (st : Cel) | bk (ρ : En) (st : Cel) | ct (ρ : En) (st : Cel) | exc (e : EX) (ρ : En) (st : Cel) | bad
def RS.seq : RS → (En → Cel → RS) → RS
  | .nx ρ st, f => f ρ st
  | r, _ => r
@[simp] theorem RS.seq_nx (ρ : En) (st : Cel) (f : En → Cel → RS) : (RS.nx ρ st).seq f = f ρ st := rfl
@[simp] theorem RS.seq_rt (v : PV) (st : Cel) (f : En → Cel → RS) : (RS.rt v st).seq f = .rt v st := rfl
@[simp] theorem RS.seq_bk (ρ : En) (st : Cel) (f : En → Cel → RS) : (RS.bk ρ st).seq f = .bk ρ st := rfl
@[simp] theorem RS.seq_ct (ρ : En) (st : Cel) (f : En → Cel → RS) : (RS.ct ρ st).seq f = .ct ρ st := rfl
@[simp] theorem RS.seq_exc (e : EX) (ρ : En) (st : Cel) (f : En → Cel → RS) : (RS.exc e ρ st).seq f = .exc e ρ st := rfl
@[simp] theorem RS.seq_bad (f : En → Cel → RS) : RS.bad.seq f = .bad := rfl
/-- an expression's end within a statement -/
def R.then {α : Type} (r : R α) (ρ : En) (f : α → Cel → RS) : RS := match r with
  | .ok a st => f a st
  | .exc e st => .exc e ρ st
  | .bad => .bad
@[simp] theorem R.then_ok {α : Type} (a : α) (st : Cel) (ρ : En) (f : α → Cel → RS) : (R.ok a st).then ρ f = f a st := rfl
@[simp] theorem R.then_exc {α : Type} (e : EX) (st : Cel) (ρ : En) (f : α → Cel → RS) : (R.exc e st : R α).then ρ f = .exc e ρ st := rfl
@[simp] theorem R.then_bad {α : Type} (ρ : En) (f : α → Cel → RS) : (R.bad : R α).then ρ f = .bad := rfl
/-- behind a loop's body -/
def nextL (r : RS) (k : En → Cel → RS) : RS := match r with
  | .nx ρ st => k ρ st
  | .ct ρ st => k ρ st
  | .bk ρ st => .nx ρ st
  | .rt v st => .rt v st
  | .exc e ρ st => .exc e ρ st
  | .bad => .bad
@[simp] theorem nextL_nx (ρ : En) (st : Cel) (k : En → Cel → RS) : nextL (.nx ρ st) k = k ρ st := rfl
@[simp] theorem nextL_ct (ρ : En) (st : Cel) (k : En → Cel → RS) : nextL (.ct ρ st) k = k ρ st := rfl
@[simp] theorem nextL_bk (ρ : En) (st : Cel) (k : En → Cel → RS) : nextL (.bk ρ st) k = .nx ρ st := rfl
@[simp] theorem nextL_rt (v : PV) (st : Cel) (k : En → Cel → RS) : nextL (.rt v st) k = .rt v st := rfl
@[simp] theorem nextL_bad (k : En → Cel → RS) : nextL .bad k = .bad := rfl
/-- by a test's answer -/
def ifB (x : PV) (a b : RS) : RS := match x with
  | .bl true => a
  | .bl false => b
  | _ => .bad
@[simp] theorem ifB_bl (c : Bool) (a b : RS) : ifB (.bl c) a b = if c then a else b := by cases c <;> rfl
def forL (f : PV → En → Cel → RS) : List PV → En → Cel → RS
  | [], ρ, st => .nx ρ st
  | x :: xs, ρ, st => nextL (f x ρ st) fun ρ1 st1 => forL f xs ρ1 st1
def whileL (t : En → Cel → R PV) (b : En → Cel → RS) : Nat → En → Cel → RS
  | 0, _, _ => .bad
  | n + 1, ρ, st => (t ρ st).then ρ fun x st => ifB x (nextL (b ρ st) fun ρ1 st1 => whileL t b n ρ1 st1) (.nx ρ st)
def ixP (n : Nat) (i : Int) : Option Nat := ixN n i
def popI (xs : List PV) : PV → Option (List PV)
  | .int n => if rOk n then (ixP xs.length n).map fun m => xs.eraseIdx m else none
  | _ => none
def insI (xs : List PV) (z x : PV) : Option (List PV) := match z with
  | .int n => if 0 ≤ n && n < 2 ^ 62 && szOk (xs.length + 1) then some (xs.take n.toNat ++ [x] ++ xs.drop n.toNat) else none
  | _ => none
def setI' (xs : List PV) (z x : PV) : Option (List PV) := match z with
  | .int n => (ixP xs.length n).map fun m => xs.set m x
  | _ => none
def lstOf : PV → Option (List PV)
  | .lst xs => some xs
  | _ => none
section
variable (Φ : Nat → List PV → Cel → R PV) (F : Nat)
mutual
def evS : S → En → Cel → RS
  | .asg tg e, ρ, st => (ev Φ e ρ st).then ρ fun x st => match assignT tg x ρ with
    | some ρ1 => .nx ρ1 st
    | none => .bad
  | .par is es, ρ, st => (evs Φ es ρ st).then ρ fun xs st => if xs.length = is.length then .nx ((is.zip xs).foldl (fun ρ p => set1 ρ p.1 p.2) ρ) st else .bad
  | .asgO i e, ρ, st => (ev Φ e ρ st).then ρ fun x st => match x with
    | .lst xs => .nx (ρ.set i (.own (.lst xs))) st
    | _ => .bad
  | .asgC i e, ρ, st => (ev Φ e ρ st).then ρ fun x st => match x with
    | .lst xs => .nx (ρ.set i (.val (.cell st.length))) (st ++ [.lst xs])
    | _ => .bad
  | .setI a i e, ρ, st => (ev Φ e ρ st).then ρ fun x st => (ev Φ a ρ st).then ρ fun o st => (ev Φ i ρ st).then ρ fun j st => match o, j with
    | .cell k, .int j => (match st[k]? with
      | some (.lst xs) => (match ixP xs.length j with
        | some n => .nx ρ (st.set k (.lst (xs.set n x)))
        | none => .bad)
      | _ => .bad)
    | _, _ => .bad
  | .app i e, ρ, st => match ρ[i]? with
    | some (.own (.lst xs)) => (ev Φ e ρ st).then ρ fun x st => if szOk (xs.length + 1) then .nx (ρ.set i (.own (.lst (xs ++ [x])))) st else .bad
    | _ => .bad
  | .ext i e, ρ, st => match ρ[i]? with
    | some (.own (.lst xs)) => (ev Φ e ρ st).then ρ fun x st => match x with
      | .lst ys => if szOk (xs.length + ys.length) then .nx (ρ.set i (.own (.lst (xs ++ ys)))) st else .bad
      | _ => .bad
    | _ => .bad
  | .if_ t a b, ρ, st => (ev Φ t ρ st).then ρ fun x st => ifB x (evSs a ρ st) (evSs b ρ st)
  | .for_ tg it b, ρ, st => (ev Φ it ρ st).then ρ fun iv st => match itemsOf iv with
    | some xs => forL (fun x ρ st => match assignT tg x ρ with
      | some ρ1 => evSs b ρ1 st
      | none => .bad) xs ρ st
    | none => .bad
  | .while_ t b, ρ, st => whileL (fun ρ st => ev Φ t ρ st) (fun ρ st => evSs b ρ st) F ρ st
  | .ret e, ρ, st => (ev Φ e ρ st).then ρ fun x st => .rt x st
  | .expr e, ρ, st => (ev Φ e ρ st).then ρ fun _ st => .nx ρ st
  | .pass, ρ, st => .nx ρ st
  | .brk, ρ, st => .bk ρ st
  | .cnt, ρ, st => .ct ρ st
  | .frz i, ρ, st => match ρ[i]? with
    | some (.own v) => .nx (ρ.set i (.val v)) st
    | _ => .nx ρ st
  | .ustar is j e, ρ, st => (ev Φ e ρ st).then ρ fun x st => match x with
    | .tup xs => if is.length ≤ xs.length ∧ xs.length ≤ 16384 then .nx (set1 ((is.zip (xs.take is.length)).foldl (fun ρ p => set1 ρ p.1 p.2) ρ) j (.lst (xs.drop is.length))) st else .bad
    | _ => .bad
  | .popA tg i, ρ, st => match ρ[i]? with
    | some (.own (.lst xs)) => (match xs[xs.length - 1]? with
      | some y => (match assignT tg y (ρ.set i (.own (.lst xs.dropLast))) with
        | some ρ1 => .nx ρ1 st
        | none => .bad)
      | none => .bad)
    | _ => .bad
  | .popK i k, ρ, st => match ρ[i]? with
    | some (.own (.lst xs)) => (ev Φ k ρ st).then ρ fun z st => (match popI xs z with
      | some ys => .nx (ρ.set i (.own (.lst ys))) st
      | none => .bad)
    | _ => .bad
  | .insO i a e, ρ, st => match ρ[i]? with
    | some (.own (.lst xs)) => (ev Φ a ρ st).then ρ fun z st => (ev Φ e ρ st).then ρ fun x st => (match insI xs z x with
      | some ys => .nx (ρ.set i (.own (.lst ys))) st
      | none => .bad)
    | _ => .bad
  | .setO i a e, ρ, st => match ρ[i]? with
    | some (.own (.lst xs)) => (ev Φ e ρ st).then ρ fun x st => (ev Φ a ρ st).then ρ fun z st => (match setI' xs z x with
      | some ys => .nx (ρ.set i (.own (.lst ys))) st
      | none => .bad)
    | _ => .bad
  | .never, _, _ => .bad
  | .parOV i j a b, ρ, st => (ev Φ a ρ st).then ρ fun x st => (match lstOf x with
    | some xs => (ev Φ b ρ st).then ρ fun y st => if i = j then .bad else .nx ((ρ.set i (.own (.lst xs))).set j (.val y)) st
    | none => .bad)
  | .parVO i j a b, ρ, st => (ev Φ a ρ st).then ρ fun x st => (ev Φ b ρ st).then ρ fun y st => (match lstOf y with
    | some ys => if i = j then .bad else .nx ((ρ.set i (.val x)).set j (.own (.lst ys))) st
    | none => .bad)
def evSs : Ss → En → Cel → RS
  | .nil, ρ, st => .nx ρ st
  | .cons s r, ρ, st => (evS s ρ st).seq fun ρ st => evSs r ρ st
end
end
/-- a def: its fixed parameters, whether there is a star one, its slots, its body -/
structure Fn where
  ar : Nat
  star : Bool := false
  n : Nat
  body : Ss
def initE (n : Nat) (args : List PV) : En := args.map .val ++ List.replicate (n - args.length) .emp
def fin : RS → R PV
  | .nx _ st => .ok .non st
  | .rt v st => .ok v st
  | .exc e _ st => .exc e st
  | _ => .bad
def run (Φ : Nat → List PV → Cel → R PV) (F : Nat) (d : Fn) (args : List PV) (st : Cel) : R PV :=
  if d.star then (if d.ar ≤ args.length && szOk (args.length - d.ar) then fin (evSs Φ F d.body (initE d.n (args.take d.ar ++ [.tup (args.drop d.ar)])) st) else .bad)
  else if args.length = d.ar then fin (evSs Φ F d.body (initE d.n args) st) else .bad
end Ev
namespace Ev
open PySem L2
/-- the world: the addresses that stand still, the cells' addresses -/
structure Wd where
  S : Addr → Prop
  cs : List Addr
/-- a list that is read and stands still: tracked, locked or written -/
def RoL (K : PySem.W.Frag) (ω : Wd) (H : Hp) (a : Addr) (vs : List V) : Prop :=
  (ω.S a ∧ H a = some (.lst vs)) ∨ (∃ o, H a = some (.frz o (.lst vs))) ∨
    ∃ (o : Obj) (its : Array Value) (n : Nat), K.lookup a = some o ∧ o.cls = .type "list" ∧ o.dict = none ∧ o.data = .seq its n ∧ its.size ≤ sizeLine ∧ Vals vs its.toList
theorem RoL.sq {K : PySem.W.Frag} {ω : Wd} {H : Hp} {a : Addr} {vs : List V} (h : RoL K ω H a vs) : SqL K H a vs := by
  rcases h with ⟨_, h⟩ | ⟨o, h⟩ | h
  · exact .inl (.inl h)
  · exact .inl (.inr ⟨o, h⟩)
  · exact .inr h
mutual
inductive Rep (K : PySem.W.Frag) (ω : Wd) (H : Hp) : V → PV → Prop
  | non : Rep K ω H .non .non
  | bl (b : Bool) : Rep K ω H (.bl b) (.bl b)
  | int (i : Int) : Rep K ω H (.int i) (.int i)
  | str (s : Str) : Rep K ω H (.str s) (.str s)
  | tup {a : Addr} {vs : List V} {ts : List PV} : SqT K H a vs → RepL K ω H vs ts → Rep K ω H (.ref a) (.tup ts)
  | lst {a : Addr} {vs : List V} {ts : List PV} : ω.S a → H a = some (.lst vs) → RepL K ω H vs ts → Rep K ω H (.ref a) (.lst ts)
  | rol {a : Addr} {vs : List V} {ts : List PV} : RoL K ω H a vs → RepL K ω H vs ts → Rep K ω H (.ref a) (.rol ts)
  | cell {a : Addr} {k : Nat} : ω.cs[k]? = some a → Rep K ω H (.ref a) (.cell k)
  | dct {a : Addr} {o : Obj} {kvs : List (Key × V)} {ts : List PV} : H a = some (.frz o (.dK kvs)) → RepL K ω H (kvs.map (·.2)) ts → Rep K ω H (.ref a) (.dct (kvs.map (·.1)) ts)
inductive RepL (K : PySem.W.Frag) (ω : Wd) (H : Hp) : List V → List PV → Prop
  | nil : RepL K ω H [] []
  | cons {v : V} {vs : List V} {t : PV} {ts : List PV} : Rep K ω H v t → RepL K ω H vs ts → RepL K ω H (v :: vs) (t :: ts)
end
/-- what never changes by itself -/
def Stat : HO → Prop
  | .tup _ => True
  | .frz _ _ => True
  | _ => False
structure Ext (ω : Wd) (H : Hp) (ω' : Wd) (H' : Hp) : Prop where
  sub : ∀ a, ω.S a → ω'.S a
  cs : ∃ more, ω'.cs = ω.cs ++ more
  keep : ∀ a o, H a = some o → (ω.S a ∨ Stat o) → H' a = some o
theorem Ext.refl (ω : Wd) (H : Hp) : Ext ω H ω H := ⟨fun _ h => h, ⟨[], by simp⟩, fun _ _ h _ => h⟩
theorem Ext.trans {ω ω1 ω2 : Wd} {H H1 H2 : Hp} (a : Ext ω H ω1 H1) (b : Ext ω1 H1 ω2 H2) : Ext ω H ω2 H2 := by
  obtain ⟨m1, e1⟩ := a.cs
  obtain ⟨m2, e2⟩ := b.cs
  exact ⟨fun x h => b.sub x (a.sub x h), ⟨m1 ++ m2, by rw [e2, e1, List.append_assoc]⟩, fun x o h s => b.keep x o (a.keep x o h s) (s.elim (fun z => .inl (a.sub x z)) .inr)⟩
section
variable {K : PySem.W.Frag} {ω ω' : Wd} {H H' : Hp}
theorem Ext.sqT (e : Ext ω H ω' H') {a : Addr} {vs : List V} (h : SqT K H a vs) : SqT K H' a vs := by
  rcases h with (h | ⟨o, h⟩) | h
  · exact .inl (.inl (e.keep _ _ h (.inr trivial)))
  · exact .inl (.inr ⟨o, e.keep _ _ h (.inr trivial)⟩)
  · exact .inr h
theorem Ext.roL (e : Ext ω H ω' H') {a : Addr} {vs : List V} (h : RoL K ω H a vs) : RoL K ω' H' a vs := by
  rcases h with ⟨s, h⟩ | ⟨o, h⟩ | h
  · exact .inl ⟨e.sub _ s, e.keep _ _ h (.inl s)⟩
  · exact .inr (.inl ⟨o, e.keep _ _ h (.inr trivial)⟩)
  · exact .inr (.inr h)
theorem prefix_get {α : Type} {xs more : List α} {k : Nat} {a : α} (h : xs[k]? = some a) : (xs ++ more)[k]? = some a := by
  have hk : k < xs.length := by
    rcases Nat.lt_or_ge k xs.length with z | z
    · exact z
    · rw [List.getElem?_eq_none z] at h; cases h
  rw [List.getElem?_append_left hk]; exact h
mutual
theorem Rep.mono (e : Ext ω H ω' H') : ∀ {v : V} {t : PV}, Rep K ω H v t → Rep K ω' H' v t
  | _, _, .non => .non
  | _, _, .bl b => .bl b
  | _, _, .int i => .int i
  | _, _, .str s => .str s
  | _, _, .tup h r => .tup (e.sqT h) (RepL.mono e r)
  | _, _, .lst s h r => .lst (e.sub _ s) (e.keep _ _ h (.inl s)) (RepL.mono e r)
  | _, _, .rol h r => .rol (e.roL h) (RepL.mono e r)
  | _, _, .dct h r => .dct (e.keep _ _ h (.inr trivial)) (RepL.mono e r)
  | _, _, .cell h => .cell (by obtain ⟨m, q⟩ := e.cs; rw [q]; exact prefix_get h)
theorem RepL.mono (e : Ext ω H ω' H') : ∀ {vs : List V} {ts : List PV}, RepL K ω H vs ts → RepL K ω' H' vs ts
  | _, _, .nil => .nil
  | _, _, .cons h r => .cons (Rep.mono e h) (RepL.mono e r)
end
theorem RepL.length : ∀ {vs : List V} {ts : List PV}, RepL K ω H vs ts → vs.length = ts.length
  | _, _, .nil => rfl
  | _, _, .cons _ r => congrArg (· + 1) r.length
theorem RepL.append : ∀ {vs ws : List V} {ts us : List PV}, RepL K ω H vs ts → RepL K ω H ws us → RepL K ω H (vs ++ ws) (ts ++ us)
  | _, _, _, _, .nil, s => s
  | _, _, _, _, .cons h r, s => .cons h (RepL.append r s)
theorem RepL.get : ∀ {vs : List V} {ts : List PV} {i : Nat} {t : PV}, RepL K ω H vs ts → ts[i]? = some t → ∃ v, vs[i]? = some v ∧ Rep K ω H v t
  | _, _, _, _, .nil, h => by simp at h
  | _, _, 0, _, .cons h r, e => by simp at e; subst e; exact ⟨_, rfl, h⟩
  | _, _, i + 1, t, .cons h r, e => by
    obtain ⟨v, a, b⟩ := RepL.get (i := i) (t := t) r (by simpa using e)
    exact ⟨v, by simpa using a, b⟩
theorem RepL.getV : ∀ {vs : List V} {ts : List PV} {i : Nat} {v : V}, RepL K ω H vs ts → vs[i]? = some v → ∃ t, ts[i]? = some t ∧ Rep K ω H v t
  | _, _, _, _, .nil, h => by simp at h
  | _, _, 0, _, .cons h r, e => by simp at e; subst e; exact ⟨_, rfl, h⟩
  | _, _, i + 1, v, .cons h r, e => by
    obtain ⟨t, a, b⟩ := RepL.getV (i := i) (v := v) r (by simpa using e)
    exact ⟨t, by simpa using a, b⟩
theorem RepL.drop : ∀ {vs : List V} {ts : List PV} (n : Nat), RepL K ω H vs ts → RepL K ω H (vs.drop n) (ts.drop n)
  | _, _, 0, r => r
  | _, _, _ + 1, .nil => .nil
  | _, _, n + 1, .cons _ r => RepL.drop n r
theorem RepL.take : ∀ {vs : List V} {ts : List PV} (n : Nat), RepL K ω H vs ts → RepL K ω H (vs.take n) (ts.take n)
  | _, _, 0, _ => .nil
  | _, _, _ + 1, .nil => .nil
  | _, _, n + 1, .cons h r => .cons h (RepL.take n r)
theorem RepL.set {v : V} {t : PV} (h : Rep K ω H v t) : ∀ {vs : List V} {ts : List PV} (n : Nat), RepL K ω H vs ts → RepL K ω H (vs.set n v) (ts.set n t)
  | _, _, _, .nil => .nil
  | _, _, 0, .cons _ r => .cons h r
  | _, _, n + 1, .cons q r => .cons q (RepL.set h n r)
theorem RepL.flat : ∀ (n : Nat) {vs : List V} {ts : List PV}, RepL K ω H vs ts → RepL K ω H (List.replicate n vs).flatten (List.replicate n ts).flatten
  | 0, _, _, _ => .nil
  | n + 1, _, _, r => by
    rw [List.replicate_succ, List.replicate_succ, List.flatten_cons, List.flatten_cons]
    exact r.append (RepL.flat n r)
mutual
theorem Rep.dp : ∀ {t : PV} {v : V} {d : PyData}, Rep K ω H v t → t.data = some d → Dp K H v d
  | .non, _, _, .non, e => by cases e; exact .non
  | .bl _, _, _, .bl b, e => by cases e; exact .bl b
  | .int _, _, _, .int i, e => by cases e; exact .int i
  | .str _, _, _, .str s, e => by cases e; exact .str s
  | .tup ts, _, d, .tup h r, e => by
    unfold PV.data at e
    cases q : PV.dataL ts with
    | none => rw [q] at e; cases e
    | some ds => rw [q] at e; cases e; exact .tup h (RepL.dp r q)
  | .lst ts, _, d, .lst s h r, e => by
    unfold PV.data at e
    cases q : PV.dataL ts with
    | none => rw [q] at e; cases e
    | some ds => rw [q] at e; cases e; exact .lst (.inl (.inl h)) (RepL.dp r q)
  | .rol ts, _, d, _, e => by unfold PV.data at e; cases e
  | .cell k, _, d, _, e => by unfold PV.data at e; cases e
  | .dct _ _, _, d, _, e => by unfold PV.data at e; cases e
theorem RepL.dp : ∀ {ts : List PV} {vs : List V} {ds : List PyData}, RepL K ω H vs ts → PV.dataL ts = some ds → DpAll K H vs ds
  | [], _, _, .nil, e => by cases e; exact .nil
  | t :: ts, _, ds, .cons h r, e => by
    unfold PV.dataL at e
    cases q1 : t.data with
    | none => rw [q1] at e; cases e
    | some d =>
      cases q2 : PV.dataL ts with
      | none => rw [q1, q2] at e; cases e
      | some ds' => rw [q1, q2] at e; cases e; exact .cons (Rep.dp h q1) (RepL.dp r q2)
end
end
/-! ### the state of a def's body -/
/-- at the entry: what stood still, the heap, the cells -/
structure Gh where
  S0 : Addr → Prop
  H0 : Hp
  cs0 : List Addr
structure CelOk (K : PySem.W.Frag) (ω : Wd) (st : Cel) (H : Hp) : Prop where
  len : ω.cs.length = st.length
  nd : ω.cs.Nodup
  out : ∀ a ∈ ω.cs, ¬ ω.S a
  trk : ∀ a, ω.S a → ∃ o, H a = some o
  at_ : ∀ (k : Nat) (a : Addr), ω.cs[k]? = some a → ∃ vs ts, st[k]? = some (PV.lst ts) ∧ H a = some (.lst vs) ∧ RepL K ω H vs ts
/-- a list that a name owns -/
def OwnAt (K : PySem.W.Frag) (ω : Wd) (H : Hp) (a : Addr) (t : PV) : Prop := ∃ vs ts, t = .lst ts ∧ H a = some (.lst vs) ∧ RepL K ω H vs ts
structure Rel (K : PySem.W.Frag) (g : Gh) (ω : Wd) (ρ : En) (st : Cel) (σ : St) (H : Hp) : Prop where
  len : σ.length = ρ.length
  val : ∀ (i : Nat) (t : PV), ρ[i]? = some (Slot.val t) → ∃ v, σ[i]? = some (some v) ∧ Rep K ω H v t
  own : ∀ (i : Nat) (t : PV), ρ[i]? = some (Slot.own t) → ∃ a, σ[i]? = some (some (V.ref a)) ∧ OwnAt K ω H a t ∧ ¬ ω.S a ∧ a ∉ ω.cs ∧ g.H0 a = none
  sep : ∀ (i j : Nat) (t u : PV) (a : Addr), ρ[i]? = some (Slot.own t) → ρ[j]? = some (Slot.own u) → σ[i]? = some (some (V.ref a)) → σ[j]? = some (some (V.ref a)) → i = j
  cells : CelOk K ω st H
  base : ∀ a o, g.H0 a = some o → a ∉ g.cs0 → H a = some o
  sub : ∀ a, g.S0 a → ω.S a
  new : ∀ a, ω.S a → g.S0 a ∨ g.H0 a = none
  csp : ∃ more, ω.cs = g.cs0 ++ more
  csn : ∀ a ∈ ω.cs, a ∈ g.cs0 ∨ g.H0 a = none
  cs0 : ∀ a ∈ g.cs0, ∃ o, g.H0 a = some o
/-- the heap grows: all that was tracked stays; what stands still now stood still or is new -/
structure Grow (ω : Wd) (H : Hp) (ω' : Wd) (H' : Hp) : Prop where
  keep : ∀ a o, H a = some o → H' a = some o
  sub : ∀ a, ω.S a → ω'.S a
  new : ∀ a, ω'.S a → ω.S a ∨ (H a = none ∧ ∃ o, H' a = some o)
  cs : ω'.cs = ω.cs
section
variable {K : PySem.W.Frag} {g : Gh} {ω ω' : Wd} {ρ : En} {st : Cel} {σ : St} {H H' : Hp}
theorem Grow.refl (ω : Wd) (H : Hp) : Grow ω H ω H := ⟨fun _ _ h => h, fun _ h => h, fun _ h => .inl h, rfl⟩
theorem Grow.ext (x : Grow ω H ω' H') : Ext ω H ω' H' := ⟨x.sub, ⟨[], by rw [x.cs]; simp⟩, fun a o h _ => x.keep a o h⟩
theorem Grow.trans {ω2 : Wd} {H2 : Hp} (x : Grow ω H ω' H') (y : Grow ω' H' ω2 H2) : Grow ω H ω2 H2 :=
  ⟨fun a o h => y.keep a o (x.keep a o h), fun a h => y.sub a (x.sub a h), fun a h => (y.new a h).elim (fun z => (x.new a z).imp id fun ⟨z1, o, z2⟩ => ⟨z1, o, y.keep a o z2⟩) (fun z => .inr ⟨(by
    cases q : H a with
    | none => rfl
    | some o =>
      have z1 := z.1
      rw [x.keep a o q] at z1
      cases z1), z.2⟩), y.cs.trans x.cs⟩
theorem CelOk.grow (c : CelOk K ω st H) (x : Grow ω H ω' H') : CelOk K ω' st H' := by
  refine ⟨by rw [x.cs]; exact c.len, by rw [x.cs]; exact c.nd, fun a ha h => ?_, fun a h => ?_, fun k a ha => ?_⟩
  · rw [x.cs] at ha
    rcases x.new a h with z | ⟨z, _⟩
    · exact c.out a ha z
    · obtain ⟨k, hk⟩ := List.getElem?_of_mem ha
      obtain ⟨vs, ts, _, q, _⟩ := c.at_ k a hk
      rw [q] at z; cases z
  · rcases x.new a h with z | ⟨_, z⟩
    · obtain ⟨o, q⟩ := c.trk a z
      exact ⟨o, x.keep a o q⟩
    · exact z
  · rw [x.cs] at ha
    obtain ⟨vs, ts, h1, h2, h3⟩ := c.at_ k a ha
    exact ⟨vs, ts, h1, x.keep _ _ h2, h3.mono x.ext⟩
theorem CelOk.lstAt (c : CelOk K ω st H) {a : Addr} (ha : a ∈ ω.cs) : ∃ vs, H a = some (.lst vs) := by
  obtain ⟨k, hk⟩ := List.getElem?_of_mem ha
  obtain ⟨vs, ts, _, q, _⟩ := c.at_ k a hk
  exact ⟨vs, q⟩
theorem Rel.none0 (r : Rel K g ω ρ st σ H) {a : Addr} (h : H a = none) : g.H0 a = none := by
  cases q : g.H0 a with
  | none => rfl
  | some o =>
    by_cases hc : a ∈ g.cs0
    · obtain ⟨m, e⟩ := r.csp
      obtain ⟨vs, z⟩ := r.cells.lstAt (a := a) (by rw [e]; exact List.mem_append_left _ hc)
      rw [h] at z; cases z
    · rw [r.base a o q hc] at h; cases h
theorem Rel.grow (r : Rel K g ω ρ st σ H) (x : Grow ω H ω' H') : Rel K g ω' ρ st σ H' := by
  refine ⟨r.len, fun i t h => ?_, fun i t h => ?_, r.sep, r.cells.grow x, fun a o h hc => x.keep _ _ (r.base a o h hc), fun a h => x.sub a (r.sub a h), fun a h => ?_, by rw [x.cs]; exact r.csp, by rw [x.cs]; exact r.csn, r.cs0⟩
  · obtain ⟨v, e, q⟩ := r.val i t h
    exact ⟨v, e, q.mono x.ext⟩
  · obtain ⟨a, e, ⟨vs, ts, e1, e2, e3⟩, ns, nc, n0⟩ := r.own i t h
    refine ⟨a, e, ⟨vs, ts, e1, x.keep _ _ e2, e3.mono x.ext⟩, fun z => ?_, by rw [x.cs]; exact nc, n0⟩
    rcases x.new a z with z | ⟨z, _⟩
    · exact ns z
    · rw [e2] at z; cases z
  · rcases x.new a h with z | ⟨z, _⟩
    · exact r.new a z
    · exact .inr (r.none0 z)
/-- a new object -/
def Wd.add (ω : Wd) (p : Addr) : Wd := ⟨fun a => ω.S a ∨ a = p, ω.cs⟩
theorem Grow.upd {p : Addr} {o : HO} (h : H p = none) : Grow ω H ω (upd H p o) := ⟨fun a u e => by rw [upd_ne (ne_of_none e h)]; exact e, fun _ z => z, fun _ z => .inl z, rfl⟩
theorem Grow.add {p : Addr} {o : HO} (h : H p = none) : Grow ω H (ω.add p) (L2.upd H p o) := ⟨fun a u e => by rw [upd_ne (ne_of_none e h)]; exact e, fun _ z => .inl z, fun a z => z.imp id fun e => by rw [e]; exact ⟨h, _, upd_same⟩, rfl⟩
end
end Ev
namespace Ev
open PySem L2
/-- an expression's step: all but the cells stays -/
structure ExtE (ω : Wd) (H : Hp) (ω' : Wd) (H' : Hp) : Prop where
  sub : ∀ a, ω.S a → ω'.S a
  cs : ∃ more, ω'.cs = ω.cs ++ more
  keep : ∀ a o, H a = some o → a ∉ ω.cs → H' a = some o
  newS : ∀ a, ω'.S a → ω.S a ∨ H a = none
  newC : ∀ a ∈ ω'.cs, a ∈ ω.cs ∨ H a = none
  there : ∀ a o, H a = some o → ∃ o', H' a = some o'
section
variable {K : PySem.W.Frag} {g : Gh} {ω ω' ω1 ω2 : Wd} {ρ : En} {st st' : Cel} {σ : St} {H H' H1 H2 : Hp}
theorem ExtE.refl (ω : Wd) (H : Hp) : ExtE ω H ω H := ⟨fun _ h => h, ⟨[], by simp⟩, fun _ _ h _ => h, fun _ h => .inl h, fun _ h => .inl h, fun _ o h => ⟨o, h⟩⟩
theorem ExtE.none (x : ExtE ω H ω1 H1) {a : Addr} (h : H1 a = none) : H a = none := by
  cases q : H a with
  | none => rfl
  | some o =>
    obtain ⟨o', e⟩ := x.there a o q
    rw [h] at e; cases e
theorem ExtE.trans (x : ExtE ω H ω1 H1) (y : ExtE ω1 H1 ω2 H2) : ExtE ω H ω2 H2 := by
  obtain ⟨m1, e1⟩ := x.cs
  obtain ⟨m2, e2⟩ := y.cs
  refine ⟨fun a h => y.sub a (x.sub a h), ⟨m1 ++ m2, by rw [e2, e1, List.append_assoc]⟩, fun a o h n => y.keep a o (x.keep a o h n) fun z => ?_, fun a h => ?_, fun a h => ?_, fun a o h => ?_⟩
  · rcases x.newC a z with z | z
    · exact n z
    · rw [h] at z; cases z
  · rcases y.newS a h with z | z
    · exact x.newS a z
    · exact .inr (x.none z)
  · rcases y.newC a h with z | z
    · exact x.newC a z
    · exact .inr (x.none z)
  · obtain ⟨o1, h1⟩ := x.there a o h
    exact y.there a o1 h1
theorem ExtE.ext (x : ExtE ω H ω' H') (c : CelOk K ω st H) : Ext ω H ω' H' := ⟨x.sub, x.cs, fun a o h s => x.keep a o h fun z => by
  rcases s with s | s
  · exact c.out a z s
  · obtain ⟨vs, q⟩ := c.lstAt z
    rw [h] at q; cases q; exact s⟩
theorem Grow.toE (x : Grow ω H ω' H') : ExtE ω H ω' H' := ⟨x.sub, ⟨[], by rw [x.cs]; simp⟩, fun a o h _ => x.keep a o h, fun a h => (x.new a h).imp id (·.1), fun a h => .inl (by rw [x.cs] at h; exact h), fun a o h => ⟨o, x.keep a o h⟩⟩
theorem Rel.extE (r : Rel K g ω ρ st σ H) (x : ExtE ω H ω' H') (c : CelOk K ω' st' H') : Rel K g ω' ρ st' σ H' := by
  have e := x.ext r.cells
  refine ⟨r.len, fun i t h => ?_, fun i t h => ?_, r.sep, c, fun a o h hc => x.keep _ _ (r.base a o h hc) fun z => ?_, fun a h => x.sub a (r.sub a h), fun a h => ?_, ?_, fun a h => ?_, r.cs0⟩
  · obtain ⟨v, e1, q⟩ := r.val i t h
    exact ⟨v, e1, q.mono e⟩
  · obtain ⟨a, e0, ⟨vs, ts, e1, e2, e3⟩, ns, nc, n0⟩ := r.own i t h
    refine ⟨a, e0, ⟨vs, ts, e1, x.keep _ _ e2 nc, e3.mono e⟩, fun z => ?_, fun z => ?_, n0⟩
    · rcases x.newS a z with z | z
      · exact ns z
      · rw [e2] at z; cases z
    · rcases x.newC a z with z | z
      · exact nc z
      · rw [e2] at z; cases z
  · rcases r.csn a z with z | z
    · exact hc z
    · rw [h] at z; cases z
  · rcases x.newS a h with z | z
    · exact r.new a z
    · exact .inr (r.none0 z)
  · obtain ⟨m1, e1⟩ := r.csp
    obtain ⟨m2, e2⟩ := x.cs
    exact ⟨m1 ++ m2, by rw [e2, e1, List.append_assoc]⟩
  · rcases x.newC a h with z | z
    · exact r.csn a z
    · exact .inr (r.none0 z)
/-- a value; where b, also a list that a name owns, to be read -/
def RepM (K : PySem.W.Frag) (b : Bool) (ω : Wd) (H : Hp) (v : V) (t : PV) : Prop := Rep K ω H v t ∨ (b = true ∧ ∃ a, v = .ref a ∧ OwnAt K ω H a t ∧ a ∉ ω.cs)
theorem RepM.of {b : Bool} {v : V} {t : PV} (h : Rep K ω H v t) : RepM K b ω H v t := .inl h
theorem RepM.rep {v : V} {t : PV} (h : RepM K false ω H v t) : Rep K ω H v t := h.elim id fun z => by simp at z
theorem RepM.extE {b : Bool} {v : V} {t : PV} (h : RepM K b ω H v t) (x : ExtE ω H ω' H') (c : CelOk K ω st H) : RepM K b ω' H' v t := by
  rcases h with h | ⟨hb, a, e, ⟨vs, ts, e1, e2, e3⟩, nc⟩
  · exact .inl (h.mono (x.ext c))
  · refine .inr ⟨hb, a, e, ⟨vs, ts, e1, x.keep _ _ e2 nc, e3.mono (x.ext c)⟩, fun z => ?_⟩
    rcases x.newC a z with z | z
    · exact nc z
    · rw [e2] at z; cases z
end
/-! ### readings -/
abbrev Wx := EX → Gh → Wd → En → Cel → St → Hp → Prop
abbrev RX (α β : Type) := Wd → Hp → β → α → Prop
def postG {α β : Type} (P : RX α β) (K : PySem.W.Frag) (g : Gh) (ω : Wd) (ρ : En) (σ : St) (H : Hp) (W : Wx) (r : R α) (Q : β → Hp → Prop) : Prop := match r with
  | .ok t st' => ∀ x H' ω', ExtE ω H ω' H' → CelOk K ω' st' H' → P ω' H' x t → Q x H'
  | .exc e st' => ∀ H' ω', ExtE ω H ω' H' → CelOk K ω' st' H' → W e g ω' ρ st' σ H'
  | .bad => False
def tG {α β : Type} (P : RX α β) (K : PySem.W.Frag) (W : Wx) (f : En → Cel → R α) : St → Hp → (β → Hp → Prop) → Prop := fun σ H Q => ∃ g ω ρ st, Rel K g ω ρ st σ H ∧ postG P K g ω ρ σ H W (f ρ st) Q
/-- an expression, an argument list, a test, a slice's part -/
abbrev tv (K : PySem.W.Frag) (b : Bool) (W : Wx) (f : En → Cel → R PV) : TE := tG (RepM K b) K W f
abbrev tvs (K : PySem.W.Frag) (W : Wx) (f : En → Cel → R (List PV)) : TA := tG (RepL K) K W f
def RBB : RX Bool Bool := fun _ _ x t => t = x
abbrev tvbb (K : PySem.W.Frag) (W : Wx) (f : En → Cel → R Bool) : TT := tG RBB K W f
def RO : RX (Option Int) (Option Int) := fun _ _ x t => t = x
abbrev tvo (K : PySem.W.Frag) (W : Wx) (f : En → Cel → R (Option Int)) : TO := tG RO K W f
section
variable {K : PySem.W.Frag} {g : Gh} {ω ω' : Wd} {ρ : En} {st st' : Cel} {σ : St} {H H' : Hp} {W : Wx}
theorem postG.ext {α β : Type} {P : RX α β} {r : R α} {Q : β → Hp → Prop} (h : postG P K g ω ρ σ H W r Q) (x : ExtE ω H ω' H') : postG P K g ω' ρ σ H' W r Q := by
  cases r with
  | ok t s => exact fun y H2 ω2 x2 c p => h y H2 ω2 (x.trans x2) c p
  | exc e s => exact fun H2 ω2 x2 c => h H2 ω2 (x.trans x2) c
  | bad => exact h
theorem bindG {α α2 β β2 : Type} {P : RX α β} {P2 : RX α2 β2} {f : En → Cel → R α} {k : α → Cel → R α2} {Q : β2 → Hp → Prop} (r : Rel K g ω ρ st σ H) (h : postG P2 K g ω ρ σ H W ((f ρ st).bind k) Q) :
    tG P K W f σ H (fun x H1 => ∃ ω1 st1 t, ExtE ω H ω1 H1 ∧ Rel K g ω1 ρ st1 σ H1 ∧ P ω1 H1 x t ∧ postG P2 K g ω1 ρ σ H1 W (k t st1) Q) := by
  refine ⟨g, ω, ρ, st, r, ?_⟩
  cases e : f ρ st with
  | ok t s =>
    rw [e] at h
    exact fun x H1 ω1 x1 c p => ⟨ω1, s, t, x1, r.extE x1 c, p, postG.ext h x1⟩
  | exc x s => rw [e] at h; exact h
  | bad => rw [e] at h; exact h
theorem tG.mono {α β : Type} {P : RX α β} {f : En → Cel → R α} {Q Q' : β → Hp → Prop} (h : tG P K W f σ H Q) (i : ∀ x H, Q x H → Q' x H) : tG P K W f σ H Q' := by
  obtain ⟨g, ω, ρ, st, r, h⟩ := h
  refine ⟨g, ω, ρ, st, r, ?_⟩
  cases e : f ρ st with
  | ok t s => rw [e] at h; exact fun x H' ω' y c p => i _ _ (h x H' ω' y c p)
  | exc x s => rw [e] at h; exact h
  | bad => rw [e] at h; exact h
/-- from a plain answer -/
theorem postOk {α β : Type} {P : RX α β} {t : α} {Q : β → Hp → Prop} (r : Rel K g ω ρ st σ H) (h : postG P K g ω ρ σ H W (.ok t st) Q) {x : β} (p : P ω H x t) : Q x H := h x H ω (ExtE.refl ω H) r.cells p
theorem postGrow {α β : Type} {P : RX α β} {t : α} {Q : β → Hp → Prop} (r : Rel K g ω ρ st σ H) (h : postG P K g ω ρ σ H W (.ok t st) Q) (w : Grow ω H ω' H') {x : β} (p : P ω' H' x t) : Q x H' := h x H' ω' w.toE (r.cells.grow w) p
end
theorem wPE {X : Cx} {e : Expr} {t t' : TE} (h : PE X e t) (i : ∀ σ H Q, t' σ H Q → t σ H Q) : PE X e t' := ⟨fun pins s σ H Q I q => h.run pins s σ H Q I (i _ _ _ q)⟩
theorem wPT {X : Cx} {e : Expr} {t t' : TT} (h : PT X e t) (i : ∀ σ H Q, t' σ H Q → t σ H Q) : PT X e t' := ⟨fun pins s σ H Q I q => h.run pins s σ H Q I (i _ _ _ q)⟩
theorem wPA {X : Cx} {e : List Expr} {t t' : TA} (h : PA X e t) (i : ∀ σ H Q, t' σ H Q → t σ H Q) : PA X e t' := ⟨fun pos pins s σ H Q I q => h.run pos pins s σ H Q I (i _ _ _ q)⟩
theorem wPO {X : Cx} {e : Option Expr} {t t' : TO} (h : PO X e t) (i : ∀ σ H Q, t' σ H Q → t σ H Q) : PO X e t' := ⟨fun pins s σ H Q I q => h.run pins s σ H Q I (i _ _ _ q)⟩
theorem wPTs {X : Cx} {e : List Expr} {t t' : TT} (h : PTs X e t) (i : ∀ σ H Q, t' σ H Q → t σ H Q) : PTs X e t' := ⟨fun pins s σ H Q I q => h.run pins s σ H Q I (i _ _ _ q)⟩
/-! ### one operand, two operands: by values -/
def VR1 (K : PySem.W.Frag) (b : Bool) (r : V → Hp → VK → Prop) (v : Cel → PV → Option PV) : Prop := ∀ (st : Cel) (x : V) (t z : PV) (ω : Wd) (H : Hp) (Q : VK), CelOk K ω st H → RepM K b ω H x t → v st t = some z →
  (∀ y H' ω', Grow ω H ω' H' → Rep K ω' H' y z → Q y H') → r x H Q
def VR2 (K : PySem.W.Frag) (b b' : Bool) (r : R2) (v : Cel → PV → PV → Option PV) : Prop := ∀ (st : Cel) (x y : V) (t u z : PV) (ω : Wd) (H : Hp) (Q : VK), CelOk K ω st H → RepM K b ω H x t → RepM K b' ω H y u → v st t u = some z →
  (∀ y H' ω', Grow ω H ω' H' → Rep K ω' H' y z → Q y H') → r x y H Q
section
variable {X : Cx} {W : Wx} {e a b : Expr}
theorem of_post {K : PySem.W.Frag} {g : Gh} {ω : Wd} {ρ : En} {st : Cel} {σ : St} {H : Hp} {o : Option PV} {Q : VK} {b : Bool} (r : Rel K g ω ρ st σ H) (h : postG (RepM K b) K g ω ρ σ H W (R.of o st) Q) :
    ∃ z, o = some z ∧ ∀ y H' ω', Grow ω H ω' H' → Rep K ω' H' y z → Q y H' := by
  cases o with
  | none => exact h.elim
  | some z => exact ⟨z, rfl, fun y H' ω' w p => postGrow r h w (.inl p)⟩
theorem se1 {f : En → Cel → R PV} {r : V → Hp → VK → Prop} {v : Cel → PV → Option PV} {ba bz : Bool} (hpe : ∀ ta, PE X a ta → PE X e (tUn r ta)) (ha : PE X a (tv X.K ba W f)) (hv : VR1 X.K ba r v) :
    PE X e (tv X.K bz W fun ρ st => (f ρ st).bind fun x st => R.of (v st x) st) := by
  refine wPE (hpe _ ha) fun σ H Q ⟨g, ω, ρ, st, rel, h⟩ => (bindG (P := RepM X.K ba) rel h).mono fun x H1 ⟨ω1, st1, t, x1, rel1, p, q⟩ => ?_
  obtain ⟨z, ez, qz⟩ := of_post rel1 q
  exact hv st1 x t z ω1 H1 Q rel1.cells p ez qz
theorem se2 {f f' : En → Cel → R PV} {r : R2} {v : Cel → PV → PV → Option PV} {ba bb bz : Bool} (hpe : ∀ ta tb, PE X a ta → PE X b tb → PE X e (tOp r ta tb)) (ha : PE X a (tv X.K ba W f)) (hb : PE X b (tv X.K bb W f')) (hv : VR2 X.K ba bb r v) :
    PE X e (tv X.K bz W fun ρ st => (f ρ st).bind fun x st => (f' ρ st).bind fun y st => R.of (v st x y) st) := by
  refine wPE (hpe _ _ ha hb) fun σ H Q ⟨g, ω, ρ, st, rel, h⟩ => (bindG (P := RepM X.K ba) rel h).mono fun x H1 ⟨ω1, st1, t, x1, rel1, p, q⟩ => ?_
  refine (bindG (P := RepM X.K bb) (f := f') rel1 q).mono fun y H2 ⟨ω2, st2, u, x2, rel2, p2, q2⟩ => ?_
  obtain ⟨z, ez, qz⟩ := of_post rel2 q2
  exact hv st2 x y t u z ω2 H2 Q rel2.cells (p.extE x2 rel1.cells) p2 ez qz
/-- and, or, a if t else b -/
theorem se_var {i : Nat} {bz : Bool} (h : PE X e (tVar i)) : PE X e (tv X.K bz W fun ρ st => match ρ[i]? with
    | some (Slot.val v) => R.ok v st
    | _ => .bad) := by
  refine wPE h fun σ H Q ⟨g, ω, ρ, st, rel, q⟩ => ?_
  dsimp only at q
  cases e1 : ρ[i]? with
  | none => rw [e1] at q; exact q.elim
  | some s =>
    cases s with
    | emp => rw [e1] at q; exact q.elim
    | own t => rw [e1] at q; exact q.elim
    | val t =>
      rw [e1] at q
      obtain ⟨v, hv, rv⟩ := rel.val i t e1
      exact ⟨v, hv, postOk rel q (.inl rv)⟩
theorem se_bor {i : Nat} (h : PE X e (tVar i)) : PE X e (tv X.K true W fun ρ st => match ρ[i]? with
    | some (Slot.own v) => R.ok v st
    | some (Slot.val v) => R.ok v st
    | _ => .bad) := by
  refine wPE h fun σ H Q ⟨g, ω, ρ, st, rel, q⟩ => ?_
  dsimp only at q
  cases e1 : ρ[i]? with
  | none => rw [e1] at q; exact q.elim
  | some s =>
    cases s with
    | emp => rw [e1] at q; exact q.elim
    | own t =>
      rw [e1] at q
      obtain ⟨a, hv, rv, ns, nc, n0⟩ := rel.own i t e1
      exact ⟨.ref a, hv, postOk rel q (.inr ⟨rfl, a, rfl, rv, nc⟩)⟩
    | val t =>
      rw [e1] at q
      obtain ⟨v, hv, rv⟩ := rel.val i t e1
      exact ⟨v, hv, postOk rel q (.inl rv)⟩
theorem se_c {v : V} {t : PV} {bz : Bool} (hv : ∀ ω H, Rep X.K ω H v t) (h : PE X e (tC v)) : PE X e (tv X.K bz W fun _ st => .ok t st) :=
  wPE h fun σ H Q ⟨g, ω, ρ, st, rel, q⟩ => postOk rel q (.inl (hv ω H))
theorem se_and {f f' : En → Cel → R PV} {bz : Bool} (hpe : ∀ ta tb, PE X a ta → PE X b tb → PE X e (tAndV ta tb)) (ha : PE X a (tv X.K false W f)) (hb : PE X b (tv X.K bz W f')) :
    PE X e (tv X.K bz W fun ρ st => (f ρ st).bind fun x st => match x with
      | .bl true => f' ρ st
      | .bl false => .ok (.bl false) st
      | _ => .bad) := by
  refine wPE (hpe _ _ ha hb) fun σ H Q ⟨g, ω, ρ, st, rel, h⟩ => (bindG (P := RepM X.K false) rel h).mono fun x H1 ⟨ω1, st1, t, x1, rel1, p, q⟩ => ?_
  cases p.rep with
  | bl c =>
    cases c with
    | true => exact ⟨true, rfl, ⟨g, ω1, ρ, st1, rel1, q⟩⟩
    | false => exact ⟨false, rfl, postOk rel1 q (.inl (.bl false))⟩
  | _ => exact q.elim
theorem se_or {f f' : En → Cel → R PV} {bz : Bool} (hpe : ∀ ta tb, PE X a ta → PE X b tb → PE X e (tOrV ta tb)) (ha : PE X a (tv X.K false W f)) (hb : PE X b (tv X.K bz W f')) :
    PE X e (tv X.K bz W fun ρ st => (f ρ st).bind fun x st => match x with
      | .bl true => .ok (.bl true) st
      | .bl false => f' ρ st
      | _ => .bad) := by
  refine wPE (hpe _ _ ha hb) fun σ H Q ⟨g, ω, ρ, st, rel, h⟩ => (bindG (P := RepM X.K false) rel h).mono fun x H1 ⟨ω1, st1, t, x1, rel1, p, q⟩ => ?_
  cases p.rep with
  | bl c =>
    cases c with
    | true => exact ⟨true, rfl, postOk rel1 q (.inl (.bl true))⟩
    | false => exact ⟨false, rfl, ⟨g, ω1, ρ, st1, rel1, q⟩⟩
  | _ => exact q.elim
/-- a test's answer -/
def asB (f : En → Cel → R PV) : En → Cel → R Bool := fun ρ st => (f ρ st).bind fun x st => R.of (blV x) st
theorem R.bind_asB {α : Type} (r : R PV) (k1 k2 : Cel → R α) : r.bind (fun x st => match x with
    | .bl true => k1 st
    | .bl false => k2 st
    | _ => .bad) = (r.bind fun x st => R.of (blV x) st).bind fun b st => if b then k1 st else k2 st := by
  cases r with
  | ok x st => cases x <;> try rfl
               rename_i b; cases b <;> rfl
  | exc e st => rfl
  | bad => rfl
theorem se_ite {c : Expr} {ft f f' : En → Cel → R PV} {bz : Bool} (hpe : ∀ tt ta tb, PT X c tt → PE X a ta → PE X b tb → PE X e (tIf tt ta tb)) (hc : PT X c (tvbb X.K W (asB ft))) (ha : PE X a (tv X.K bz W f)) (hb : PE X b (tv X.K bz W f')) :
    PE X e (tv X.K bz W fun ρ st => (ft ρ st).bind fun x st => match x with
      | .bl true => f ρ st
      | .bl false => f' ρ st
      | _ => .bad) := by
  refine wPE (hpe _ _ _ hc ha hb) fun σ H Q ⟨g, ω, ρ, st, rel, h⟩ => ?_
  dsimp only at h
  rw [R.bind_asB (ft ρ st) (fun st => f ρ st) (fun st => f' ρ st)] at h
  refine (bindG (P := RBB) (f := asB ft) rel h).mono fun x H1 ⟨ω1, st1, t, x1, rel1, p, q⟩ => ?_
  cases (show t = x from p)
  cases x with
  | true => exact ⟨g, ω1, ρ, st1, rel1, q⟩
  | false => exact ⟨g, ω1, ρ, st1, rel1, q⟩
/-! ### argument lists -/
theorem sa_nil : PA X [] (tvs X.K W fun _ st => .ok [] st) := wPA pa_nil fun σ H Q ⟨g, ω, ρ, st, rel, q⟩ => postOk rel q .nil
theorem sa_cons {es : List Expr} {f : En → Cel → R PV} {f' : En → Cel → R (List PV)} (hpa : ∀ ta tb, PE X a ta → PA X es tb → PA X (a :: es) (tCons ta tb)) (ha : PE X a (tv X.K false W f)) (hb : PA X es (tvs X.K W f')) :
    PA X (a :: es) (tvs X.K W fun ρ st => (f ρ st).bind fun x st => (f' ρ st).bind fun xs st => .ok (x :: xs) st) := by
  refine wPA (hpa _ _ ha hb) fun σ H Q ⟨g, ω, ρ, st, rel, h⟩ => (bindG (P := RepM X.K false) rel h).mono fun x H1 ⟨ω1, st1, t, x1, rel1, p, q⟩ => ?_
  refine (bindG (P := RepL X.K) (f := f') rel1 q).mono fun y H2 ⟨ω2, st2, u, x2, rel2, p2, q2⟩ => ?_
  exact postOk rel2 q2 (.cons (p.extE x2 rel1.cells).rep p2)
theorem sa_star {es : List Expr} {ae : Expr} {f : En → Cel → R PV} {f' : En → Cel → R (List PV)} (hpa : ∀ ta tb, PE X a ta → PA X es tb → PA X (ae :: es) (StX.tStar X.K ta tb)) (ha : PE X a (tv X.K true W f)) (hb : PA X es (tvs X.K W f')) :
    PA X (ae :: es) (tvs X.K W fun ρ st => (f ρ st).bind fun x st => match x with
      | .tup ys => (f' ρ st).bind fun xs st => .ok (ys ++ xs) st
      | .lst ys => (f' ρ st).bind fun xs st => .ok (ys ++ xs) st
      | _ => .bad) := by
  refine wPA (hpa _ _ ha hb) fun σ H Q ⟨g, ω, ρ, st, rel, h⟩ => (bindG (P := RepM X.K true) rel h).mono fun x H1 ⟨ω1, st1, t, x1, rel1, p, q⟩ => ?_
  rcases p with p | ⟨_, a, e1, ⟨vs, ts, e2, e3, e4⟩, nc⟩
  · cases p with
    | tup hs hr =>
      refine ⟨_, _, rfl, .inl hs, (bindG (P := RepL X.K) (f := f') rel1 q).mono fun y H2 ⟨ω2, st2, u, x2, rel2, p2, q2⟩ => ?_⟩
      exact postOk rel2 q2 ((hr.mono (x2.ext rel1.cells)).append p2)
    | lst hs hh hr =>
      refine ⟨_, _, rfl, .inr (.inl (.inl hh)), (bindG (P := RepL X.K) (f := f') rel1 q).mono fun y H2 ⟨ω2, st2, u, x2, rel2, p2, q2⟩ => ?_⟩
      exact postOk rel2 q2 ((hr.mono (x2.ext rel1.cells)).append p2)
    | _ => exact q.elim
  · subst e1 e2
    refine ⟨_, _, rfl, .inr (.inl (.inl e3)), (bindG (P := RepL X.K) (f := f') rel1 q).mono fun y H2 ⟨ω2, st2, u, x2, rel2, p2, q2⟩ => ?_⟩
    exact postOk rel2 q2 ((e4.mono (x2.ext rel1.cells)).append p2)
theorem szOk_le {n : Nat} (h : szOk n = true) : n ≤ sizeLine := of_decide_eq_true h
theorem se_tup {es : List Expr} {f : En → Cel → R (List PV)} {bz : Bool} (hpe : ∀ ta, PA X es ta → PE X e (tTup ta)) (ha : PA X es (tvs X.K W f)) :
    PE X e (tv X.K bz W fun ρ st => (f ρ st).bind fun xs st => if szOk xs.length then .ok (.tup xs) st else .bad) := by
  refine wPE (hpe _ ha) fun σ H Q ⟨g, ω, ρ, st, rel, h⟩ => (bindG (P := RepL X.K) rel h).mono fun xs H1 ⟨ω1, st1, ts, x1, rel1, p, q⟩ => ?_
  by_cases hz : szOk ts.length = true
  · rw [if_pos hz] at q
    refine ⟨by rw [p.length]; exact szOk_le hz, fun p' hp => ?_⟩
    exact postGrow rel1 q (Grow.upd hp) (.inl (.tup (.inl (.inl upd_same)) (p.mono (Grow.upd hp).ext)))
  · rw [if_neg hz] at q; exact q.elim
end
end Ev
set_option maxHeartbeats 4000000
namespace Ev
open PySem PySem.Spec PyProof.Rows L2
/-! tuple * 1: the tuple itself -/
theorem mul_one_meets (l : Addr) (its : Array Value) (n : Nat) (dd : Option Addr) (sl : Array (Option Value)) (u : Tok) :
    Meets (Builtin.«tuple.__mul__» ⟨[.ref l, .int 1 u], []⟩)
      (fun _ R s => s.heap.get? l = some { cls := .type "tuple", dict := dd, data := .seq its n, slots := sl } ∧ R (.ok (.ret (Value.ref l))) s) :=
  .of_wp fun prog w A R s h => by
    obtain ⟨hp, g, d, tk, os⟩ := s
    obtain ⟨hl, h⟩ := h
    have f1 := AutoSeq1.idx_int
    have c1 : (its.isEmpty || (1 : Int) == 1) = true := by simp
    wp_walk using wpAny_loadPart' hl
    exact ⟨_, rfl, h⟩
def rRepT1 (K : PySem.W.Frag) : R2 := fun x y H Q => ∃ l xs, x = .ref l ∧ y = .int 1 ∧ SqT K H l xs ∧ Q (.ref l) H
theorem op_repT1 {X : Cx} : OpR X (binaryOp .Mult) (rRepT1 X.K) := by
  intro pins s σ H x y v u Q I rx ry ⟨l, xs, ex, ey, hT, q⟩
  subst ex ey
  obtain ⟨t, rfl⟩ := ry
  cases rx
  obtain ⟨its, r, ⟨⟨cls, dd, data, sl⟩, ho, hc, n, hd⟩, hs⟩ := I.tuple hT
  obtain rfl : cls = .type "tuple" := hc
  obtain rfl : data = .seq its.toArray n := hd
  have step : wpAny (model X.prog X.w) X.A (call (.builtin "tuple.__mul__") [.ref l, .int 1 t]) (EP X pins σ Q) X.xe s :=
    call_meets F.slot_tuple_mul ⟨_, ho, rfl⟩ F.entry_tuple_mul (F.args_tuple_mul_2 _ _) (mul_one_meets l its.toArray n dd sl t) ⟨ho, ⟨.ref l, H, I, rfl, q⟩⟩
  refine wpAny_binaryOp_repeat_ref (T := "tuple") (U := "int") (by decide) ⟨_, ho, rfl⟩ (fun s' => typeIs_int s' 1 t) noFill_tuple_mul F.fills_int_mul F.slot_int_rmul repeat_tuple F.slot_int_index.lookup ?_
  exact call_meets F.slot_int_rmul (typeIs_int s 1 t) F.entry_int_rmul (F.args_int_rmul_2 _ _) (int_rmul_tuple 1 t l its.toArray n dd sl) ⟨ho, rfl, ⟨_, ho, rfl⟩, step⟩
end Ev
namespace Ev
open PySem L2
section
variable {K : PySem.W.Frag} {ω : Wd} {H : Hp} {x y : V} {ts us : List PV} {b : Bool}
theorem RepM.lst (h : RepM K b ω H x (.lst ts)) : ∃ a vs, x = .ref a ∧ H a = some (.lst vs) ∧ RepL K ω H vs ts := by
  rcases h with h | ⟨_, a, e, ⟨vs, ts', e1, e2, e3⟩, _⟩
  · cases h with
    | lst s h r => exact ⟨_, _, rfl, h, r⟩
  · cases e1; exact ⟨a, vs, e, e2, e3⟩
theorem RepM.tup (h : RepM K b ω H x (.tup ts)) : ∃ a vs, x = .ref a ∧ SqT K H a vs ∧ RepL K ω H vs ts := by
  rcases h with h | ⟨_, a, e, ⟨vs, ts', e1, e2, e3⟩, _⟩
  · cases h with
    | tup h r => exact ⟨_, _, rfl, h, r⟩
  · cases e1
theorem RepM.rol (h : RepM K b ω H x (.rol ts)) : ∃ a vs, x = .ref a ∧ SqL K H a vs ∧ RepL K ω H vs ts := by
  rcases h with h | ⟨_, a, e, ⟨vs, ts', e1, e2, e3⟩, _⟩
  · cases h with
    | rol h r => exact ⟨_, _, rfl, h.sq, r⟩
  · cases e1
theorem RepM.int {i : Int} (h : RepM K b ω H x (.int i)) : x = .int i := by
  rcases h with h | ⟨_, a, e, ⟨vs, ts', e1, e2, e3⟩, _⟩
  · cases h; rfl
  · cases e1
theorem RepM.bl {i : Bool} (h : RepM K b ω H x (.bl i)) : x = .bl i := by
  rcases h with h | ⟨_, a, e, ⟨vs, ts', e1, e2, e3⟩, _⟩
  · cases h; rfl
  · cases e1
theorem RepM.str {i : Str} (h : RepM K b ω H x (.str i)) : x = .str i := by
  rcases h with h | ⟨_, a, e, ⟨vs, ts', e1, e2, e3⟩, _⟩
  · cases h; rfl
  · cases e1
theorem RepM.cell {k : Nat} (h : RepM K b ω H x (.cell k)) : ∃ a, x = .ref a ∧ ω.cs[k]? = some a := by
  rcases h with h | ⟨_, a, e, ⟨vs, ts', e1, e2, e3⟩, _⟩
  · cases h with
    | cell h => exact ⟨_, rfl, h⟩
  · cases e1
theorem RepM.dp {t : PV} {d : PyData} (h : RepM K b ω H x t) (e : t.data = some d) : Dp K H x d := by
  rcases h with h | ⟨_, a, e0, ⟨vs, ts', e1, e2, e3⟩, _⟩
  · exact h.dp e
  · subst e0 e1
    unfold PV.data at e
    cases q : PV.dataL ts' with
    | none => rw [q] at e; cases e
    | some ds => rw [q] at e; cases e; exact .lst (.inl (.inl e2)) (e3.dp q)
theorem RepL.atI {vs : List V} {i : Int} {t : PV} (r : RepL K ω H vs ts) (h : atI ts i = some t) : ∃ v, atI vs i = some v ∧ Rep K ω H v t := by
  unfold L2.atI at h ⊢
  rw [r.length]
  cases q : ixN ts.length i with
  | none => rw [q] at h; cases h
  | some j => rw [q] at h; exact r.get h
/-- a new list, a new tuple -/
theorem newTup {vs : List V} {Q : VK} (r : RepL K ω H vs ts) (h : ∀ y H' ω', Grow ω H ω' H' → Rep K ω' H' y (.tup ts) → Q y H') : ∀ p, H p = none → Q (.ref p) (upd H p (.tup vs)) :=
  fun p hp => h _ _ ω (Grow.upd hp) (.tup (.inl (.inl upd_same)) (r.mono (Grow.upd hp).ext))
theorem newLst {vs : List V} {Q : VK} (r : RepL K ω H vs ts) (h : ∀ y H' ω', Grow ω H ω' H' → Rep K ω' H' y (.lst ts) → Q y H') : ∀ p, H p = none → Q (.ref p) (upd H p (.lst vs)) :=
  fun p hp => h _ _ (ω.add p) (Grow.add hp) (.lst (.inr rfl) upd_same (r.mono (Grow.add hp).ext))
end
section
variable {K : PySem.W.Frag} {b b' : Bool}
theorem op_add_bi {X : Cx} : OpR X (binaryOp .Add) (fun x y H Q => ∃ (k : Bool) (j : Int), x = .bl k ∧ y = .int j ∧ Q (.int ((if k then 1 else 0) + j)) H) := by
  intro pins s σ H x y v u Q I rx ry h
  obtain ⟨k, j, rfl, rfl, q⟩ := h
  obtain ⟨t, rfl⟩ := ry
  cases rx
  exact PySem.IntBool.add_bool_int ⟨.int _, H, I.tok _, ⟨_, rfl⟩, q⟩
theorem foldl_size {α : Type} : ∀ (n : Nat) (x acc : Array α), ((List.replicate n x).foldl (· ++ ·) acc).size = acc.size + n * x.size
  | 0, x, acc => by simp
  | n + 1, x, acc => by
    rw [List.replicate_succ, List.foldl_cons, foldl_size n x (acc ++ x), Array.size_append, Nat.add_mul]
    omega
theorem op_repS {X : Cx} : OpR X (binaryOp .Mult) (fun x y H Q => ∃ (z : Str) (k : Int), x = .str z ∧ y = .int k ∧ 2 ≤ k ∧ k ≤ 100000 ∧ z.length ≠ 0 ∧ z.length * k.toNat ≤ sizeLine ∧ Q (.str (repS k.toNat z)) H) := by
  intro pins s σ H x y v u Q I rx ry h
  obtain ⟨z, k, rfl, rfl, h1, h2, h3, h4, q⟩ := h
  obtain ⟨t, rfl⟩ := rx
  obtain ⟨t', rfl⟩ := ry
  have hz : z.length ≤ z.length * k.toNat := Nat.le_mul_of_pos_right _ (by omega)
  have hs : sizeLine < 2 ^ 40 := by rw [sizeLine_eq]; decide
  refine P.mul_str (by
    rw [decide_eq_false (by omega), decide_eq_false (by omega)]; rfl) (fun _ _ => ?_) (fun _ _ => ?_) ?_
  · intro hh
    have e1 : (2 ^ 63 - 1 : Int) / 100000 ≤ (2 ^ 63 - 1) / k := Int.le_ediv_of_mul_le (by omega) (by
      have : (2 ^ 63 - 1 : Int) / 100000 * k ≤ (2 ^ 63 - 1 : Int) / 100000 * 100000 := Int.mul_le_mul_of_nonneg_left h2 (by decide)
      have e2 : (2 ^ 63 - 1 : Int) / 100000 * 100000 ≤ 2 ^ 63 - 1 := by decide
      omega)
    have e3 : (2 ^ 46 : Int) ≤ (2 ^ 63 - 1) / 100000 := by decide
    have e4 : (z.length : Int) < 2 ^ 40 := by
      have : z.length < 2 ^ 40 := by omega
      exact_mod_cast this
    omega
  · exact decide_eq_false (by omega)
  · rw [if_neg (by omega), if_neg (by
      intro hh
      rw [Bool.or_eq_true] at hh
      rcases hh with hh | hh
      · have := eq_of_beq hh; omega
      · exact h3 (eq_of_beq hh))]
    exact ⟨by show (repS k.toNat z).length ≤ _; show ((List.replicate k.toNat z.cps).foldl (· ++ ·) #[]).size ≤ _; rw [foldl_size, Nat.mul_comm]; show 0 + z.length * k.toNat ≤ _; omega, ⟨.str _, H, I.tok _, ⟨_, rfl⟩, q⟩⟩
abbrev rAddS : R2 := fun x y H Q => ∃ i j, x = .str i ∧ y = .str j ∧ i.length + j.length ≤ sizeLine ∧ Q (.str (i ++ j)) H
abbrev rAddV (K : PySem.W.Frag) : R2 := fun x y H Q => rI0 (fun i j => .int (i + j)) x y H Q ∨ (rCat x y H Q ∨ (rCatA K x y H Q ∨ (rAddS x y H Q ∨ ∃ (k : Bool) (j : Int), x = .bl k ∧ y = .int j ∧ Q (.int ((if k then 1 else 0) + j)) H)))
abbrev rMulV (K : PySem.W.Frag) : R2 := fun x y H Q => rI CMul (fun i j => .int (i * j)) x y H Q ∨ (rRep x y H Q ∨ (rRepT K x y H Q ∨ (rRepT1 K x y H Q ∨ ∃ (z : Str) (k : Int), x = .str z ∧ y = .int k ∧ 2 ≤ k ∧ k ≤ 100000 ∧ z.length ≠ 0 ∧ z.length * k.toNat ≤ sizeLine ∧ Q (.str (repS k.toNat z)) H)))
def rBin (K : PySem.W.Frag) : BOp → R2
  | .add => rAddV K
  | .sub => rI0 fun i j => .int (i - j)
  | .mul => rMulV K
  | .fdiv => rI CDivN fun i j => .int (i.fdiv j)
  | .mod => rI (fun _ j => j ≠ 0) fun i j => .int (i.fmod j)
  | .pow => rI CPow fun i j => .int (i ^ j.toNat)
def opB : BOp → Operator
  | .add => .Add | .sub => .Sub | .mul => .Mult | .fdiv => .FloorDiv | .mod => .Mod | .pow => .Pow
theorem opr_bin {X : Cx} : ∀ op, OpR X (binaryOp (opB op)) (rBin X.K op)
  | .add => op_add.or (op_cat.or (op_catA.or (op_add_str.or op_add_bi)))
  | .sub => op_sub
  | .mul => op_mul.or (op_rep.or (op_repT.or (op_repT1.or op_repS)))
  | .fdiv => op_fdivN
  | .mod => op_modN
  | .pow => op_pow
theorem vr_bin (op : BOp) : VR2 K b b' (rBin K op) (fun _ => binV op) := by
  intro st x y t u z ω H Q c hx hy hv q
  dsimp only at hv
  unfold binV at hv
  split at hv
  · cases hv
    exact .inl ⟨_, _, hx.int, hy.int, q _ _ ω (Grow.refl ω H) (.int _)⟩
  · rename_i xs ys
    split at hv
    · rename_i hz
      cases hv
      exact .inr (.inr (.inr (.inl ⟨_, _, hx.str, hy.str, szOk_le hz, q _ _ ω (Grow.refl ω H) (.str _)⟩)))
    · cases hv
  · rename_i xs ys
    split at hv
    · rename_i hz
      cases hv
      obtain ⟨a, vs, rfl, ha, ra⟩ := hx.lst
      obtain ⟨a', vs', rfl, ha', ra'⟩ := hy.lst
      exact .inr (.inl ⟨a, a', vs, vs', rfl, rfl, ha, ha', by rw [ra.length, ra'.length]; exact szOk_le hz, newLst (ra.append ra') q⟩)
    · cases hv
  · rename_i xs ys
    split at hv
    · rename_i hz
      cases hv
      obtain ⟨a, vs, rfl, ha, ra⟩ := hx.tup
      obtain ⟨a', vs', rfl, ha', ra'⟩ := hy.tup
      refine .inr (.inr (.inl ⟨a, a', vs, vs', rfl, rfl, ha, ha', by rw [ra.length, ra'.length]; exact szOk_le hz, fun e => ?_, fun _ e => ?_, fun _ _ => newTup (ra.append ra') q⟩))
      · subst e; cases ra; exact q _ _ ω (Grow.refl ω H) (.tup ha' ra')
      · subst e; cases ra'; rw [List.append_nil] at q; exact q _ _ ω (Grow.refl ω H) (.tup ha ra)
    · cases hv
  · cases hv
    exact ⟨_, _, hx.int, hy.int, q _ _ ω (Grow.refl ω H) (.int _)⟩
  · split at hv
    · rename_i hz
      cases hv
      refine .inl ⟨_, _, hx.int, hy.int, ?_, q _ _ ω (Grow.refl ω H) (.int _)⟩
      simpa [CMul] using hz
    · cases hv
  · rename_i xs k
    split at hv
    · rename_i hz
      cases hv
      obtain ⟨a, vs, rfl, ha, ra⟩ := hx.lst
      simp only [Bool.and_eq_true, decide_eq_true_eq] at hz
      exact .inr (.inl ⟨a, k, vs, rfl, hy.int, ha, hz.1.1, hz.1.2, by rw [ra.length]; exact szOk_le hz.2, newLst (ra.flat _) q⟩)
    · cases hv
  · rename_i xs k
    split at hv
    · rename_i hz
      cases hv
      obtain ⟨a, vs, rfl, ha, ra⟩ := hx.tup
      simp only [Bool.and_eq_true, decide_eq_true_eq, Bool.not_eq_true'] at hz
      by_cases hk : k = 1
      · subst hk
        refine .inr (.inr (.inr (.inl ⟨a, vs, rfl, hy.int, ha, q _ _ ω (Grow.refl ω H) (.tup ha ?_)⟩)))
        simpa using ra
      · refine .inr (.inr (.inl ⟨a, k, vs, rfl, hy.int, ha, ?_, by have := hz.1.1.1; omega, hz.1.1.2, by rw [ra.length]; exact hz.1.2, newTup (ra.flat _) q⟩))
        rintro rfl
        cases ra
        simp at hz
    · cases hv
  · split at hv
    · rename_i hz
      cases hv
      exact ⟨_, _, hx.int, hy.int, hz, q _ _ ω (Grow.refl ω H) (.int _)⟩
    · cases hv
  · split at hv
    · rename_i hz
      cases hv
      exact ⟨_, _, hx.int, hy.int, hz, q _ _ ω (Grow.refl ω H) (.int _)⟩
    · cases hv
  · split at hv
    · rename_i hz
      cases hv
      exact ⟨_, _, hx.int, hy.int, hz, q _ _ ω (Grow.refl ω H) (.int _)⟩
    · cases hv
  · cases hv
    exact .inr (.inr (.inr (.inr ⟨_, _, hx.bl, hy.int, q _ _ ω (Grow.refl ω H) (.int _)⟩)))
  · split at hv
    · rename_i hz
      cases hv
      simp only [Bool.and_eq_true, decide_eq_true_eq] at hz
      exact .inr (.inr (.inr (.inr ⟨_, _, hx.str, hy.int, hz.1.1.1, hz.1.1.2, hz.1.2, szOk_le hz.2, q _ _ ω (Grow.refl ω H) (.str _)⟩)))
    · cases hv
  · cases hv
/-! comparisons -/
abbrev rIsN' : R2 := fun x y H Q => y = .non ∧ Q (.bl (decide (x = .non))) H
abbrev rNotN' : R2 := fun x y H Q => y = .non ∧ Q (.bl (!decide (x = .non))) H
abbrev rLtS : R2 := fun x y H Q => ∃ i j, x = .str i ∧ y = .str j ∧ Q (.bl (decide (i.cps.toList < j.cps.toList))) H
abbrev rLeS : R2 := fun x y H Q => ∃ i j, x = .str i ∧ y = .str j ∧ Q (.bl (!decide (j.cps.toList < i.cps.toList))) H
abbrev rInC : R2 := fun x y H Q => ∃ (c : Nat) (z : Str), x = .str ⟨#[c]⟩ ∧ y = .str z ∧ Q (.bl (decide (c ∈ z.cps.toList))) H
abbrev rNinC : R2 := fun x y H Q => ∃ (c : Nat) (z : Str), x = .str ⟨#[c]⟩ ∧ y = .str z ∧ Q (.bl (!decide (c ∈ z.cps.toList))) H
def rCmp (K : PySem.W.Frag) : COp → R2
  | .lt => fun x y H Q => rI0 (fun i j => .bl (decide (i < j))) x y H Q ∨ (rLtS x y H Q ∨ rLtT K x y H Q)
  | .le => fun x y H Q => rI0 (fun i j => .bl (decide (i ≤ j))) x y H Q ∨ (rLeS x y H Q ∨ rLeT K x y H Q)
  | .gt => rI0 fun i j => .bl (decide (j < i))
  | .ge => rI0 fun i j => .bl (decide (j ≤ i))
  | .eq => fun x y H Q => rEqD K x y H Q ∨ rEq x y H Q
  | .ne => fun x y H Q => rNeD K x y H Q ∨ rNe x y H Q
  | .in_ => fun x y H Q => rInD K x y H Q ∨ (rIn K false x y H Q ∨ rInC x y H Q)
  | .nin => fun x y H Q => rNotInD K x y H Q ∨ (rIn K true x y H Q ∨ rNinC x y H Q)
  | .isN => rIsN'
  | .notN => rNotN'
def opC : COp → CmpOp
  | .lt => .Lt | .le => .LtE | .gt => .Gt | .ge => .GtE | .eq => .Eq | .ne => .NotEq | .in_ => .In | .nin => .NotIn | .isN => .Is | .notN => .IsNot
theorem opr_cmp {X : Cx} (hu : X.A.units + 65 < cLine) : ∀ op, OpR X (compareOp (opC op)) (rCmp X.K op)
  | .lt => op_lt.or (op_lt_str.or (op_ltT (by omega)))
  | .le => op_le.or (op_le_str.or (op_leT (by omega)))
  | .gt => op_gt
  | .ge => op_ge
  | .eq => (op_eqD (by omega)).or op_eq
  | .ne => (op_neD (by omega)).or op_ne
  | .in_ => (op_inD hu).or (op_in_seq.or op_in_sign)
  | .nin => (op_notInD hu).or (op_notIn_seq.or op_notIn_sign)
  | .isN => op_isN
  | .notN => op_notN
theorem eqD_some {t u : PV} {k : Bool} (h : eqD t u = some k) : ∃ d e, t.data = some d ∧ u.data = some e ∧ SeqAt.shaped d = true ∧ SeqAt.shaped e = true ∧ k = PyData.eqv d e := by
  unfold eqD at h
  split at h
  · rename_i d e hd he
    split at h
    · rename_i hz
      simp only [Bool.and_eq_true] at hz
      exact ⟨d, e, hd, he, hz.1, hz.2, (Option.some.inj h).symm⟩
    · cases h
  · cases h
theorem RepM.isN {ω : Wd} {H : Hp} {x : V} {t : PV} (h : RepM K b ω H x t) : decide (x = .non) = t.isNone := by
  rcases h with h | ⟨_, a, e, ⟨vs, ts', e1, e2, e3⟩, _⟩
  · cases h <;> simp [PV.isNone]
  · subst e e1; simp [PV.isNone]
theorem RepM.non {ω : Wd} {H : Hp} {x : V} (h : RepM K b ω H x .non) : x = .non := by
  rcases h with h | ⟨_, a, e, ⟨vs, ts', e1, e2, e3⟩, _⟩
  · cases h; rfl
  · cases e1
theorem scalE_v {ω : Wd} {H : Hp} {x y : V} {t u : PV} {k : Bool} (hx : RepM K b ω H x t) (hy : RepM K b' ω H y u) (h : scalE t u = some k) : scal x y = true ∧ decide (x = y) = k := by
  unfold scalE at h
  split at h
  · cases h; rw [hx.str, hy.str]; exact ⟨rfl, by simp⟩
  · cases h; rw [hx.str, hy.int]; exact ⟨rfl, by simp⟩
  · cases h; rw [hx.int, hy.str]; exact ⟨rfl, by simp⟩
  · cases h; rw [hx.str, hy.bl]; exact ⟨rfl, by simp⟩
  · cases h; rw [hx.bl, hy.str]; exact ⟨rfl, by simp⟩
  · cases h; rw [hx.str, hy.non]; exact ⟨rfl, by simp⟩
  · cases h; rw [hx.non, hy.str]; exact ⟨rfl, by simp⟩
  · cases h
theorem eqV_way {ω : Wd} {H : Hp} {x y : V} {t u : PV} {k : Bool} (hx : RepM K b ω H x t) (hy : RepM K b' ω H y u) (h : eqV t u = some k) : (∃ d e, Dp K H x d ∧ Dp K H y e ∧ SeqAt.shaped d = true ∧ SeqAt.shaped e = true ∧ k = PyData.eqv d e) ∨ (scal x y = true ∧ decide (x = y) = k) := by
  unfold eqV at h
  cases e : scalE t u with
  | some k' => rw [e] at h; cases h; exact .inr (scalE_v hx hy e)
  | none =>
    rw [e] at h
    obtain ⟨d, d', h1, h2, h3, h4, rfl⟩ := eqD_some h
    exact .inl ⟨d, d', hx.dp h1, hy.dp h2, h3, h4, rfl⟩
theorem flatP_v {ω : Wd} {H : Hp} {x : V} {t : PV} {v : V} (hx : RepM K b ω H x t) (h : flatP t = some v) : x = v ∧ flatV v = true := by
  cases t with
  | non => cases h; exact ⟨hx.non, rfl⟩
  | bl k => cases h; exact ⟨hx.bl, rfl⟩
  | int i => cases h; exact ⟨hx.int, rfl⟩
  | str s => cases h; exact ⟨hx.str, rfl⟩
  | _ => cases h
theorem flatPs_v {ω : Wd} {H : Hp} : ∀ {ts : List PV} {xs vs : List V}, RepL K ω H xs ts → flatPs ts = some vs → xs = vs ∧ vs.all flatV = true
  | [], _, _, .nil, h => by cases h; exact ⟨rfl, rfl⟩
  | t :: ts, _, vs, .cons hx r, h => by
    unfold flatPs at h
    cases q1 : flatP t with
    | none => rw [q1] at h; cases h
    | some v =>
      cases q2 : flatPs ts with
      | none => rw [q1, q2] at h; cases h
      | some ws =>
        rw [q1, q2] at h
        cases h
        obtain ⟨rfl, f1⟩ := flatP_v (b := false) (.inl hx) q1
        obtain ⟨rfl, f2⟩ := flatPs_v r q2
        exact ⟨rfl, by rw [List.all_cons, f1, f2]; rfl⟩
theorem inV_way {ω : Wd} {H : Hp} {x y : V} {t u : PV} {k : Bool} (hx : RepM K b ω H x t) (hy : RepM K b' ω H y u) (h : inV t u = some k) :
    (∃ d ds, Dp K H x d ∧ Dp K H y (.list ds) ∧ SeqAt.shaped d = true ∧ SeqAt.shaped (.list ds) = true ∧ k = ds.any fun z => PyData.eqv z d) ∨
    (∃ p xs, y = .ref p ∧ (SqL K H p xs ∨ SqT K H p xs) ∧ flatV x = true ∧ xs.all flatV = true ∧ k = L2.inV x xs) ∨
    (∃ (c : Nat) (z : Str), x = .str ⟨#[c]⟩ ∧ y = .str z ∧ k = decide (c ∈ z.cps.toList)) := by
  unfold inV at h
  split at h
  · rename_i xs
    split at h
    · rename_i d ds h1 h2
      unfold inL at h
      split at h
      · rename_i hz
        cases h
        simp only [Bool.and_eq_true] at hz
        exact .inl ⟨d, ds, hx.dp h1, hy.dp (by rw [PV.data, h2]; rfl), hz.1, hz.2, rfl⟩
      · cases h
    · cases h
  · rename_i xs
    split at h
    · rename_i v vs h1 h2
      cases h
      obtain ⟨a, ws, rfl, ha, ra⟩ := hy.tup
      obtain ⟨rfl, f1⟩ := flatP_v hx h1
      obtain ⟨rfl, f2⟩ := flatPs_v ra h2
      exact .inr (.inl ⟨a, _, rfl, .inr ha, f1, f2, rfl⟩)
    · cases h
  · rename_i z
    split at h
    · rename_i s
      split at h
      · rename_i c hc
        cases h
        refine .inr (.inr ⟨c, z, ?_, hy.str, rfl⟩)
        rw [hx.str]
        have : s.cps = #[c] := by
          have := congrArg List.toArray hc
          simpa using this
        cases s
        simp at this
        rw [this]
      · cases h
    · cases h
  · cases h
theorem intsP_v {ω : Wd} {H : Hp} : ∀ {ts : List PV} {xs : List V} {ns : List Int}, RepL K ω H xs ts → intsP ts = some ns → xs = ns.map V.int
  | [], _, _, .nil, h => by cases h; rfl
  | t :: ts, _, ns, .cons hx r, h => by
    cases t with
    | int i =>
      rw [intsP] at h
      cases q : intsP ts with
      | none => rw [q] at h; cases h
      | some ms =>
        rw [q] at h
        cases h
        cases hx
        rw [intsP_v r q]
        rfl
    | _ => cases h
theorem cmpT_way {ω : Wd} {H : Hp} {x y : V} {f : List Int → List Int → Bool} {ts us : List PV} {z : PV} (hx : RepM K b ω H x (.tup ts)) (hy : RepM K b' ω H y (.tup us)) (h : (cmpT f ts us).map PV.bl = some z) :
    ∃ a b ns ms, x = .ref a ∧ y = .ref b ∧ SqT K H a (ns.map V.int) ∧ SqT K H b (ms.map V.int) ∧ z = .bl (f ns ms) := by
  obtain ⟨a, vs, rfl, ha, ra⟩ := hx.tup
  obtain ⟨a', vs', rfl, ha', ra'⟩ := hy.tup
  unfold cmpT at h
  cases q1 : intsP ts with
  | none => rw [q1] at h; cases h
  | some ns =>
    cases q2 : intsP us with
    | none => rw [q1, q2] at h; cases h
    | some ms =>
      rw [q1, q2] at h
      cases h
      have e1 := intsP_v ra q1
      have e2 := intsP_v ra' q2
      subst e1 e2
      exact ⟨a, a', ns, ms, rfl, rfl, ha, ha', rfl⟩
theorem vr_cmp (op : COp) : VR2 K b b' (rCmp K op) (fun _ x y => (cmpV op x y).map .bl) := by
  intro st x y t u z ω H Q c hx hy hv q
  dsimp only at hv
  unfold cmpV at hv
  split at hv
  · cases hv; exact .inl ⟨_, _, hx.int, hy.int, q _ _ ω (Grow.refl ω H) (.bl _)⟩
  · cases hv; exact .inl ⟨_, _, hx.int, hy.int, q _ _ ω (Grow.refl ω H) (.bl _)⟩
  · cases hv; exact ⟨_, _, hx.int, hy.int, q _ _ ω (Grow.refl ω H) (.bl _)⟩
  · cases hv; exact ⟨_, _, hx.int, hy.int, q _ _ ω (Grow.refl ω H) (.bl _)⟩
  · cases hv; exact .inr (.inl ⟨_, _, hx.str, hy.str, q _ _ ω (Grow.refl ω H) (.bl _)⟩)
  · cases hv; exact .inr (.inl ⟨_, _, hx.str, hy.str, q _ _ ω (Grow.refl ω H) (.bl _)⟩)
  · obtain ⟨a, b, ns, ms, e1, e2, h1, h2, rfl⟩ := cmpT_way hx hy hv
    exact .inr (.inr ⟨a, b, ns, ms, e1, e2, h1, h2, q _ _ ω (Grow.refl ω H) (.bl _)⟩)
  · obtain ⟨a, b, ns, ms, e1, e2, h1, h2, rfl⟩ := cmpT_way hx hy hv
    exact .inr (.inr ⟨a, b, ns, ms, e1, e2, h1, h2, q _ _ ω (Grow.refl ω H) (.bl _)⟩)
  · cases e : eqV t u with
    | none => rw [e] at hv; cases hv
    | some k =>
      rw [e] at hv
      cases hv
      rcases eqV_way hx hy e with ⟨d, d', h1, h2, h3, h4, rfl⟩ | ⟨h1, rfl⟩
      · exact .inl ⟨d, d', h1, h2, h3, h4, q _ _ ω (Grow.refl ω H) (.bl _)⟩
      · exact .inr ⟨h1, q _ _ ω (Grow.refl ω H) (.bl _)⟩
  · cases e : eqV t u with
    | none => rw [e] at hv; cases hv
    | some k =>
      rw [e] at hv
      cases hv
      rcases eqV_way hx hy e with ⟨d, d', h1, h2, h3, h4, rfl⟩ | ⟨h1, rfl⟩
      · exact .inl ⟨d, d', h1, h2, h3, h4, q _ _ ω (Grow.refl ω H) (.bl _)⟩
      · exact .inr ⟨h1, q _ _ ω (Grow.refl ω H) (.bl _)⟩
  · cases e : inV t u with
    | none => rw [e] at hv; cases hv
    | some k =>
      rw [e] at hv
      cases hv
      rcases inV_way hx hy e with ⟨d, ds, h1, h2, h3, h4, rfl⟩ | ⟨p, xs, h1, h2, h3, h4, rfl⟩ | ⟨c, z, h1, h2, rfl⟩
      · exact .inl ⟨d, ds, h1, h2, h3, h4, q _ _ ω (Grow.refl ω H) (.bl _)⟩
      · exact .inr (.inl ⟨p, xs, h1, h2, h3, h4, q _ _ ω (Grow.refl ω H) (.bl _)⟩)
      · exact .inr (.inr ⟨c, z, h1, h2, q _ _ ω (Grow.refl ω H) (.bl _)⟩)
  · cases e : inV t u with
    | none => rw [e] at hv; cases hv
    | some k =>
      rw [e] at hv
      cases hv
      rcases inV_way hx hy e with ⟨d, ds, h1, h2, h3, h4, rfl⟩ | ⟨p, xs, h1, h2, h3, h4, rfl⟩ | ⟨c, z, h1, h2, rfl⟩
      · exact .inl ⟨d, ds, h1, h2, h3, h4, q _ _ ω (Grow.refl ω H) (.bl _)⟩
      · exact .inr (.inl ⟨p, xs, h1, h2, h3, h4, q _ _ ω (Grow.refl ω H) (.bl _)⟩)
      · exact .inr (.inr ⟨c, z, h1, h2, q _ _ ω (Grow.refl ω H) (.bl _)⟩)
  · cases hv
    exact ⟨hy.non, by rw [hx.isN]; exact q _ _ ω (Grow.refl ω H) (.bl _)⟩
  · cases hv
    exact ⟨hy.non, by rw [hx.isN]; exact q _ _ ω (Grow.refl ω H) (.bl _)⟩
  · cases hv
end
end Ev
namespace Ev
open PySem L2
section
variable {K : PySem.W.Frag} {b b' : Bool}
def rC1 (r : List V → Hp → VK → Prop) : V → Hp → VK → Prop := fun x H Q => r [x] H Q
theorem vr_neg : VR1 K b (rU fun i => .int (-i)) (fun _ => negV) := by
  intro st x t z ω H Q c hx hv q
  dsimp only at hv
  unfold negV at hv
  split at hv
  · cases hv; exact ⟨_, hx.int, q _ _ ω (Grow.refl ω H) (.int _)⟩
  · cases hv
/-- len of a list, a tuple, a text -/
abbrev rLenV (K : PySem.W.Frag) : List V → Hp → VK → Prop := fun xs H Q => (∃ p ys, xs = [.ref p] ∧ (SqL K H p ys ∨ SqT K H p ys) ∧ Q (.int ys.length) H) ∨ (∃ z, xs = [.str z] ∧ z.length ≤ sizeLine ∧ Q (.int z.length) H)
theorem CallR.or {X : Cx} {f : Value} {r r' : List V → Hp → VK → Prop} (h : CallR X f r) (h' : CallR X f r') : CallR X f (fun xs H Q => r xs H Q ∨ r' xs H Q) := by
  intro pins s σ H xs us Q I rx q
  rcases q with q | q
  · exact h pins s σ H xs us Q I rx q
  · exact h' pins s σ H xs us Q I rx q
theorem cr_lenV {X : Cx} : CallR X (.builtin "len") (rLenV X.K) := CallR.or call_len_seq call_len_str
theorem vr_len : VR1 K true (rC1 (rLenV K)) (fun _ => lenV) := by
  intro st x t z ω H Q c hx hv q
  dsimp only at hv
  unfold lenV at hv
  split at hv
  · cases hv
    obtain ⟨a, vs, rfl, ha, ra⟩ := hx.lst
    exact .inl ⟨a, vs, rfl, .inl (.inl (.inl ha)), by rw [ra.length]; exact q _ _ ω (Grow.refl ω H) (.int _)⟩
  · cases hv
    obtain ⟨a, vs, rfl, ha, ra⟩ := hx.tup
    exact .inl ⟨a, vs, rfl, .inr ha, by rw [ra.length]; exact q _ _ ω (Grow.refl ω H) (.int _)⟩
  · cases hv
    obtain ⟨a, vs, rfl, ha, ra⟩ := hx.rol
    exact .inl ⟨a, vs, rfl, .inl ha, by rw [ra.length]; exact q _ _ ω (Grow.refl ω H) (.int _)⟩
  · split at hv
    · rename_i hz
      cases hv
      exact .inr ⟨_, by rw [hx.str], szOk_le hz, q _ _ ω (Grow.refl ω H) (.int _)⟩
    · cases hv
  · cases hv
theorem vr_toInt : VR1 K b (rC1 (fun xs H Q => (∃ i, xs = [.int i] ∧ Q (.int i) H) ∨ ∃ k, xs = [.bl k] ∧ Q (.int (if k then 1 else 0)) H)) (fun _ => toIntV) := by
  intro st x t z ω H Q c hx hv q
  dsimp only at hv
  unfold toIntV at hv
  split at hv
  · cases hv; exact .inl ⟨_, by rw [hx.int], q _ _ ω (Grow.refl ω H) (.int _)⟩
  · cases hv; exact .inr ⟨_, by rw [hx.bl], q _ _ ω (Grow.refl ω H) (.int _)⟩
  · cases hv
theorem allB_some {ω : Wd} {H : Hp} : ∀ {ts : List PV} {vs : List V} {bs : List Bool}, allB ts = some bs → RepL K ω H vs ts → vs = bs.map V.bl
  | [], _, _, h, .nil => by cases h; rfl
  | .bl c :: ts, _, bs, h, .cons r rs => by
    unfold allB at h
    cases e : allB ts with
    | none => rw [e] at h; cases h
    | some bs' =>
      rw [e] at h
      cases h
      cases r
      rw [allB_some e rs]
      rfl
  | .non :: _, _, _, h, _ => by cases h
  | .int _ :: _, _, _, h, _ => by cases h
  | .str _ :: _, _, _, h, _ => by cases h
  | .tup _ :: _, _, _, h, _ => by cases h
  | .lst _ :: _, _, _, h, _ => by cases h
  | .rol _ :: _, _, _, h, _ => by cases h
  | .cell _ :: _, _, _, h, _ => by cases h
  | .dct _ _ :: _, _, _, h, _ => by cases h
theorem vr_all : VR1 K true (rC1 (rAll K)) (fun _ => allV) := by
  intro st x t z ω H Q c hx hv q
  dsimp only at hv
  unfold allV at hv
  split at hv
  · rename_i xs
    obtain ⟨a, vs, rfl, ha, ra⟩ := hx.lst
    cases e : allB xs with
    | none => rw [e] at hv; cases hv
    | some bs =>
      rw [e] at hv
      cases hv
      have e2 := allB_some e ra
      subst e2
      exact ⟨a, bs, rfl, .inl (.inl ha), q _ _ ω (Grow.refl ω H) (.bl _)⟩
  · cases hv
/-! subscripts -/
theorem vr_ix : VR2 K true b' (rIx K) (fun st => ixV st) := by
  intro st x y t u z ω H Q c hx hy hv q
  dsimp only at hv
  unfold ixV at hv
  split at hv
  · obtain ⟨a, vs, rfl, ha, ra⟩ := hx.lst
    obtain ⟨v, e, rv⟩ := ra.atI hv
    exact .inl ⟨a, vs, _, v, rfl, hy.int, .inl (.inl ha), e, q _ _ ω (Grow.refl ω H) rv⟩
  · obtain ⟨a, vs, rfl, ha, ra⟩ := hx.tup
    obtain ⟨v, e, rv⟩ := ra.atI hv
    exact .inr (.inl ⟨a, vs, _, v, rfl, hy.int, ha, e, q _ _ ω (Grow.refl ω H) rv⟩)
  · obtain ⟨a, vs, rfl, ha, ra⟩ := hx.rol
    obtain ⟨v, e, rv⟩ := ra.atI hv
    exact .inl ⟨a, vs, _, v, rfl, hy.int, ha, e, q _ _ ω (Grow.refl ω H) rv⟩
  · rename_i k i
    obtain ⟨a, rfl, ha⟩ := hx.cell
    obtain ⟨vs, ts, h1, h2, ra⟩ := c.at_ k a ha
    rw [h1] at hv
    obtain ⟨v, e, rv⟩ := ra.atI hv
    exact .inl ⟨a, vs, _, v, rfl, hy.int, .inl (.inl h2), e, q _ _ ω (Grow.refl ω H) rv⟩
  · rename_i z i
    split at hv
    · rename_i hz
      cases e : atI z.cps.toList i with
      | none => rw [e] at hv; cases hv
      | some k =>
        rw [e] at hv
        cases hv
        exact .inr (.inr ⟨z, i, k, hx.str, hy.int, szOk_le hz, e, q _ _ ω (Grow.refl ω H) (.str _)⟩)
    · cases hv
  · cases hv
theorem cut_len {α β : Type} {xs : List α} {ys : List β} (h : xs.length = ys.length) (lo hi : Option Int) : HT.sIx xs.length 0 lo = HT.sIx ys.length 0 lo ∧ HT.sIx xs.length xs.length hi = HT.sIx ys.length ys.length hi := by rw [h]; exact ⟨rfl, rfl⟩
theorem RepL.cut {ω : Wd} {H : Hp} {vs : List V} {ts : List PV} (r : RepL K ω H vs ts) (lo hi : Option Int) : RepL K ω H (cutV vs lo hi) (cutP ts lo hi) := by
  unfold cutV cutP
  rw [r.length]
  exact (r.drop _).take _
/-! isinstance -/
def tyS : Ty → String
  | .int => "int" | .bool => "bool" | .str => "str" | .tuple => "tuple" | .list => "list"
end
/-! fresh lists -/
def FreshP (K : PySem.W.Frag) (H : Hp) (ω' : Wd) (H' : Hp) (v : V) (t : PV) : Prop := ∃ p vs ts, v = .ref p ∧ t = .lst ts ∧ H p = none ∧ H' p = some (.lst vs) ∧ ¬ ω'.S p ∧ p ∉ ω'.cs ∧ RepL K ω' H' vs ts
def postF (K : PySem.W.Frag) (g : Gh) (ω : Wd) (ρ : En) (σ : St) (H : Hp) (W : Wx) (r : R PV) (Q : VK) : Prop := match r with
  | .ok t st' => ∀ x H' ω', ExtE ω H ω' H' → CelOk K ω' st' H' → FreshP K H ω' H' x t → Q x H'
  | .exc e st' => ∀ H' ω', ExtE ω H ω' H' → CelOk K ω' st' H' → W e g ω' ρ st' σ H'
  | .bad => False
def tvF (K : PySem.W.Frag) (W : Wx) (f : En → Cel → R PV) : TE := fun σ H Q => ∃ g ω ρ st, Rel K g ω ρ st σ H ∧ postF K g ω ρ σ H W (f ρ st) Q
section
variable {K : PySem.W.Frag} {g : Gh} {ω ω' : Wd} {ρ : En} {st st' : Cel} {σ : St} {H H' : Hp} {W : Wx} {X : Cx} {e a b : Expr}
theorem CelOk.add {p : Addr} {o : HO} (c : CelOk K ω st H) (h : p ∉ ω.cs) (hp : H p = some o) : CelOk K (ω.add p) st H := by
  have x : Ext ω H (ω.add p) H := ⟨fun _ z => .inl z, ⟨[], by simp [Wd.add]⟩, fun _ _ z _ => z⟩
  refine ⟨c.len, c.nd, fun a ha z => ?_, fun a z => ?_, fun k a ha => ?_⟩
  · rcases z with z | z
    · exact c.out a ha z
    · exact h (z ▸ ha)
  · rcases z with z | z
    · exact c.trk a z
    · rw [z]; exact ⟨o, hp⟩
  · obtain ⟨vs, ts, h1, h2, h3⟩ := c.at_ k a ha
    exact ⟨vs, ts, h1, h2, h3.mono x⟩
theorem FreshP.rep {v : V} {t : PV} (h : FreshP K H ω' H' v t) (x : ExtE ω H ω' H') (c : CelOk K ω' st' H') : ∃ ω2, ExtE ω H ω2 H' ∧ CelOk K ω2 st' H' ∧ Rep K ω2 H' v t := by
  obtain ⟨p, vs, ts, rfl, rfl, h1, h2, h3, h4, h5⟩ := h
  have y : Ext ω' H' (ω'.add p) H' := ⟨fun _ z => .inl z, ⟨[], by simp [Wd.add]⟩, fun _ _ z _ => z⟩
  refine ⟨ω'.add p, ⟨fun a z => .inl (x.sub a z), x.cs, x.keep, fun a z => ?_, x.newC, x.there⟩, c.add h4 h2, .lst (.inr rfl) h2 (h5.mono y)⟩
  rcases z with z | z
  · exact x.newS a z
  · rw [z]; exact .inr h1
/-- a fresh list as a value -/
theorem v_of_F {f : En → Cel → R PV} {bz : Bool} : ∀ σ H Q, tv K bz W f σ H Q → tvF K W f σ H Q := by
  intro σ H Q ⟨g, ω, ρ, st, rel, q⟩
  refine ⟨g, ω, ρ, st, rel, ?_⟩
  cases e1 : f ρ st with
  | ok t s =>
    rw [e1] at q
    intro x H' ω' y c p
    obtain ⟨ω2, y2, c2, r2⟩ := p.rep y c
    exact q x H' ω2 y2 c2 (.inl r2)
  | exc x s => rw [e1] at q; exact q
  | bad => rw [e1] at q; exact q
theorem sF_v {f : En → Cel → R PV} {bz : Bool} (h : PE X e (tvF X.K W f)) : PE X e (tv X.K bz W f) := wPE h v_of_F
theorem postF.ext {r : R PV} {Q : VK} (h : postF K g ω ρ σ H W r Q) (x : ExtE ω H ω' H') : postF K g ω' ρ σ H' W r Q := by
  cases r with
  | ok t s =>
    rintro y H2 ω2 x2 c ⟨p, vs, ts, e1, e2, h1, h2⟩
    exact h y H2 ω2 (x.trans x2) c ⟨p, vs, ts, e1, e2, x.none h1, h2⟩
  | exc e s => exact fun H2 ω2 x2 c => h H2 ω2 (x.trans x2) c
  | bad => exact h
theorem bindF {α β : Type} {P : RX α β} {f : En → Cel → R α} {k : α → Cel → R PV} {Q : VK} (r : Rel K g ω ρ st σ H) (h : postF K g ω ρ σ H W ((f ρ st).bind k) Q) :
    tG P K W f σ H (fun x H1 => ∃ ω1 st1 t, ExtE ω H ω1 H1 ∧ Rel K g ω1 ρ st1 σ H1 ∧ P ω1 H1 x t ∧ postF K g ω1 ρ σ H1 W (k t st1) Q) := by
  refine ⟨g, ω, ρ, st, r, ?_⟩
  cases e : f ρ st with
  | ok t s =>
    rw [e] at h
    exact fun x H1 ω1 x1 c p => ⟨ω1, s, t, x1, r.extE x1 c, p, postF.ext h x1⟩
  | exc x s => rw [e] at h; exact h
  | bad => rw [e] at h; exact h
/-- a new list of values that are told -/
theorem freshNew {vs : List V} {ts : List PV} {Q : VK} (rel : Rel K g ω ρ st σ H) (q : postF K g ω ρ σ H W (.ok (.lst ts) st) Q) (r : RepL K ω H vs ts) : ∀ p, H p = none → Q (.ref p) (upd H p (.lst vs)) := fun p hp => by
  refine q _ _ ω (Grow.upd hp).toE (rel.cells.grow (Grow.upd hp)) ⟨p, vs, ts, rfl, rfl, hp, upd_same, fun z => ?_, fun z => ?_, r.mono (Grow.upd hp).ext⟩
  · obtain ⟨o, q⟩ := rel.cells.trk p z
    rw [hp] at q; cases q
  · obtain ⟨vs, z⟩ := rel.cells.lstAt z
    rw [hp] at z; cases z
theorem sF_lst {es : List Expr} {f : En → Cel → R (List PV)} (hpe : ∀ ta, PA X es ta → PE X e (tLst ta)) (ha : PA X es (tvs X.K W f)) :
    PE X e (tvF X.K W fun ρ st => (f ρ st).bind fun xs st => if szOk xs.length then .ok (.lst xs) st else .bad) := by
  refine wPE (hpe _ ha) fun σ H Q ⟨g, ω, ρ, st, rel, h⟩ => (bindF (P := RepL X.K) rel h).mono fun xs H1 ⟨ω1, st1, ts, x1, rel1, p, q⟩ => ?_
  by_cases hz : szOk ts.length = true
  · rw [if_pos hz] at q
    exact ⟨by rw [p.length]; exact szOk_le hz, freshNew rel1 q p⟩
  · rw [if_neg hz] at q; exact q.elim
/-- one operand, the answer a new list -/
theorem sF1 {f : En → Cel → R PV} {r : V → Hp → VK → Prop} {v : Cel → PV → Option PV} {ba : Bool} (hpe : ∀ ta, PE X a ta → PE X e (tUn r ta)) (ha : PE X a (tv X.K ba W f))
    (hv : ∀ (st : Cel) (x : V) (t z : PV) (ω : Wd) (H : Hp) (Q : VK), CelOk X.K ω st H → RepM X.K ba ω H x t → v st t = some z → (∀ vs ts, z = .lst ts → RepL X.K ω H vs ts → ∀ p, H p = none → Q (.ref p) (upd H p (.lst vs))) → r x H Q) :
    PE X e (tvF X.K W fun ρ st => (f ρ st).bind fun x st => R.of (v st x) st) := by
  refine wPE (hpe _ ha) fun σ H Q ⟨g, ω, ρ, st, rel, h⟩ => (bindF (P := RepM X.K ba) rel h).mono fun x H1 ⟨ω1, st1, t, x1, rel1, p, q⟩ => ?_
  cases e : v st1 t with
  | none => rw [e] at q; exact q.elim
  | some z =>
    rw [e] at q
    exact hv st1 x t z ω1 H1 Q rel1.cells p e fun vs ts ez r => by subst ez; exact freshNew rel1 q r
theorem vf_list {K : PySem.W.Frag} : ∀ (st : Cel) (x : V) (t z : PV) (ω : Wd) (H : Hp) (Q : VK), CelOk K ω st H → RepM K true ω H x t → listV t = some z → (∀ vs ts, z = .lst ts → RepL K ω H vs ts → ∀ p, H p = none → Q (.ref p) (upd H p (.lst vs))) →
    rC1 (fun xs H Q => ∃ p ys, xs = [.ref p] ∧ (SqL K H p ys ∨ SqT K H p ys) ∧ ∀ l, H l = none → Q (.ref l) (upd H l (.lst ys))) x H Q := by
  intro st x t z ω H Q c hx hv q
  unfold listV at hv
  split at hv
  · cases hv
    obtain ⟨a, vs, rfl, ha, ra⟩ := hx.lst
    exact ⟨a, vs, rfl, .inl (.inl (.inl ha)), q vs _ rfl ra⟩
  · cases hv
    obtain ⟨a, vs, rfl, ha, ra⟩ := hx.tup
    exact ⟨a, vs, rfl, .inr ha, q vs _ rfl ra⟩
  · cases hv
end
end Ev
namespace Ev
open PySem L2
section
variable {K : PySem.W.Frag} {b b' : Bool}
/-! ### tuple(text) -/
def signsV (s : Str) : List V := s.cps.toList.map fun c => .str ⟨#[c]⟩
theorem repl_signs {ω : Wd} {H : Hp} (s : Str) : RepL K ω H (signsV s) (signsP s) := by
  unfold signsV signsP
  induction s.cps.toList with
  | nil => exact .nil
  | cons c r ih => exact .cons (.str _) ih
def rTupS : List V → Hp → VK → Prop := fun xs H Q => ∃ x, xs = [.str x] ∧ x.length ≤ sizeLine ∧ ∀ l, H l = none → Q (.ref l) (upd H l (.tup (signsV x)))
theorem cr_tupS {X : Cx} (hc : X.calm = true) : CallR X (.type "tuple") rTupS := by
  intro pins s σ H xs us Q I r h
  obtain ⟨x, rfl, hz, q⟩ := h
  obtain ⟨u, rfl, t, rfl⟩ := vals1 r
  refine call_tuple_str (I.ok.hd hc) x t (fun h' tk acc kp hacc => ?_) hz
  have I1 : Inv X pins σ H { s with heap := h', toks := tk } := I.kept (t' := tk) kp
  have hv : Vals (signsV x) acc.toList := by
    have key : ∀ (cs : List Nat) (vs : List Value), vs.length = cs.length → (∀ (j : Nat) (v : Value), vs[j]? = some v → ∃ c u, cs[j]? = some c ∧ v = .str ⟨#[c]⟩ u) → Vals (cs.map fun c => V.str ⟨#[c]⟩) vs := by
      intro cs
      induction cs with
      | nil =>
        intro vs hl _
        cases vs with
        | nil => exact .nil
        | cons _ _ => simp at hl
      | cons c cs ih =>
        intro vs hl hj
        cases vs with
        | nil => simp at hl
        | cons v vs =>
          obtain ⟨c', u, e1, e2⟩ := hj 0 v rfl
          simp at e1
          subst e1 e2
          exact .cons ⟨u, rfl⟩ (ih vs (by simpa using hl) fun j v e => by simpa using hj (j + 1) v (by simpa using e))
    refine key x.cps.toList acc.toList (by simpa using hacc.1) fun j v e => ?_
    obtain ⟨c, u, e1, e2⟩ := hacc.2 j v (by simpa using e)
    exact ⟨c, u, by simpa using e1, e2⟩
  have hl : (signsV x).length ≤ sizeLine := by
    unfold signsV
    rw [List.length_map]
    exact hz
  have I2 : Inv X pins σ (upd H h'.objs.size (.tup (signsV x))) { s with heap := h'.push { cls := .type "tuple", data := .seq acc }, toks := tk } := by
    have e : acc = acc.toList.toArray := by simp
    rw [e]
    exact I1.laid (t' := tk) (fun b o e => Heap.get?_push_of_some _ e) (Nat.le_refl _) (show ObjOk X.prog X.w _ _ _ (.tup (signsV x)) from ⟨hl, acc.toList, hv, PyProof.Rows.IsTup.new _ _⟩)
  exact ⟨.ref h'.objs.size, _, I2, rfl, q _ (I1.hok.fresh (Nat.le_refl _))⟩
abbrev rTupV (K : PySem.W.Frag) : List V → Hp → VK → Prop := fun xs H Q => (∃ p ys, xs = [.ref p] ∧ ((SqL K H p ys ∧ ∀ l, H l = none → Q (.ref l) (upd H l (.tup ys))) ∨ (SqT K H p ys ∧ Q (.ref p) H))) ∨ rTupS xs H Q
theorem cr_tupV {X : Cx} (hc : X.calm = true) : CallR X (.type "tuple") (rTupV X.K) := CallR.or call_tuple_of (cr_tupS hc)
theorem vr_tupleOf : VR1 K true (rC1 (rTupV K)) (fun _ => tupleV) := by
  intro st x t z ω H Q c hx hv q
  dsimp only at hv
  unfold tupleV at hv
  split at hv
  · split at hv
    · rename_i s hz
      cases hv
      exact .inr ⟨s, by rw [hx.str], szOk_le hz, newTup (repl_signs s) q⟩
    · cases hv
  · cases hv
    obtain ⟨a, vs, rfl, ha, ra⟩ := hx.lst
    exact .inl ⟨a, vs, rfl, .inl ⟨.inl (.inl ha), newTup ra q⟩⟩
  · cases hv
    obtain ⟨a, vs, rfl, ha, ra⟩ := hx.tup
    exact .inl ⟨a, vs, rfl, .inr ⟨ha, q _ _ ω (Grow.refl ω H) (.tup ha ra)⟩⟩
  · cases hv
/-! ### any, str -/
theorem vr_any : VR1 K true (rC1 (rAny K)) (fun _ => anyV) := by
  intro st x t z ω H Q c hx hv q
  dsimp only at hv
  cases t with
  | lst ts =>
    change (allB ts).map (fun bs => PV.bl (bs.any id)) = some z at hv
    cases e : allB ts with
    | none => rw [e] at hv; cases hv
    | some bs =>
      rw [e] at hv
      cases hv
      obtain ⟨a, vs, rfl, ha, ra⟩ := hx.lst
      obtain rfl := allB_some e ra
      exact ⟨a, bs, rfl, .inl (.inl ha), q _ _ ω (Grow.refl ω H) (.bl _)⟩
  | _ => cases hv
abbrev rStr1 : List V → Hp → VK → Prop := fun xs H Q => (∃ i, xs = [.int i] ∧ i.natAbs.log2 < 1920 ∧ Q (.str (toString i)) H) ∨ ∃ a, xs = [.str a] ∧ Q (.str a) H
theorem cr_str1 {X : Cx} : CallR X (.type "str") rStr1 := CallR.or call_str_int SkE.call_str_str
theorem vr_str1 : VR1 K true (rC1 rStr1) (fun _ => str1V) := by
  intro st x t z ω H Q c hx hv q
  dsimp only at hv
  cases t with
  | int i =>
    change (if i.natAbs.log2 < 1920 then some (PV.str (toString i)) else none) = some z at hv
    split at hv
    · rename_i hz
      cases hv
      exact .inl ⟨i, by rw [hx.int], hz, q _ _ ω (Grow.refl ω H) (.str _)⟩
    · cases hv
  | str s =>
    cases hv
    exact .inr ⟨s, by rw [hx.str], q _ _ ω (Grow.refl ω H) (.str _)⟩
  | _ => cases hv
/-! ### l[::-1] -/
theorem RepL.reverse {ω : Wd} {H : Hp} : ∀ {vs : List V} {ts : List PV}, RepL K ω H vs ts → RepL K ω H vs.reverse ts.reverse
  | _, _, .nil => .nil
  | _, _, .cons h r => by rw [List.reverse_cons, List.reverse_cons]; exact (RepL.reverse r).append (.cons h .nil)
theorem vr_rev : VR1 K true (fun x H Q => ∃ a xs, x = .ref a ∧ SqL K H a xs ∧ ∀ p, H p = none → Q (.ref p) (upd H p (.lst xs.reverse))) (fun _ => revV) := by
  intro st x t z ω H Q c hx hv q
  dsimp only at hv
  cases t with
  | lst ts =>
    cases hv
    obtain ⟨a, vs, rfl, ha, ra⟩ := hx.lst
    exact ⟨a, vs, rfl, .inl (.inl ha), newLst ra.reverse q⟩
  | _ => cases hv
end
end Ev
namespace Ev
open PySem PySem.Spec PyProof.Rows L2
/-! ### sorted of data -/
theorem perm_of_map {α β : Type} {f : α → β} {l m : List β} (h : l.Perm m) : ∀ {L : List α}, m = L.map f → ∃ M : List α, M.Perm L ∧ l = M.map f := by
  induction h with
  | nil => intro L e; exact ⟨L, List.Perm.refl _, e⟩
  | cons x _ ih =>
    intro L e
    cases L with
    | nil => cases e
    | cons y L =>
      rw [List.map_cons, List.cons.injEq] at e
      obtain ⟨M, p, q⟩ := ih e.2
      exact ⟨y :: M, p.cons y, by rw [List.map_cons, ← e.1, q]⟩
  | swap x y l =>
    intro L e
    match L, e with
    | a :: b :: L, e =>
      simp only [List.map_cons, List.cons.injEq] at e
      exact ⟨b :: a :: L, List.Perm.swap _ _ _, by simp only [List.map_cons, List.cons.injEq]; exact ⟨e.2.1, e.1, e.2.2⟩⟩
    | [a], e => simp at e
    | [], e => cases e
  | trans _ _ ih1 ih2 =>
    intro L e
    obtain ⟨M, p, q⟩ := ih2 e
    obtain ⟨N, p2, q2⟩ := ih1 q
    exact ⟨N, p2.trans p, q2⟩
theorem le_rows {β : Type} (f : β → List Int) : PySem.W.dataLe false (fun b => PyData.tuple ((f b).map .int)) = fun p q => decide (f p ≤ f q) := by
  funext p q
  show (!PySem.W.dataLt _ _) = _
  rw [PySem.W.dataLt_tuple]
  show (!PySem.W.rowLt _ _) = _
  rw [PySem.W.dataLt_ints]
  rcases Classical.em (f q < f p) with z | z
  · rw [decide_eq_true z, decide_eq_false (fun r => List.not_lt.mpr r z)]; rfl
  · rw [decide_eq_false z, decide_eq_true (List.not_lt.mp z)]; rfl
theorem alike_rows (xs ys : List Int) : PySem.W.alike (.tuple (xs.map .int)) (.tuple (ys.map .int)) = true := by
  show PySem.W.alikeAll _ _ = true
  exact PySem.W.alike_ints xs ys
theorem ints_read {h : Heap} : ∀ {k : List Int} {us : List Value}, Vals (k.map V.int) us → ReadsAll h us (k.map PyData.int) []
  | [], _, .nil => .nil
  | n :: k, _, .cons ⟨t, e⟩ r => by
    rw [show _ = Value.int n t from e]
    exact ReadsAll.cons (as := []) (bs := []) (.int n t) (ints_read r)
theorem intKind_of {P : Program} {w : World} {k : Int} {v : Value} (h : (PySem.intKind P w).is k v = true) : ∃ t, v = Value.int k t := by
  cases v with
  | int i t =>
    simp [PySem.intKind, Value.isInt] at h
    exact ⟨t, by rw [h]⟩
  | _ => simp [PySem.intKind, Value.isInt] at h
theorem each_refs {R : Value → (Addr × List Int) → Prop} : ∀ {M : List (Addr × List Int)}, (∀ q ∈ M, R (.ref q.1) q) → PySem.W.EachIs R (M.map fun q => Value.ref q.1) M
  | [], _ => .nil
  | q :: M, h => .cons (h q (List.mem_cons_self ..)) (each_refs fun r hr => h r (List.mem_cons_of_mem _ hr))
theorem refs_each : ∀ {vs : List Value} {M : List (Addr × List Int)}, PySem.W.EachIs (fun v q => v = Value.ref q.1) vs M → vs = M.map fun q => Value.ref q.1
  | _, _, .nil => rfl
  | _, _, .cons e r => by rw [e, refs_each r]; rfl
section
variable {P : Program} {w : World} {A : Around} {E : Value → Shared → Prop} {s : Shared}
/-- sorted of a set of rows of ints, none of them empty -/
theorem sorted_rows {a : Addr} {L : List (Addr × List Int)} {es : Array (Int × Value)} {ep : Nat} {t : SetTable} {Q : Value → Shared → Prop} (T : SetTR P w s.heap a L es ep t) (hh : A.handled = none) (hne : ∀ q ∈ L, q.2 ≠ []) (hu : A.units + 10 < cLine)
    (k : ∀ s' p (out : Array Value) (c : Nat) (M : List (Addr × List Int)), (∀ b o, s.heap.get? b = some o → s'.heap.get? b = some o) ∧ s'.gens = s.gens ∧ s'.os = s.os ∧ s.heap.objs.size ≤ p →
      s'.heap.get? p = some (seqObj "list" out c) → out.toList = M.map (fun q => Value.ref q.1) → M.Perm L → M.Pairwise (fun q r => q.2 ≤ r.2) → Q (.ref p) s') : wpAny (model P w) A (call (.builtin "sorted") [.ref a]) Q E s := by
  obtain ⟨o, ho, hex, hd⟩ := T.ob
  have hsz := T.size
  have hfew := T.few
  refine Calls.call_function_entry kind_sorted plain_sorted entry_sorted (args_sorted1 _) (show wpAny _ _ (Builtin.«sorted» _) _ _ _ from ?_)
  unfold Builtin.«sorted»; refine wpAny_bind (m := checkCount "sorted" 1 1 _) (wpAny_pure ?_)
  refine wpAny_bind (collect_set (A := A.in1) hh ⟨o, ho, hex.1, hd⟩ T.fits (by unfold scanBound; omega) T.tab.ris T.led fun s1 vs k1 hz g1 o1 pm => ?_)
  have rows : es.toList.map (·.2) = L.map fun q => Value.ref q.1 := by rw [T.rows]; unfold rowsOf; rw [List.map_map]; rfl
  obtain ⟨M, pM, rfl⟩ := perm_of_map pm rows
  have hlen : (M.map fun q => Value.ref q.1).length < 64 := by rw [List.length_map, pM.length_eq]; exact hfew
  refine wpAny_bind (wpAny_newList ?_ (by rw [sizeLine_eq]; omega))
  have at1 : (s1.heap.push (seqObj "list" (M.map fun q => Value.ref q.1).toArray 0)).get? s1.heap.objs.size = some (seqObj "list" (M.map fun q => Value.ref q.1).toArray 0) := Heap.get?_push_size _ rfl
  have rd : ∀ q ∈ M, ∃ as, Reads (s1.heap.push (seqObj "list" (M.map fun q => Value.ref q.1).toArray 0)) (.ref q.1) (.tuple (q.2.map .int)) as ∧ s1.heap.objs.size ∉ as := fun q hq => by
    obtain ⟨o', its, n, e1, e2, e3, e4⟩ := T.tup q (pM.mem_iff.mp hq)
    refine ⟨[], .tuple (Heap.get?_push_of_some _ (k1 _ _ e1)) e2 e3 ?_, by simp⟩
    have key : ∀ {ks : List Int} {us : List Value}, ItemsAre (PySem.intKind P w) ks us → ReadsAll (s1.heap.push (seqObj "list" (M.map fun q => Value.ref q.1).toArray 0)) us (ks.map PyData.int) [] := by
      intro ks us hi
      induction hi with
      | nil => exact .nil
      | cons h _ ih =>
        obtain ⟨tk, e⟩ := intKind_of h
        rw [e]
        exact ReadsAll.cons (as := []) (bs := []) (.int _ tk) ih
    exact key e4
  refine wpAny_bind (wpAny_holding (PySem.W.list_sort_data (s := { s1 with heap := s1.heap.push (seqObj "list" (M.map fun q => Value.ref q.1).toArray 0) }) (R := fun v q => v = Value.ref q.1) (enc := fun q => PyData.tuple (q.2.map .int)) at1 (each_refs fun q _ => rfl) (each_refs rd) ?_ ?_ ?_ ?_ fun out hl he => ?_))
  · exact PySem.W.AllAlike.of fun _ _ => alike_rows _ _
  · refine .inl fun d hd => ?_
    obtain ⟨q, hq, rfl⟩ := List.mem_map.mp hd
    cases e : q.2 with
    | nil => exact absurd e (hne q (pM.mem_iff.mp hq))
    | cons x r => exact ⟨.int x, r.map .int, by rw [List.map_cons]⟩
  · rw [List.length_map] at hlen; rw [sizeLine_eq]; omega
  · intro q _
    have e : (PyData.tuple (q.2.map .int)).depth = 1 := by rw [PyData.depth, PySem.W.depth_ints]
    rw [e]
    show A.in1.units + 1 + 1 < cLine
    have : A.in1.units ≤ A.units + 1 := by unfold Around.in1; simp
    omega
  · obtain ⟨c, hc⟩ := sortedHeap_at (vs := M.map fun q => Value.ref q.1) (out := out.toArray) at1
    rw [le_rows] at he
    have srt : (M.mergeSort fun p q => decide (p.2 ≤ q.2)).Pairwise (fun q r => q.2 ≤ r.2) := by
      have := List.pairwise_mergeSort (le := fun p q : Addr × List Int => decide (p.2 ≤ q.2)) (fun p q r h1 h2 => by simp only [decide_eq_true_eq] at *; exact Std.le_trans h1 h2) (fun p q => by simp only [Bool.or_eq_true, decide_eq_true_eq]; exact Std.le_total) M
      exact this.imp fun h => by simpa using h
    refine wpAny_pure ⟨_, rfl, k _ s1.heap.objs.size out.toArray c _ ⟨fun b u e => ?_, g1, o1, hz⟩ hc (by rw [refs_each he]) ((List.mergeSort_perm M _).trans pM) srt⟩
    have q := k1 b u e
    have hlt := Heap.lt_size q
    show (sortedHeap (s1.heap.push _) s1.heap.objs.size _ _).get? b = some u
    rw [sortedHeap_old (Nat.ne_of_lt hlt) (by rw [size_push']; exact Nat.lt_succ_of_lt hlt)]
    exact Heap.get?_push_of_some _ q
end
/-! ### sorted(set(rows)) -/
theorem mem_insR {k m : List Int} : ∀ {l : List (List Int)}, m ∈ insR k l ↔ m = k ∨ m ∈ l
  | [] => by simp [insR]
  | x :: l => by
    unfold insR
    split
    · rename_i e; subst e; simp
    · split
      · simp
      · simp [mem_insR (l := l)]
        constructor
        · rintro (h | h | h)
          · exact .inr (.inl h)
          · exact .inl h
          · exact .inr (.inr h)
        · rintro (h | h | h)
          · exact .inr (.inl h)
          · exact .inl h
          · exact .inr (.inr h)
theorem srt_insR {k : List Int} : ∀ {l : List (List Int)}, l.Pairwise (· < ·) → (insR k l).Pairwise (· < ·)
  | [], _ => by simp [insR]
  | x :: l, h => by
    unfold insR
    obtain ⟨h1, h2⟩ := List.pairwise_cons.mp h
    split
    · exact h
    · rename_i ne
      split
      · rename_i lt
        exact List.pairwise_cons.mpr ⟨fun y hy => by
          rcases List.mem_cons.mp hy with e | e
          · rw [e]; exact lt
          · exact List.lt_trans lt (h1 y e), h⟩
      · rename_i nl
        refine List.pairwise_cons.mpr ⟨fun y hy => ?_, srt_insR h2⟩
        rcases mem_insR.mp hy with e | e
        · rw [e]
          have hle : x ≤ k := List.not_lt.mp nl
          rcases Classical.em (x < k) with z | z
          · exact z
          · exact absurd (List.le_antisymm (List.not_lt.mp z) hle) ne
        · exact h1 y e
theorem srt_ssetR : ∀ ks : List (List Int), (ssetR ks).Pairwise (· < ·)
  | [] => .nil
  | k :: ks => srt_insR (srt_ssetR ks)
theorem mem_ssetR {m : List Int} : ∀ {ks : List (List Int)}, m ∈ ssetR ks ↔ m ∈ ks
  | [] => by simp [ssetR]
  | k :: ks => by
    show m ∈ insR k (ssetR ks) ↔ _
    rw [mem_insR, mem_ssetR, List.mem_cons]
theorem ssetR_uniq {l ks : List (List Int)} (hs : l.Pairwise (· ≤ ·)) (nd : l.Nodup) (hm : ∀ m, m ∈ l ↔ m ∈ ks) : l = ssetR ks := by
  have n2 : (ssetR ks).Nodup := (srt_ssetR ks).imp fun h e => by rw [e] at h; exact List.lt_irrefl _ h
  have p : l.Perm (ssetR ks) := (List.perm_ext_iff_of_nodup nd n2).mpr fun m => by rw [hm, mem_ssetR]
  exact p.eq_of_pairwise (fun a b _ _ h1 h2 => List.le_antisymm h1 h2) hs ((srt_ssetR ks).imp fun h => List.le_of_lt h)
section
variable {X : Cx} {K : PySem.W.Frag} {ω : Wd} {H : Hp}
def rSortS (K : PySem.W.Frag) (P : Program) (w : World) : List V → Hp → VK → Prop := fun vs H Q => ∃ (a : Addr) (L : List (Addr × List Int)), vs = [V.ref a] ∧ H a = some (SetTO P w a L) ∧ (∀ p ∈ L, SqT K H p.1 (p.2.map V.int)) ∧ (∀ p ∈ L, p.2 ≠ []) ∧
  ∀ (M : List (Addr × List Int)) (p : Addr), M.Perm L → (M.map (·.2)).Nodup → M.Pairwise (fun q r => q.2 ≤ r.2) → H p = none → Q (.ref p) (upd H p (.lst (M.map fun q => V.ref q.1)))
theorem cr_sortS (hc : X.calm = true) (hu : X.A.units + 10 < cLine) : CallR X (.builtin "sorted") (rSortS X.K X.prog X.w) := by
  intro pins s σ H vs us Q I r h
  obtain ⟨a, L, rfl, ha, hk, hne, q⟩ := h
  have R0 : SetT0 X.prog X.w s.heap a L := (I.hok a _ ha).1
  obtain ⟨es, ep, t, T⟩ := R0.full fun p hp => I.isT (hk p hp)
  rw [Vals.ref1 r]
  refine sorted_rows T (I.ok.hd hc) hne hu fun s' p out c M ⟨kp, g, o, hp⟩ hg hout pm pw => ?_
  have few : M.length < 64 := by rw [pm.length_eq]; exact T.few
  have hl : (M.map fun q => V.ref q.1).length ≤ sizeLine := by rw [List.length_map, sizeLine_eq]; omega
  have hn : H p = none := I.hok.fresh hp
  have J : Inv X pins σ (upd H p (.lst (M.map fun q => V.ref q.1))) { s with heap := s'.heap, gens := s'.gens, drawn := s'.drawn, toks := s'.toks } :=
    I.call (ch := []) (Un.laid kp hp hn) (I.hok.laid kp hp ⟨hl, out.toList, c, by rw [hout]; exact vals_of_refs M, hg⟩) (by rw [g]; exact I.bare) (fun _ z => nomatch z)
  have e : s' = { s with heap := s'.heap, gens := s'.gens, drawn := s'.drawn, toks := s'.toks } := by cases s'; cases s; cases o; rfl
  rw [e]
  exact ⟨.ref p, _, J, rfl, q M p pm ((pm.map (·.2)).nodup_iff.mpr T.nd) pw hn⟩
theorem rowsP_v : ∀ {ts : List PV} {vs : List V} {ks : List (List Int)}, RepL K ω H vs ts → rowsP ts = some ks → ∃ ps : List (Addr × List Int), vs = ps.map (fun p => V.ref p.1) ∧ ps.map (·.2) = ks ∧ ∀ p ∈ ps, SqT K H p.1 (p.2.map V.int)
  | [], _, _, .nil, h => by cases h; exact ⟨[], rfl, rfl, fun p hp => by cases hp⟩
  | t :: ts, _, ks, .cons hx r, h => by
    cases t with
    | tup xs =>
      change (match intsP xs, rowsP ts with
        | some k, some ks => some (k :: ks)
        | _, _ => none) = some ks at h
      cases q1 : intsP xs with
      | none => rw [q1] at h; cases h
      | some k =>
        cases q2 : rowsP ts with
        | none => rw [q1, q2] at h; cases h
        | some m =>
          rw [q1, q2] at h
          cases h
          obtain ⟨ps, e1, e2, e3⟩ := rowsP_v r q2
          cases hx with
          | tup ha ra =>
            rename_i a ws
            rw [intsP_v ra q1] at ha
            refine ⟨(a, k) :: ps, by rw [e1]; rfl, by rw [List.map_cons, e2], fun p hp => ?_⟩
            rcases List.mem_cons.mp hp with z | z
            · rw [z]; exact ha
            · exact e3 p z
    | _ => cases h
theorem ints_rep : ∀ ns : List Int, RepL K ω H (ns.map V.int) (ns.map PV.int)
  | [] => .nil
  | n :: ns => .cons (.int n) (ints_rep ns)
theorem rows_rep : ∀ {ps : List (Addr × List Int)}, (∀ p ∈ ps, SqT K H p.1 (p.2.map V.int)) → RepL K ω H (ps.map fun p => V.ref p.1) ((ps.map (·.2)).map fun k => PV.tup (k.map .int))
  | [], _ => .nil
  | p :: ps, h => .cons (.tup (h p (List.mem_cons_self ..)) (ints_rep p.2)) (rows_rep fun q hq => h q (List.mem_cons_of_mem _ hq))
def rSS (K : PySem.W.Frag) (P : Program) (w : World) : V → Hp → VK → Prop := fun x H Q => rSetOfT K P w [x] H fun y H1 => rSortS K P w [y] H1 Q
theorem vr_sset {P : Program} {w : World} : VR1 K true (rSS K P w) (fun _ => ssetV) := by
  intro st x t z ω H Q c hx hv q
  dsimp only at hv
  cases t with
  | lst xs =>
    change (match rowsP xs with
      | some ks => if ks.length < 64 && ks.all (fun k => !k.isEmpty) then some (PV.lst ((ssetR ks).map fun k => .tup (k.map .int))) else none
      | none => none) = some z at hv
    cases e : rowsP xs with
    | none => rw [e] at hv; cases hv
    | some ks =>
      rw [e] at hv
      dsimp only at hv
      split at hv
      · rename_i hz
        cases hv
        rw [Bool.and_eq_true, decide_eq_true_eq] at hz
        obtain ⟨a, vs, rfl, ha, ra⟩ := hx.lst
        obtain ⟨ps, rfl, rfl, hs⟩ := rowsP_v ra e
        have ne : ∀ p ∈ ps, p.2 ≠ [] := fun p hp => by
          have := List.all_eq_true.mp hz.2 p.2 (List.mem_map.mpr ⟨p, hp, rfl⟩)
          simpa using this
        refine ⟨a, ps, rfl, .inl (.inl ha), hs, by simpa using hz.1, fun a' L hn sub all => ?_⟩
        have gr : Grow ω H ω (upd H a' (SetTO P w a' L)) := Grow.upd hn
        refine ⟨a', L, rfl, upd_same, fun p hp => gr.ext.sqT (hs p (sub p hp)), fun p hp => ne p (sub p hp), fun M p pm nd pw hp => ?_⟩
        have eM : M.map (·.2) = ssetR (ps.map (·.2)) := by
          refine ssetR_uniq (List.pairwise_map.mpr pw) nd fun m => ?_
          constructor
          · intro hm
            obtain ⟨r, hr, rfl⟩ := List.mem_map.mp hm
            exact List.mem_map.mpr ⟨r, sub r (pm.mem_iff.mp hr), rfl⟩
          · intro hm
            obtain ⟨r, hr, rfl⟩ := List.mem_map.mp hm
            exact (pm.map (·.2)).mem_iff.mpr (all r hr)
        have rr : RepL K ω (upd H a' (SetTO P w a' L)) (M.map fun p => V.ref p.1) ((ssetR (ps.map (·.2))).map fun k => PV.tup (k.map .int)) := by
          rw [← eM]
          exact rows_rep fun p hp => gr.ext.sqT (hs p (sub p (pm.mem_iff.mp hp)))
        exact newLst rr (fun y H' ω' g2 rp => q y H' ω' (gr.trans g2) rp) p hp
      · cases hv
  | _ => cases hv
end
end Ev
namespace Ev
open PySem PySem.Spec PyProof.Rows L2
section
variable {X : Cx} {K : PySem.W.Frag} {ω : Wd} {H : Hp}
/-! ### sorted(list of data) -/
def rSortD (K : PySem.W.Frag) : List V → Hp → VK → Prop := fun vs H Q => ∃ (a : Addr) (ws : List V) (ds : List PyData), vs = [V.ref a] ∧ SqL K H a ws ∧ DpAll K H ws ds ∧ PySem.W.AllAlike ds ∧ PySem.W.Sortable ds ∧ (∀ d ∈ ds, d.depth ≤ 50) ∧
  ∀ p, H p = none → Q (.ref p) (upd H p (.lst (((ws.zip ds).mergeSort (PySem.W.dataLe false (fun q => q.2))).map (·.1))))
theorem dp_len : ∀ {ws : List V} {ds : List PyData}, DpAll K H ws ds → ws.length = ds.length
  | _, _, .nil => rfl
  | _, _, .cons _ r => by rw [List.length_cons, List.length_cons, dp_len r]
theorem zip_snd {α β : Type} : ∀ {l : List α} {m : List β}, l.length = m.length → (l.zip m).map (·.2) = m
  | [], [], _ => rfl
  | a :: l, b :: m, h => by rw [List.zip_cons_cons, List.map_cons, zip_snd (by simpa using h)]
  | [], b :: m, h => by simp at h
  | a :: l, [], h => by simp at h
theorem vals_each : ∀ {ws : List V} {us : List Value} {ds : List PyData}, Vals ws us → ws.length = ds.length → PySem.W.EachIs (fun v (q : V × PyData) => RelV q.1 v) us (ws.zip ds)
  | _, _, [], .nil, _ => .nil
  | _, _, d :: ds, .cons r t, h => .cons r (vals_each t (by simpa using h))
  | _, _, [], .cons r t, h => by simp at h
  | _, _, d :: ds, .nil, h => by simp at h
theorem each_vals : ∀ {us : List Value} {qs : List (V × PyData)}, PySem.W.EachIs (fun v (q : V × PyData) => RelV q.1 v) us qs → Vals (qs.map (·.1)) us
  | _, _, .nil => .nil
  | _, _, .cons r t => .cons r (each_vals t)
theorem reads_each {pins : List (Addr × Obj)} {σ : L2.St} {s : Shared} (I : L2.Inv X pins σ H s) : ∀ {ws : List V} {us : List Value} {ds : List PyData}, Vals ws us → DpAll X.K H ws ds → PySem.W.EachIs (fun v (q : V × PyData) => ∃ as, Reads s.heap v q.2 as) us (ws.zip ds)
  | _, _, _, .nil, .nil => .nil
  | _, _, _, .cons r t, .cons d ds => .cons (Dp.reads I _ _ _ d r) (reads_each I t ds)
theorem cr_sortD (hu : X.A.units + 60 < cLine) : CallR X (.builtin "sorted") (rSortD X.K) := by
  intro pins s σ H vs us Q I r h
  obtain ⟨a, ws, ds, rfl, hl, hd, al, so, dp, q⟩ := h
  rw [Vals.ref1 r]
  obtain ⟨its, rv, pl, hz⟩ := I.list hl
  have len := dp_len hd
  have e2 := zip_snd len
  have hlz : (ws.zip ds).length = ws.length := by rw [List.length_zip, ← len, Nat.min_self]
  refine PySem.W.sorted_data (R := fun v (q : V × PyData) => RelV q.1 v) (enc := fun q : V × PyData => q.2) (vs := its) (bs := ws.zip ds) (by simpa using pl.isList) (vals_each rv len) (reads_each I rv hd) (by rw [e2]; exact al) (by rw [e2]; exact so) (by rw [hlz]; exact hz) (fun b hb => ?_) fun out hlen he => ?_
  · have := dp b.2 (by rw [← e2]; exact List.mem_map.mpr ⟨b, hb, rfl⟩)
    omega
  · have hn : H (s.heap.objs.size + 1) = none := I.hok.fresh (Nat.le_succ _)
    obtain ⟨c, hg⟩ := sortedAll_at s.heap its out.toArray
    have ob : ObjOk X.prog X.w (upd H (s.heap.objs.size + 1) (.lst (((ws.zip ds).mergeSort (PySem.W.dataLe false (fun q => q.2))).map (·.1)))) (sortedAll s.heap its out.toArray) (s.heap.objs.size + 1) (.lst (((ws.zip ds).mergeSort (PySem.W.dataLe false (fun q => q.2))).map (·.1))) := ⟨?_, out, c, each_vals he, hg⟩
    exact ⟨.ref (s.heap.objs.size + 1), _, I.laid (t' := s.toks) (fun b o e => sortedAll_old e) (Nat.le_succ _) ob, rfl, q _ hn⟩
    rw [List.length_map, List.length_mergeSort, hlz]
    exact hz
theorem sortB_of {ds : List PyData} (h : sortB ds = true) : PySem.W.Sortable ds := by
  unfold sortB at h
  rw [Bool.or_eq_true] at h
  rcases h with h | h
  · refine .inl fun d hd => ?_
    have z := List.all_eq_true.mp h d hd
    match d, z with
    | .tuple (x :: r), _ => exact ⟨x, r, rfl⟩
  · refine .inr fun d hd => ?_
    have z := List.all_eq_true.mp h d hd
    match d, z with
    | .bool _, _ => exact ⟨nofun, nofun⟩
    | .int _, _ => exact ⟨nofun, nofun⟩
    | .str _, _ => exact ⟨nofun, nofun⟩
    | .list _, _ => exact ⟨nofun, nofun⟩
    | .dict _, _ => exact ⟨nofun, nofun⟩
theorem repl_zip : ∀ {vs : List V} {ts : List PV} {l : List (V × PV)}, (∀ p ∈ l, Rep K ω H p.1 p.2) → RepL K ω H (l.map (·.1)) (l.map (·.2))
  | _, _, [], _ => .nil
  | _, _, p :: l, h => .cons (h p (List.mem_cons_self ..)) (repl_zip (vs := []) (ts := []) fun q hq => h q (List.mem_cons_of_mem _ hq))
theorem repl_mem : ∀ {vs : List V} {ts : List PV}, RepL K ω H vs ts → ∀ p ∈ vs.zip ts, Rep K ω H p.1 p.2
  | _, _, .nil, p, hp => by simp at hp
  | _, _, .cons h r, p, hp => by
    rw [List.zip_cons_cons] at hp
    rcases List.mem_cons.mp hp with z | z
    · rw [z]; exact h
    · exact repl_mem r p z
theorem zip3 {α β γ : Type} : ∀ {l : List α} {m : List β} {n : List γ}, l.length = m.length → m.length = n.length → ((l.zip m).zip n).map (fun q => (q.1.1, q.2)) = l.zip n ∧ ((l.zip m).zip n).map (fun q => (q.1.2, q.2)) = m.zip n ∧ ∀ q ∈ (l.zip m).zip n, q.1 ∈ l.zip m
  | [], [], [], _, _ => by simp
  | a :: l, b :: m, c :: n, h1, h2 => by
    obtain ⟨e1, e2, e3⟩ := zip3 (l := l) (m := m) (n := n) (by simpa using h1) (by simpa using h2)
    refine ⟨by simp [e1], by simp [e2], fun q hq => ?_⟩
    rw [List.zip_cons_cons, List.zip_cons_cons] at hq
    rcases List.mem_cons.mp hq with z | z
    · rw [z]; exact List.mem_cons_self ..
    · exact List.mem_cons_of_mem _ (e3 q z)
  | [], b :: m, n, h1, h2 => by simp at h1
  | a :: l, [], n, h1, h2 => by simp at h1
  | [], [], c :: n, h1, h2 => by simp at h2
  | a :: l, b :: m, [], h1, h2 => by simp at h2
theorem vr_sorted : VR1 K true (rC1 (rSortD K)) (fun _ => sortedV) := by
  intro st x t z ω H Q c hx hv q
  dsimp only at hv
  cases t with
  | lst xs =>
    change (match PV.dataL xs with
      | some ds => if alikeB ds && sortB ds && ds.all (fun d => decide (d.depth ≤ 50)) then some (PV.lst (sortP (xs.zip ds))) else none
      | none => none) = some z at hv
    cases e : PV.dataL xs with
    | none => rw [e] at hv; cases hv
    | some ds =>
      rw [e] at hv
      dsimp only at hv
      split at hv
      · rename_i hz
        cases hv
        simp only [Bool.and_eq_true] at hz
        obtain ⟨a, vs, rfl, ha, ra⟩ := hx.lst
        have hd : DpAll K H vs ds := ra.dp e
        have l1 : vs.length = xs.length := ra.length
        have l2 : xs.length = ds.length := by rw [← l1, dp_len hd]
        refine ⟨a, vs, ds, rfl, .inl (.inl ha), hd, fun d hd d' hd' => ?_, sortB_of hz.1.2, fun d hd => ?_, fun p hp => ?_⟩
        · exact List.all_eq_true.mp (List.all_eq_true.mp hz.1.1 d hd) d' hd'
        · exact of_decide_eq_true (List.all_eq_true.mp hz.2 d hd)
        · obtain ⟨e1, e2, e3⟩ := zip3 l1 l2
          have m1 : ((vs.zip ds).mergeSort (PySem.W.dataLe false (fun q => q.2))).map (·.1) = (((vs.zip xs).zip ds).mergeSort (PySem.W.dataLe false (fun q => q.2))).map (fun q => q.1.1) := by
            rw [← e1, ← List.map_mergeSort (f := fun q : (V × PV) × PyData => (q.1.1, q.2)) (r := PySem.W.dataLe false (fun q : (V × PV) × PyData => q.2)) (fun a _ b _ => rfl), List.map_map]
            rfl
          have m2 : sortP (xs.zip ds) = (((vs.zip xs).zip ds).mergeSort (PySem.W.dataLe false (fun q => q.2))).map (fun q => q.1.2) := by
            unfold sortP
            rw [← e2, ← List.map_mergeSort (f := fun q : (V × PV) × PyData => (q.1.2, q.2)) (r := PySem.W.dataLe false (fun q : (V × PV) × PyData => q.2)) (fun a _ b _ => rfl), List.map_map]
            rfl
          rw [m1]
          rw [m2] at q
          have rr := repl_zip (K := K) (ω := ω) (H := H) (vs := []) (ts := []) (l := (((vs.zip xs).zip ds).mergeSort (PySem.W.dataLe false (fun q => q.2))).map (·.1)) (fun p hp => by
            obtain ⟨u, hu, rfl⟩ := List.mem_map.mp hp
            exact repl_mem ra u.1 (e3 u (List.mem_mergeSort.mp hu)))
          rw [List.map_map, List.map_map] at rr
          exact newLst rr q p hp
      · cases hv
  | _ => cases hv
end
end Ev
namespace Ev
open PySem L2
section
variable {K : PySem.W.Frag} {g : Gh} {ω ω' : Wd} {ρ : En} {st st' : Cel} {σ : St} {H H' : Hp} {W : Wx} {X : Cx} {e a b : Expr}
/-! ### tests -/
theorem st_val {f : En → Cel → R PV} {bz : Bool} (hpt : ∀ t, PE X e t → PT X e (tB t)) (h : PE X e (tv X.K bz W f)) : PT X e (tvbb X.K W (asB f)) := by
  refine wPT (hpt _ h) fun σ H Q ⟨g, ω, ρ, st, rel, q⟩ => (bindG (P := RepM X.K bz) (f := f) rel q).mono fun x H1 ⟨ω1, st1, t, x1, rel1, p, q⟩ => ?_
  cases t with
  | bl c => exact ⟨c, p.bl, postOk rel1 q rfl⟩
  | _ => exact q.elim
theorem st_cmp {f : En → Cel → R PV} {t : TE} (hpt : PT X e (tTest t)) (hw : ∀ σ H Q, tv X.K false W f σ H Q → t σ H Q) : PT X e (tvbb X.K W (asB f)) := by
  refine wPT hpt fun σ H Q ⟨g, ω, ρ, st, rel, q⟩ => hw _ _ _ ((bindG (P := RepM X.K false) (f := f) rel q).mono fun x H1 ⟨ω1, st1, t, x1, rel1, p, q⟩ => ?_)
  cases t with
  | bl c => exact ⟨c, p.bl, postOk rel1 q rfl⟩
  | _ => exact q.elim
theorem asB_not (f : En → Cel → R PV) (ρ : En) (st : Cel) : asB (fun ρ st => (f ρ st).bind fun x st => R.of (notV x) st) ρ st = (asB f ρ st).bind fun b st => .ok (!b) st := by
  unfold asB
  dsimp only
  cases f ρ st with
  | ok x st => cases x <;> rfl
  | exc e st => rfl
  | bad => rfl
theorem st_not {f : En → Cel → R PV} (hpt : ∀ t, PT X a t → PT X e (tNot t)) (h : PT X a (tvbb X.K W (asB f))) : PT X e (tvbb X.K W (asB fun ρ st => (f ρ st).bind fun x st => R.of (notV x) st)) := by
  refine wPT (hpt _ h) fun σ H Q ⟨g, ω, ρ, st, rel, q⟩ => ?_
  rw [asB_not] at q
  exact (bindG (P := RBB) (f := asB f) rel q).mono fun x H1 ⟨ω1, st1, t, x1, rel1, p, q⟩ => by
    cases (show t = x from p)
    exact postOk rel1 q rfl
theorem asB_and (f f' : En → Cel → R PV) (ρ : En) (st : Cel) : asB (fun ρ st => (f ρ st).bind fun x st => match x with
      | .bl true => f' ρ st
      | .bl false => .ok (.bl false) st
      | _ => .bad) ρ st = (asB f ρ st).bind fun b st => if b then asB f' ρ st else .ok false st := by
  unfold asB
  dsimp only
  cases f ρ st with
  | ok x st =>
    cases x <;> try rfl
    rename_i b
    cases b <;> rfl
  | exc e st => rfl
  | bad => rfl
theorem asB_or (f f' : En → Cel → R PV) (ρ : En) (st : Cel) : asB (fun ρ st => (f ρ st).bind fun x st => match x with
      | .bl true => .ok (.bl true) st
      | .bl false => f' ρ st
      | _ => .bad) ρ st = (asB f ρ st).bind fun b st => if b then .ok true st else asB f' ρ st := by
  unfold asB
  dsimp only
  cases f ρ st with
  | ok x st =>
    cases x <;> try rfl
    rename_i b
    cases b <;> rfl
  | exc e st => rfl
  | bad => rfl
theorem wPW {e : Expr} {t t' : TT} (h : PW X e t) (i : ∀ σ H Q, t' σ H Q → t σ H Q) : PW X e t' := ⟨fun whole pins s σ H Q I q => h.run whole pins s σ H Q I (i _ _ _ q)⟩
theorem sw_and {f f' : En → Cel → R PV} (hpt : ∀ t u, PT X a t → PW X b u → PW X e (tAnd t u)) (h : PT X a (tvbb X.K W (asB f))) (h' : PW X b (tvbb X.K W (asB f'))) :
    PW X e (tvbb X.K W (asB fun ρ st => (f ρ st).bind fun x st => match x with
      | .bl true => f' ρ st
      | .bl false => .ok (.bl false) st
      | _ => .bad)) := by
  refine wPW (hpt _ _ h h') fun σ H Q ⟨g, ω, ρ, st, rel, q⟩ => ?_
  rw [asB_and] at q
  refine (bindG (P := RBB) (f := asB f) rel q).mono fun x H1 ⟨ω1, st1, t, x1, rel1, p, q⟩ => ?_
  cases (show t = x from p)
  cases x with
  | true => exact ⟨g, ω1, ρ, st1, rel1, q⟩
  | false => exact postOk rel1 q rfl
theorem sw_or {f f' : En → Cel → R PV} (hpt : ∀ t u, PT X a t → PW X b u → PW X e (tOr t u)) (h : PT X a (tvbb X.K W (asB f))) (h' : PW X b (tvbb X.K W (asB f'))) :
    PW X e (tvbb X.K W (asB fun ρ st => (f ρ st).bind fun x st => match x with
      | .bl true => .ok (.bl true) st
      | .bl false => f' ρ st
      | _ => .bad)) := by
  refine wPW (hpt _ _ h h') fun σ H Q ⟨g, ω, ρ, st, rel, q⟩ => ?_
  rw [asB_or] at q
  refine (bindG (P := RBB) (f := asB f) rel q).mono fun x H1 ⟨ω1, st1, t, x1, rel1, p, q⟩ => ?_
  cases (show t = x from p)
  cases x with
  | true => exact postOk rel1 q rfl
  | false => exact ⟨g, ω1, ρ, st1, rel1, q⟩
/-- a clause's tests -/
theorem sts_nil : PTs X [] (tvbb X.K W fun _ st => .ok true st) := wPTs pts_nil fun σ H Q ⟨g, ω, ρ, st, rel, q⟩ => postOk rel q rfl
theorem sts_one {f : En → Cel → R PV} (h : PT X e (tvbb X.K W (asB f))) : PTs X [e] (tvbb X.K W (asB f)) := pts_one h
/-! ### slices -/
theorem so_nil : PO X none (tvo X.K W fun _ st => .ok none st) := wPO po_none fun σ H Q ⟨g, ω, ρ, st, rel, q⟩ => by
  exact postOk (x := (none : Option Int)) rel q rfl
theorem so_one {f : En → Cel → R PV} (h : PE X e (tv X.K false W f)) : PO X (some e) (tvo X.K W fun ρ st => (f ρ st).bind fun x st => match x with
    | .int i => .ok (some i) st
    | _ => .bad) := by
  refine wPO (po_some h) fun σ H Q ⟨g, ω, ρ, st, rel, q⟩ => (bindG (P := RepM X.K false) (f := f) rel q).mono fun x H1 ⟨ω1, st1, t, x1, rel1, p, q⟩ => ?_
  cases t with
  | int i => exact ⟨i, p.int, postOk (x := some i) rel1 q rfl⟩
  | _ => exact q.elim
abbrev rSlV (K : PySem.W.Frag) : V → Option Int → Option Int → Hp → VK → Prop := fun x lo hi H Q => rSlL K x lo hi H Q ∨ (rSlA K x lo hi H Q ∨ rSlS x lo hi H Q)
theorem se_sl {f : En → Cel → R PV} {fl fh : En → Cel → R (Option Int)} {lo hi : Option Expr} {bz : Bool} (hpe : ∀ ta tl th, PE X a ta → PO X lo tl → PO X hi th → PE X e (tSl (rSlV X.K) ta tl th)) (ha : PE X a (tv X.K true W f)) (hl : PO X lo (tvo X.K W fl)) (hh : PO X hi (tvo X.K W fh)) :
    PE X e (tv X.K bz W fun ρ st => (f ρ st).bind fun x st => (fl ρ st).bind fun l st => (fh ρ st).bind fun h st => R.of (slV x l h) st) := by
  refine wPE (hpe _ _ _ ha hl hh) fun σ H Q ⟨g, ω, ρ, st, rel, q⟩ => (bindG (P := RepM X.K true) (f := f) rel q).mono fun x H1 ⟨ω1, st1, t, x1, rel1, p, q⟩ => ?_
  refine (bindG (P := RO) (f := fl) rel1 q).mono fun l H2 ⟨ω2, st2, l', x2, rel2, p2, q2⟩ => ?_
  refine (bindG (P := RO) (f := fh) rel2 q2).mono fun h H3 ⟨ω3, st3, h', x3, rel3, p3, q3⟩ => ?_
  cases (show l' = l from p2)
  cases (show h' = h from p3)
  have pp := (p.extE x2 rel1.cells).extE x3 rel2.cells
  obtain ⟨z, ez, qz⟩ := of_post rel3 q3
  unfold slV at ez
  split at ez
  · cases ez
    obtain ⟨a, vs, rfl, ha, ra⟩ := pp.lst
    exact .inl ⟨a, vs, rfl, .inl (.inl ha), newLst (ra.cut l h) qz⟩
  · cases ez
    obtain ⟨a, vs, rfl, ha, ra⟩ := pp.rol
    exact .inl ⟨a, vs, rfl, ha, newLst (ra.cut l h) qz⟩
  · cases ez
    obtain ⟨a, vs, rfl, ha, ra⟩ := pp.tup
    refine .inr (.inl ⟨a, vs, rfl, ha, fun z => ?_, fun _ => newTup (ra.cut l h) qz⟩)
    refine qz _ _ ω3 (Grow.refl _ _) (.tup ha ?_)
    have e1 : cutV vs l h = vs := by
      unfold cutV
      rw [z.1, z.2]
      simp
    have := ra.cut l h
    rw [e1] at this
    exact this
  · split at ez
    · rename_i hz
      cases ez
      exact .inr (.inr ⟨_, pp.str, szOk_le hz, qz _ _ ω3 (Grow.refl _ _) (.str _)⟩)
    · cases ez
  · cases ez
/-! ### isinstance -/
theorem tyx {t : PV} {x : V} {ty : Ty} {k : Bool} (h : RepM K true ω H x t) (e : isaV t ty = some k) : ∃ n, TyX K H x (.type n) ∧ kitB n (tyS ty) = some k := by
  cases t with
  | non =>
    refine ⟨"NoneType", ?_, ?_⟩
    · rw [h.non]; exact .base .non
    · cases ty <;> (cases e; decide +kernel)
  | bl c =>
    refine ⟨"bool", ?_, ?_⟩
    · rw [h.bl]; exact .base (.bl c)
    · cases ty <;> (cases e; decide +kernel)
  | int i =>
    refine ⟨"int", ?_, ?_⟩
    · rw [h.int]; exact .base (.int i)
    · cases ty <;> (cases e; decide +kernel)
  | str i =>
    refine ⟨"str", ?_, ?_⟩
    · rw [h.str]; exact .base (.str i)
    · cases ty <;> (cases e; decide +kernel)
  | tup ts =>
    obtain ⟨a, vs, rfl, ha, ra⟩ := h.tup
    refine ⟨"tuple", ?_, ?_⟩
    · rcases ha with (ha | ⟨o, ha⟩) | ⟨o, _, _, ho, hc, _⟩
      · exact .base (.tup ha)
      · exact .fTuple ha
      · exact .kTuple ho hc
    · cases ty <;> (cases e; decide +kernel)
  | lst ts =>
    obtain ⟨a, vs, rfl, ha, ra⟩ := h.lst
    refine ⟨"list", .base (.lst ha), ?_⟩
    cases ty <;> (cases e; decide +kernel)
  | rol ts => cases ty <;> cases e
  | cell k => cases ty <;> cases e
  | dct ks ts => cases ty <;> cases e
theorem tyx2 {t : PV} {x : V} {ty tz : Ty} {k : Bool} (h : RepM K true ω H x t) (e : isa2V t ty tz = some k) : ∃ n c d, TyX K H x (.type n) ∧ kitB n (tyS ty) = some c ∧ kitB n (tyS tz) = some d ∧ k = (c || d) := by
  unfold isa2V at e
  cases e1 : isaV t ty with
  | none => rw [e1] at e; cases e
  | some c =>
    cases e2 : isaV t tz with
    | none => rw [e1, e2] at e; cases e
    | some d =>
      rw [e1, e2] at e
      cases e
      cases t with
      | non =>
        refine ⟨"NoneType", c, d, ?_, ?_, ?_, rfl⟩
        · rw [h.non]; exact .base .non
        · cases ty <;> (cases e1; decide +kernel)
        · cases tz <;> (cases e2; decide +kernel)
      | bl _ =>
        refine ⟨"bool", c, d, ?_, ?_, ?_, rfl⟩
        · rw [h.bl]; exact .base (.bl _)
        · cases ty <;> (cases e1; decide +kernel)
        · cases tz <;> (cases e2; decide +kernel)
      | int i =>
        refine ⟨"int", c, d, ?_, ?_, ?_, rfl⟩
        · rw [h.int]; exact .base (.int i)
        · cases ty <;> (cases e1; decide +kernel)
        · cases tz <;> (cases e2; decide +kernel)
      | str i =>
        refine ⟨"str", c, d, ?_, ?_, ?_, rfl⟩
        · rw [h.str]; exact .base (.str i)
        · cases ty <;> (cases e1; decide +kernel)
        · cases tz <;> (cases e2; decide +kernel)
      | tup ts =>
        obtain ⟨a, vs, rfl, ha, ra⟩ := h.tup
        refine ⟨"tuple", c, d, ?_, ?_, ?_, rfl⟩
        · rcases ha with (ha | ⟨o, ha⟩) | ⟨o, _, _, ho, hc, _⟩
          · exact .base (.tup ha)
          · exact .fTuple ha
          · exact .kTuple ho hc
        · cases ty <;> (cases e1; decide +kernel)
        · cases tz <;> (cases e2; decide +kernel)
      | lst ts =>
        obtain ⟨a, vs, rfl, ha, ra⟩ := h.lst
        refine ⟨"list", c, d, .base (.lst ha), ?_, ?_, rfl⟩
        · cases ty <;> (cases e1; decide +kernel)
        · cases tz <;> (cases e2; decide +kernel)
      | rol ts => cases ty <;> cases e1
      | cell k => cases ty <;> cases e1
      | dct ks ts => cases ty <;> cases e1
end
end Ev
namespace Ev
open PySem L2
section
variable {K : PySem.W.Frag} {g : Gh} {ω ω' : Wd} {ρ : En} {st st' : Cel} {σ : St} {H H' : Hp} {W : Wx} {X : Cx} {e a b : Expr}
/-! ### targets -/
theorem get_set {α : Type} {l : List α} {i j : Nat} {x y : α} (h : (l.set i x)[j]? = some y) : (i = j ∧ x = y) ∨ (i ≠ j ∧ l[j]? = some y) := by
  by_cases e : i = j
  · subst e
    by_cases hi : i < l.length
    · rw [List.getElem?_set_self hi] at h; exact .inl ⟨rfl, Option.some.inj h⟩
    · rw [List.getElem?_eq_none (by simpa using hi)] at h; cases h
  · rw [List.getElem?_set_ne e] at h; exact .inr ⟨e, h⟩
theorem lt_of_set {α : Type} {l : List α} {i : Nat} {x y : α} (h : (l.set i x)[i]? = some y) : i < l.length := by
  rcases Nat.lt_or_ge i l.length with z | z
  · exact z
  · rw [List.getElem?_eq_none (by simpa using z)] at h; cases h
theorem Rel.set (r : Rel K g ω ρ st σ H) (i : Nat) {v : V} {t : PV} (h : Rep K ω H v t) : Rel K g ω (set1 ρ i t) st (σ.set i (some v)) H := by
  unfold set1
  refine ⟨by simp [r.len], fun j u hj => ?_, fun j u hj => ?_, fun j k u w a hj hk h1 h2 => ?_, r.cells, r.base, r.sub, r.new, r.csp, r.csn, r.cs0⟩
  · rcases get_set hj with ⟨rfl, e⟩ | ⟨ne, e⟩
    · cases e
      exact ⟨v, by rw [List.getElem?_set_self (by rw [r.len]; exact lt_of_set hj)], h⟩
    · obtain ⟨v', e1, r1⟩ := r.val j u e
      exact ⟨v', by rw [List.getElem?_set_ne ne]; exact e1, r1⟩
  · rcases get_set hj with ⟨rfl, e⟩ | ⟨ne, e⟩
    · cases e
    · obtain ⟨a, e1, r1⟩ := r.own j u e
      exact ⟨a, by rw [List.getElem?_set_ne ne]; exact e1, r1⟩
  · rcases get_set hj with ⟨rfl, e⟩ | ⟨ne, e⟩
    · cases e
    · rcases get_set hk with ⟨rfl, e'⟩ | ⟨ne', e'⟩
      · cases e'
      · rw [List.getElem?_set_ne ne] at h1
        rw [List.getElem?_set_ne ne'] at h2
        exact r.sep j k u w a e e' h1 h2
theorem Rel.emp (r : Rel K g ω ρ st σ H) (i : Nat) : Rel K g ω (ρ.set i .emp) st (σ.set i none) H := by
  refine ⟨by simp [r.len], fun j u hj => ?_, fun j u hj => ?_, fun j k u w a hj hk h1 h2 => ?_, r.cells, r.base, r.sub, r.new, r.csp, r.csn, r.cs0⟩
  · rcases get_set hj with ⟨rfl, e⟩ | ⟨ne, e⟩
    · cases e
    · obtain ⟨v', e1, r1⟩ := r.val j u e
      exact ⟨v', by rw [List.getElem?_set_ne ne]; exact e1, r1⟩
  · rcases get_set hj with ⟨rfl, e⟩ | ⟨ne, e⟩
    · cases e
    · obtain ⟨a, e1, r1⟩ := r.own j u e
      exact ⟨a, by rw [List.getElem?_set_ne ne]; exact e1, r1⟩
  · rcases get_set hj with ⟨rfl, e⟩ | ⟨ne, e⟩
    · cases e
    · rcases get_set hk with ⟨rfl, e'⟩ | ⟨ne', e'⟩
      · cases e'
      · rw [List.getElem?_set_ne ne] at h1
        rw [List.getElem?_set_ne ne'] at h2
        exact r.sep j k u w a e e' h1 h2
theorem Rel.wipe (r : Rel K g ω ρ st σ H) : ∀ vs : List Nat, Rel K g ω (wipeE ρ vs) st (L2.wipe σ vs) H
  | [] => r
  | v :: vs => (Rel.wipe r vs).emp v
def gNames : List Nat → TGs
  | [] => gNil
  | i :: is => gCons (gName i) (gNames is)
def gAsg (K : PySem.W.Frag) (tg : List Nat) : TG := match tg with
  | [i] => gName i
  | is => fun v σ H Q => gTup K is.length (gNames is) v σ H Q ∨ gUnl K is.length (gNames is) v σ H Q
theorem pg_or {e : Expr} {t t' : TG} (h : PG X e t) (h' : PG X e t') : PG X e (fun v σ H Q => t v σ H Q ∨ t' v σ H Q) := ⟨fun pins s σ H v u Q I r q => q.elim (fun q => h.run pins s σ H v u Q I r q) (fun q => h'.run pins s σ H v u Q I r q)⟩
def setAll (ρ : En) (ps : List (Nat × PV)) : En := ps.foldl (fun ρ p => set1 ρ p.1 p.2) ρ
/-- the slots that a target writes -/
def setS (σ : St) : List Nat → List V → St
  | i :: is, v :: vs => setS (σ.set i (some v)) is vs
  | _, _ => σ
theorem gNames_ok : ∀ (is : List Nat) {vs : List V} {ts : List PV} {ρ : En} {σ : St} {Q : St → Hp → Prop}, Rel K g ω ρ st σ H → RepL K ω H vs ts → vs.length = is.length →
    (Rel K g ω (setAll ρ (is.zip ts)) st (setS σ is vs) H → Q (setS σ is vs) H) → gNames is vs σ H Q
  | [], _, _, _, _, _, r, .nil, _, q => ⟨rfl, q r⟩
  | i :: is, _, _, ρ, σ, Q, r, .cons h hs, hl, q => ⟨_, _, rfl, gNames_ok is (r.set i h) hs (by simpa using hl) q⟩
/-- the slots behind a target, told by the written value -/
def tgS (σ : St) (tg : List Nat) (x : V) (vs : List V) : St := match tg with
  | [i] => σ.set i (some x)
  | is => setS σ is vs
theorem gAsg_ok {tg : List Nat} {x : V} {t : PV} {ρ' : En} {Q : St → Hp → Prop} (r : Rel K g ω ρ st σ H) (h : Rep K ω H x t) (e : assignT tg t ρ = some ρ') (q : ∀ vs, Rel K g ω ρ' st (tgS σ tg x vs) H → Q (tgS σ tg x vs) H) : gAsg K tg x σ H Q := by
  match tg, e, q with
  | [i], e, q =>
    unfold assignT at e
    cases e
    exact q [] (r.set i h)
  | [], e, q =>
    unfold assignT at e
    cases t with
    | tup xs =>
      dsimp only at e
      split at e
      · rename_i hl
        cases e
        cases h with
        | @tup a vs _ h1 h2 =>
          refine .inl ⟨a, vs, rfl, h1, by rw [h2.length]; exact hl, gNames_ok [] r h2 (by rw [h2.length]; exact hl) fun r' => q vs r'⟩
      · cases e
    | lst xs =>
      dsimp only at e
      split at e
      · rename_i hl
        cases e
        cases h with
        | @lst a vs _ hs h1 h2 =>
          refine .inr ⟨a, vs, rfl, .inl (.inl h1), by rw [h2.length]; exact hl, gNames_ok [] r h2 (by rw [h2.length]; exact hl) fun r' => q vs r'⟩
      · cases e
    | _ => cases e
  | i :: j :: is, e, q =>
    unfold assignT at e
    cases t with
    | tup xs =>
      dsimp only at e
      split at e
      · rename_i hl
        cases e
        cases h with
        | @tup a vs _ h1 h2 =>
          refine .inl ⟨a, vs, rfl, h1, by rw [h2.length]; exact hl, gNames_ok (i :: j :: is) r h2 (by rw [h2.length]; exact hl) fun r' => q vs r'⟩
      · cases e
    | lst xs =>
      dsimp only at e
      split at e
      · rename_i hl
        cases e
        cases h with
        | @lst a vs _ hs h1 h2 =>
          refine .inr ⟨a, vs, rfl, .inl (.inl h1), by rw [h2.length]; exact hl, gNames_ok (i :: j :: is) r h2 (by rw [h2.length]; exact hl) fun r' => q vs r'⟩
      · cases e
    | _ => cases e
theorem wipe_set {i : Nat} {v : Option V} : ∀ {vs : List Nat} {σ : St}, i ∈ vs → L2.wipe (σ.set i v) vs = L2.wipe σ vs
  | [], _, h => by cases h
  | j :: vs, σ, h => by
    unfold L2.wipe
    by_cases e : i ∈ vs
    · rw [wipe_set e]
    · have ej : i = j := by
        rcases List.mem_cons.mp h with z | z
        · exact z
        · exact absurd z e
      subst ej
      have hs : ∀ (vs : List Nat) (σ : St), i ∉ vs → L2.wipe (σ.set i v) vs = (L2.wipe σ vs).set i v := by
        intro vs
        induction vs with
        | nil => intro σ _; rfl
        | cons k ks ih =>
          intro σ hk
          unfold L2.wipe
          rw [ih σ (fun z => hk (by simp [z]))]
          exact List.set_comm _ _ (fun z => hk (by simp [z]))
      rw [hs vs σ e, List.set_set]
theorem wipe_setS {vs : List Nat} : ∀ (is : List Nat) (ws : List V) (σ : St), (∀ i ∈ is, i ∈ vs) → L2.wipe (setS σ is ws) vs = L2.wipe σ vs
  | [], _, _, _ => by unfold setS; rfl
  | i :: is, [], _, _ => by unfold setS; rfl
  | i :: is, w :: ws, σ, h => by
    unfold setS
    rw [wipe_setS is ws _ (fun j hj => h j (List.mem_cons_of_mem _ hj)), wipe_set (h i List.mem_cons_self)]
theorem wipe_idem_set : ∀ (vs : List Nat) (σ : St) (j : Nat), j ∈ vs → (L2.wipe σ vs).set j none = L2.wipe σ vs
  | [], _, _, h => by cases h
  | k :: vs, σ, j, h => by
    unfold L2.wipe
    by_cases e : j = k
    · subst e; rw [List.set_set]
    · have hj : j ∈ vs := by
        rcases List.mem_cons.mp h with z | z
        · exact absurd z e
        · exact z
      rw [List.set_comm _ _ (Ne.symm e), wipe_idem_set vs σ j hj]
theorem wipe_idem (vs : List Nat) (σ : St) : L2.wipe (L2.wipe σ vs) vs = L2.wipe σ vs := by
  have : ∀ us : List Nat, (∀ j ∈ us, j ∈ vs) → L2.wipe (L2.wipe σ vs) us = L2.wipe σ vs := by
    intro us
    induction us with
    | nil => intro _; rfl
    | cons k ks ih =>
      intro h
      show (L2.wipe (L2.wipe σ vs) ks).set k none = L2.wipe σ vs
      rw [ih (fun j hj => h j (List.mem_cons_of_mem _ hj))]
      exact wipe_idem_set vs σ k (h k List.mem_cons_self)
  exact this vs fun _ h => h
theorem wipe_tgS {vs tg : List Nat} {x : V} {ws : List V} {σ : St} (h : ∀ i ∈ tg, i ∈ vs) : L2.wipe (tgS (L2.wipe σ vs) tg x ws) vs = L2.wipe σ vs := by
  unfold tgS
  split
  · rw [wipe_set (h _ (by simp)), wipe_idem]
  · rw [wipe_setS _ _ _ h, wipe_idem]
/-! ### what is walked -/
/-- while the world goes on from here, J yields xs -/
def ItOk (K : PySem.W.Frag) (b : Bool) (J : It) (xs : List PV) (ω : Wd) (H : Hp) : Prop := ∀ ω' H', Ext ω H ω' H' → (b = true → ExtE ω H ω' H') →
  (∀ i, i < xs.length → J.go i H') ∧ J.stop xs.length H' ∧ ∀ i x H'', i < xs.length → J.yld i H' x H'' → ∃ ω'' t, Grow ω' H' ω'' H'' ∧ xs[i]? = some t ∧ Rep K ω'' H'' x t
def postI (K : PySem.W.Frag) (b : Bool) (g : Gh) (ω : Wd) (ρ : En) (σ : St) (H : Hp) (W : Wx) (r : R PV) (Q : It → Hp → Prop) : Prop := match r with
  | .ok t st' => ∃ xs, itemsOf t = some xs ∧ ∀ J H' ω', ExtE ω H ω' H' → CelOk K ω' st' H' → ItOk K b J xs ω' H' → Q J H'
  | .exc e st' => ∀ H' ω', ExtE ω H ω' H' → CelOk K ω' st' H' → W e g ω' ρ st' σ H'
  | .bad => False
def ti (K : PySem.W.Frag) (b : Bool) (W : Wx) (f : En → Cel → R PV) : TI := fun σ H Q => ∃ g ω ρ st, Rel K g ω ρ st σ H ∧ postI K b g ω ρ σ H W (f ρ st) Q
theorem wPI {tg iter : Expr} {w w' : TI} (h : PI X tg iter w) (i : ∀ σ H R, w' σ H R → w σ H R) : PI X tg iter w' := ⟨fun pins s σ H R I q => h.run pins s σ H R I (i _ _ _ q)⟩
theorem pi_or {tg iter : Expr} {w w' : TI} (h : PI X tg iter w) (h' : PI X tg iter w') : PI X tg iter (fun σ H R => w σ H R ∨ w' σ H R) := ⟨fun pins s σ H R I q => by
  rcases q with q | q
  · exact h.run pins s σ H R I q
  · exact h'.run pins s σ H R I q⟩
theorem it_seq {J : It} {vs : List V} {ts : List PV} {bb : Bool} (r : RepL K ω H vs ts) (c : CelOk K ω st H)
    (h : ∀ ω' H', Ext ω H ω' H' → (bb = true → ExtE ω H ω' H') → (∀ i, i < vs.length → J.go i H') ∧ J.stop vs.length H' ∧ ∀ i x H'', J.yld i H' x H'' → H'' = H' ∧ vs[i]? = some x) : ItOk K bb J ts ω H := by
  intro ω' H' x xe
  obtain ⟨h1, h2, h3⟩ := h ω' H' x xe
  rw [← r.length]
  refine ⟨h1, h2, fun i y H'' hi hy => ?_⟩
  obtain ⟨rfl, e⟩ := h3 i y H'' hy
  obtain ⟨t, e1, r1⟩ := r.getV e
  exact ⟨ω', t, Grow.refl _ _, e1, r1.mono x⟩
theorem RepM.dct {b : Bool} {x : V} {ks : List Key} {ts : List PV} (h : RepM K b ω H x (.dct ks ts)) : ∃ a o kvs, x = .ref a ∧ H a = some (.frz o (.dK kvs)) ∧ ks = kvs.map (·.1) ∧ RepL K ω H (kvs.map (·.2)) ts := by
  rcases h with h | ⟨_, a, e, ⟨vs, ts', e1, e2, e3⟩, _⟩
  · cases h with
    | dct h r => exact ⟨_, _, _, rfl, h, rfl, r⟩
  · cases e1
theorem repl_keys {kvs : List (Key × V)} : RepL K ω H ((kvs.map (·.1)).map kV) ((kvs.map (·.1)).map kP) := by
  induction kvs with
  | nil => exact .nil
  | cons q r ih =>
    obtain ⟨k, v⟩ := q
    cases k with
    | inl i => exact .cons (.int i) ih
    | inr x => exact .cons (.str x) ih
/-- a list or a tuple; b: also a list that a name owns, where nothing but expressions run meanwhile -/
theorem si_seq {tg iter : Expr} {f : En → Cel → R PV} {bb : Bool} (h : PE X iter (tv X.K bb W f)) : PI X tg iter (ti X.K bb W f) := by
  refine wPI (pi_or (pi_list h) (pi_or (pi_tup h) (pi_or (pi_keys h) (pi_str h)))) fun σ H R ⟨g, ω, ρ, st, rel, q⟩ => ?_
  cases e : f ρ st with
  | bad => rw [e] at q; exact q.elim
  | exc x s => rw [e] at q; exact .inl ⟨g, ω, ρ, st, rel, by rw [e]; exact q⟩
  | ok t s =>
    rw [e] at q
    obtain ⟨xs, ex, q⟩ := q
    cases t with
    | lst ts =>
      cases ex
      refine .inl ⟨g, ω, ρ, st, rel, ?_⟩
      rw [e]
      intro x H' ω' y c p
      rcases p with p | ⟨hb, a, e1, ⟨vs, ts', e2, e3, e4⟩, nc⟩
      · cases p with
        | @lst a vs _ hs hh hr =>
          refine ⟨a, rfl, ⟨vs, .inl (.inl hh)⟩, q _ H' ω' y c (it_seq hr c fun ω2 H2 z _ => ?_)⟩
          have hq : SqL X.K H2 a vs := .inl (.inl (z.keep _ _ hh (.inl hs)))
          exact ⟨fun i hi => ⟨vs, vs[i], hq, by simp [hi]⟩, ⟨vs, hq, Nat.le_refl _⟩, fun i x H'' hy => ⟨hy.1, hy.2 vs hq⟩⟩
      · subst e1
        cases e2
        refine ⟨a, rfl, ⟨vs, .inl (.inl e3)⟩, q _ H' ω' y c (it_seq e4 c fun ω2 H2 z ze => ?_)⟩
        have hq : SqL X.K H2 a vs := .inl (.inl ((ze hb).keep _ _ e3 nc))
        exact ⟨fun i hi => ⟨vs, vs[i], hq, by simp [hi]⟩, ⟨vs, hq, Nat.le_refl _⟩, fun i x H'' hy => ⟨hy.1, hy.2 vs hq⟩⟩
    | rol ts =>
      cases ex
      refine .inl ⟨g, ω, ρ, st, rel, ?_⟩
      rw [e]
      intro x H' ω' y c p
      rcases p with p | ⟨hb, a, e1, ⟨vs, ts', e2, e3, e4⟩, nc⟩
      · cases p with
        | @rol a vs _ hh hr =>
          refine ⟨a, rfl, ⟨vs, hh.sq⟩, q _ H' ω' y c (it_seq hr c fun ω2 H2 z _ => ?_)⟩
          have hq : SqL X.K H2 a vs := (z.roL hh).sq
          exact ⟨fun i hi => ⟨vs, vs[i], hq, by simp [hi]⟩, ⟨vs, hq, Nat.le_refl _⟩, fun i x H'' hy => ⟨hy.1, hy.2 vs hq⟩⟩
      · cases e2
    | tup ts =>
      cases ex
      refine .inr (.inl ⟨g, ω, ρ, st, rel, ?_⟩)
      rw [e]
      intro x H' ω' y c p
      obtain ⟨a, vs, rfl, hh, hr⟩ := p.tup
      refine ⟨a, rfl, ⟨vs, hh⟩, q _ H' ω' y c (it_seq hr c fun ω2 H2 z _ => ?_)⟩
      have hq : SqT X.K H2 a vs := z.sqT hh
      exact ⟨fun i hi => ⟨vs, vs[i], hq, by simp [hi]⟩, ⟨vs, hq, Nat.le_refl _⟩, fun i x H'' hy => ⟨hy.1, hy.2 vs hq⟩⟩
    | dct ks ts =>
      cases ex
      refine .inr (.inr (.inl ⟨g, ω, ρ, st, rel, ?_⟩))
      rw [e]
      intro x H' ω' y c p
      obtain ⟨a, o, kvs, rfl, hh, rfl, hr⟩ := p.dct
      refine ⟨a, o, rfl, .inl ⟨kvs, hh, q _ H' ω' y c (it_seq (repl_keys (kvs := kvs)) c fun ω2 H2 z _ => ?_)⟩⟩
      have hq := z.keep _ _ hh (.inr trivial)
      refine ⟨fun i hi => ⟨hq, by simpa using hi⟩, ⟨hq, by simp⟩, fun i x H'' hy => ?_⟩
      obtain ⟨e1, kk, v, e2, rfl⟩ := hy
      exact ⟨e1, by simp [e2]⟩
    | str z =>
      cases ex
      refine .inr (.inr (.inr ⟨g, ω, ρ, st, rel, ?_⟩))
      rw [e]
      intro x H' ω' y c p
      have rp : RepL X.K ω' H' (z.cps.toList.map fun c => V.str ⟨#[c]⟩) (signsP z) := by
        unfold signsP
        induction z.cps.toList with
        | nil => exact .nil
        | cons k r ih => exact .cons (.str _) ih
      refine ⟨z, p.str, q _ H' ω' y c (it_seq rp c fun ω2 H2 _ _ => ?_)⟩
      refine ⟨fun i hi => by show i < z.cps.size; simpa using hi, by show z.cps.size ≤ _; simp, fun i x H'' hy => ?_⟩
      obtain ⟨e1, k, e2, rfl⟩ := hy
      refine ⟨e1, ?_⟩
      rw [List.getElem?_map, Array.getElem?_toList, e2]
      rfl
    | _ => cases ex
theorem bindI {α β : Type} {P : RX α β} {f : En → Cel → R α} {k : α → Cel → R PV} {Q : It → Hp → Prop} {bb : Bool} (r : Rel K g ω ρ st σ H) (h : postI K bb g ω ρ σ H W ((f ρ st).bind k) Q) :
    tG P K W f σ H (fun x H1 => ∃ ω1 st1 t, ExtE ω H ω1 H1 ∧ Rel K g ω1 ρ st1 σ H1 ∧ P ω1 H1 x t ∧ postI K bb g ω1 ρ σ H1 W (k t st1) Q) := by
  refine ⟨g, ω, ρ, st, r, ?_⟩
  cases e : f ρ st with
  | ok t s =>
    rw [e] at h
    intro x H1 ω1 x1 c p
    refine ⟨ω1, s, t, x1, r.extE x1 c, p, ?_⟩
    simp only [R.bind_ok] at h
    revert h
    cases k t s with
    | ok u s2 => exact fun ⟨xs, ex, h⟩ => ⟨xs, ex, fun J H' ω' y c i => h J H' ω' (x1.trans y) c i⟩
    | exc e2 s2 => exact fun h H' ω' y c => h H' ω' (x1.trans y) c
    | bad => exact fun h => h
  | exc x s => rw [e] at h; exact h
  | bad => rw [e] at h; exact h
theorem it_range {lo : Int} {n : Nat} {bb : Bool} {xs : List PV} (h : xs = (List.range n).map fun k => PV.int (lo + (k : Nat))) : ItOk K bb (Itr lo n) xs ω H := by
  intro ω' H' x xe
  subst h
  refine ⟨fun i hi => (by show i < n; simpa using hi), (by show n ≤ _; simp), fun i y H'' hi hy => ?_⟩
  obtain ⟨rfl, rfl⟩ := hy
  simp only [List.length_map, List.length_range] at hi
  exact ⟨ω', .int (lo + (i : Nat)), Grow.refl _ _, by simp [hi], .int _⟩
theorem rOk_le {i : Int} (h : rOk i = true) : -(2 ^ 62) ≤ i ∧ i < 2 ^ 62 := by
  unfold rOk at h
  simpa using h
theorem si_rng1 {tg iter : Expr} {f : En → Cel → R PV} {bb : Bool} (hpi : ∀ ta, PE X a ta → PI X tg iter (iRng1 (tCons ta tNil))) (ha : PE X a (tv X.K false W f)) : PI X tg iter (ti X.K bb W fun ρ st => (f ρ st).bind fun x st => R.of (rng1V x) st) := by
  refine wPI (hpi _ ha) fun σ H R ⟨g, ω, ρ, st, rel, q⟩ => (bindI (P := RepM X.K false) (f := f) rel q).mono fun x H1 ⟨ω1, st1, t, x1, rel1, p, q⟩ => ?_
  cases t with
  | int i =>
    unfold rng1V at q
    dsimp only at q
    by_cases hz : rOk i = true
    · rw [if_pos hz] at q
      obtain ⟨xs, ex, q⟩ := q
      cases ex
      refine ⟨i, by rw [p.int], (rOk_le hz).1, (rOk_le hz).2, q _ H1 ω1 (ExtE.refl _ _) rel1.cells (it_range ?_)⟩
      unfold rngP
      simp
    · rw [if_neg hz] at q; exact q.elim
  | _ => exact q.elim
theorem si_rng2 {tg iter : Expr} {f f' : En → Cel → R PV} {bb : Bool} (hpi : ∀ ta tb, PE X a ta → PE X b tb → PI X tg iter (iRng2 (tCons ta (tCons tb tNil)))) (ha : PE X a (tv X.K false W f)) (hb : PE X b (tv X.K false W f')) :
    PI X tg iter (ti X.K bb W fun ρ st => (f ρ st).bind fun x st => (f' ρ st).bind fun y st => R.of (rng2V x y) st) := by
  refine wPI (hpi _ _ ha hb) fun σ H R ⟨g, ω, ρ, st, rel, q⟩ => (bindI (P := RepM X.K false) (f := f) rel q).mono fun x H1 ⟨ω1, st1, t, x1, rel1, p, q⟩ => ?_
  refine (bindI (P := RepM X.K false) (f := f') rel1 q).mono fun y H2 ⟨ω2, st2, u, x2, rel2, p2, q2⟩ => ?_
  cases t with
  | int i =>
    cases u with
    | int j =>
      unfold rng2V at q2
      dsimp only at q2
      by_cases hz : (rOk i && rOk j) = true
      · rw [if_pos hz] at q2
        simp only [Bool.and_eq_true] at hz
        obtain ⟨xs, ex, q2⟩ := q2
        cases ex
        refine ⟨i, j, by rw [p.int, p2.int], ⟨(rOk_le hz.1).1, (rOk_le hz.1).2, (rOk_le hz.2).1, (rOk_le hz.2).2⟩, q2 _ H2 ω2 (ExtE.refl _ _) rel2.cells (it_range ?_)⟩
        unfold rngP
        rfl
      · rw [if_neg hz] at q2; exact q2.elim
    | _ => exact q2.elim
  | _ => exact q2.elim
theorem it_zip {J : It} {xs ys : List V} {ts us : List PV} {bb : Bool} (r1 : RepL K ω H xs ts) (r2 : RepL K ω H ys us)
    (h : ∀ ω' H', Ext ω H ω' H' → (bb = true → ExtE ω H ω' H') → (∀ i, i < min xs.length ys.length → J.go i H') ∧ J.stop (min xs.length ys.length) H' ∧
      ∀ i v H'', J.yld i H' v H'' → ∃ T x y, v = .ref T ∧ H' T = none ∧ H'' = upd H' T (.tup [x, y]) ∧ xs[i]? = some x ∧ ys[i]? = some y) :
    ItOk K bb J ((ts.zip us).map fun p => .tup [p.1, p.2]) ω H := by
  intro ω' H' x xe
  obtain ⟨h1, h2, h3⟩ := h ω' H' x xe
  have hl : ((ts.zip us).map fun p : PV × PV => PV.tup [p.1, p.2]).length = min xs.length ys.length := by rw [List.length_map, List.length_zip, r1.length, r2.length]
  rw [hl]
  refine ⟨h1, h2, fun i v H'' hi hy => ?_⟩
  obtain ⟨T, x1, y1, rfl, hT, rfl, e1, e2⟩ := h3 i v H'' hy
  obtain ⟨t, f1, g1⟩ := r1.getV e1
  obtain ⟨u, f2, g2⟩ := r2.getV e2
  refine ⟨ω', .tup [t, u], Grow.upd hT, ?_, .tup (.inl (.inl upd_same)) (.cons (g1.mono (x.trans (Grow.upd hT).ext)) (.cons (g2.mono (x.trans (Grow.upd hT).ext)) .nil))⟩
  rw [List.getElem?_map, (List.getElem?_zip_eq_some (z := (t, u))).mpr ⟨f1, f2⟩]
  rfl
theorem si_zip {tg iter : Expr} {f f' : En → Cel → R PV} (hpi : ∀ ta tb, PE X a ta → PE X b tb → PI X tg iter (RZ.iZipA X.K (tCons ta (tCons tb tNil)))) (ha : PE X a (tv X.K false W f)) (hb : PE X b (tv X.K false W f')) {bb : Bool} :
    PI X tg iter (ti X.K bb W fun ρ st => (f ρ st).bind fun x st => (f' ρ st).bind fun y st => R.of (zipV x y) st) := by
  refine wPI (hpi _ _ ha hb) fun σ H R ⟨g, ω, ρ, st, rel, q⟩ => (bindI (P := RepM X.K false) (f := f) rel q).mono fun x H1 ⟨ω1, st1, t, x1, rel1, p, q⟩ => ?_
  refine (bindI (P := RepM X.K false) (f := f') rel1 q).mono fun y H2 ⟨ω2, st2, u, x2, rel2, p2, q2⟩ => ?_
  have pp := p.extE x2 rel1.cells
  cases t with
  | tup ts =>
    cases u with
    | tup us =>
      obtain ⟨_, ex, q2⟩ := q2
      cases ex
      obtain ⟨a, xs, rfl, ha, ra⟩ := pp.tup
      obtain ⟨b, ys, rfl, hb, rb⟩ := p2.tup
      refine ⟨a, b, xs, ys, rfl, .inr ⟨ha, hb, q2 _ H2 ω2 (ExtE.refl _ _) rel2.cells (it_zip ra rb fun ω' H' z _ => ?_)⟩⟩
      have ha' := z.sqT ha
      have hb' := z.sqT hb
      refine ⟨fun i hi => ⟨xs, ys, xs[i]'(by omega), ys[i]'(by omega), ha', hb', by simp [show i < xs.length by omega], by simp [show i < ys.length by omega]⟩, ⟨xs, ys, ha', hb', by omega⟩, fun i v H'' hy => ?_⟩
      obtain ⟨T, x, y, e1, e2, e3, e4, e5⟩ := hy
      exact ⟨T, x, y, e1, e2, e3, e4 xs ha', e5 ys hb'⟩
    | _ => exact q2.elim
  | lst ts =>
    cases u with
    | lst us =>
      obtain ⟨_, ex, q2⟩ := q2
      cases ex
      cases pp.rep with
      | @lst a xs _ hs ha ra =>
        cases p2.rep with
        | @lst b ys _ hs' hb rb =>
          refine ⟨a, b, xs, ys, rfl, .inl ⟨.inl (.inl ha), .inl (.inl hb), q2 _ H2 ω2 (ExtE.refl _ _) rel2.cells (it_zip ra rb fun ω' H' z _ => ?_)⟩⟩
          have ha' : SqL X.K H' a xs := .inl (.inl (z.keep _ _ ha (.inl hs)))
          have hb' : SqL X.K H' b ys := .inl (.inl (z.keep _ _ hb (.inl hs')))
          refine ⟨fun i hi => ⟨xs, ys, xs[i]'(by omega), ys[i]'(by omega), ha', hb', by simp [show i < xs.length by omega], by simp [show i < ys.length by omega]⟩, ⟨xs, ys, ha', hb', by omega⟩, fun i v H'' hy => ?_⟩
          obtain ⟨T, x, y, e1, e2, e3, e4, e5⟩ := hy
          exact ⟨T, x, y, e1, e2, e3, e4 xs ha', e5 ys hb'⟩
    | _ => exact q2.elim
  | _ => exact q2.elim
end
end Ev
namespace Ev
open PySem PySem.Spec PyProof.Rows L2
/-! ### enumerate(tuple) -/
set_option maxHeartbeats 1000000 in
theorem new_enumT (l : Addr) (items : Array Value) (n : Nat) (dd : Option Addr) (sl : Array (Option Value)) :
    Meets (Builtin.«enumerate.__new__» ⟨[.type "enumerate", .ref l], []⟩) (fun _ R s => s.heap.get? l = some { cls := .type "tuple", dict := dd, data := .seq items n, slots := sl } ∧
      R (.ok (.ret (.ref (s.heap.push { cls := .type "tuple_iterator", data := .fields #[.ref l, .int 0 0] }).objs.size)))
        { s with heap := (s.heap.push { cls := .type "tuple_iterator", data := .fields #[.ref l, .int 0 0] }).push { cls := .type "enumerate", data := .fields #[.none, .bool false, .ref s.heap.objs.size, rawInt 0, .none, .none] } }) :=
  .of_wp fun prog w A R s h => by
    obtain ⟨hp, gg, dr, tk, os⟩ := s
    obtain ⟨hl, h⟩ := h
    have hsub := sub_enumerate
    have hT : Heap.IsTuple (Shared.heap ⟨hp, gg, dr, tk, os⟩) l items := ⟨_, hl, rfl, n, rfl⟩
    wp_walk using AutoSeq1.wpAny_loadPart' hl
    refine wpAny_stack_any fun st => wpAny_pure ?_
    split
    · rename_i c _ _ _ _ _
      cases (c == Value.type "enumerate")
      · wp_walk using AutoSeq1.wpAny_loadPart' hl, wpAny_pyIter_tuple hT
        exact ⟨_, rfl, h⟩
      · wp_walk using AutoSeq1.wpAny_loadPart' hl, wpAny_pyIter_tuple hT
        exact ⟨_, rfl, h⟩
    · wp_walk using AutoSeq1.wpAny_loadPart' hl, wpAny_pyIter_tuple hT
      exact ⟨_, rfl, h⟩
section
variable {prog : Program} {w : World} {A : Around} {E : Value → Shared → Prop} {s : Shared}
theorem call_enumT {l : Addr} {items : Array Value} {Q : Value → Shared → Prop} (hT : s.heap.IsTuple l items)
    (k : ∀ h', IsEnum h' (s.heap.objs.size + 1) s.heap.objs.size 0 .none → h'.IsTupleIter s.heap.objs.size l 0 → (∀ b o, s.heap.get? b = some o → h'.get? b = some o) → Q (.ref (s.heap.objs.size + 1)) { s with heap := h' }) :
    wpAny (model prog w) A (call (.type "enumerate") [.ref l]) Q E s := by
  obtain ⟨⟨c, dct, dt, sl⟩, hl, hc, n, hd⟩ := hT
  obtain rfl : c = .type "tuple" := hc
  obtain rfl : dt = .seq items n := hd
  have e1 : (s.heap.push { cls := .type "tuple_iterator", data := .fields #[.ref l, .int 0 0] }).objs.size = s.heap.objs.size + 1 := Heap.size_push ..
  have he : ((s.heap.push { cls := .type "tuple_iterator", data := .fields #[.ref l, .int 0 0] }).push { cls := .type "enumerate", data := .fields #[.none, .bool false, .ref s.heap.objs.size, rawInt 0, .none, .none] }).get? (s.heap.objs.size + 1) = some { cls := .type "enumerate", data := .fields #[.none, .bool false, .ref s.heap.objs.size, rawInt 0, .none, .none] } := by
    have z := Heap.get?_push_size (s.heap.push { cls := .type "tuple_iterator", data := .fields #[.ref l, .int 0 0] }) (o := { cls := .type "enumerate", data := .fields #[.none, .bool false, .ref s.heap.objs.size, rawInt 0, .none, .none] }) rfl
    rw [e1] at z
    exact z
  have hi : ((s.heap.push { cls := .type "tuple_iterator", data := .fields #[.ref l, .int 0 0] }).push { cls := .type "enumerate", data := .fields #[.none, .bool false, .ref s.heap.objs.size, rawInt 0, .none, .none] }).IsTupleIter s.heap.objs.size l 0 :=
    ⟨_, Heap.get?_push_of_some _ (Heap.get?_push_size _ rfl), rfl, rfl⟩
  refine callType_new F.called_enumerate (by decide) (F.typeCall_enumerate_1 _) (F.newCall_enumerate_1 _) (fun obj => F.args_object_init_2 obj _) F.entry_enumerate_new (new_enumT l items n dct sl) ⟨hl, ?_⟩
  show _ ∧ _
  rw [e1]
  exact ⟨⟨_, he, rfl⟩, k _ he hi fun b o e => Heap.get?_push_of_some _ (Heap.get?_push_of_some _ e)⟩
theorem drawsT (hh : A.handled = none) (it l : Addr) (hne : l ≠ it) (items : Array Value) :
    Draws prog w A it [it, l] items.size (fun i v => items[i]? = some v) (fun i h => h.IsTupleIter it l i ∧ h.IsTuple l items) where
  live := fun _ _ st => let ⟨o, ho, _⟩ := st.1; ⟨o, ho⟩
  frame := fun _ _ _ st hk => by
    obtain ⟨⟨o, e, r⟩, ⟨o', e', r'⟩⟩ := st
    exact ⟨⟨o, hk it (by simp) o e, r⟩, ⟨o', hk l (by simp) o' e', r'⟩⟩
  item := fun i s Q E hi st hQ => RZ.nextOf_tuple_item st.1 st.2 (x := items[i]) (by simp [hi]) fun h' hit' hs' => hQ _ h' s.toks (by simp [hi]) ⟨hit', st.2.extBut hs'.extBut hne⟩ hs'
  done := fun s Q E st hE => RZ.nextOf_tuple_end hh st.1 st.2 (by simp) hE
end
/-- the tuple at a, each item in a new pair -/
def IteT (K : PySem.W.Frag) (a : Addr) : It :=
  ⟨fun i H => ∃ (xs : List V) (x : V), SqT K H a xs ∧ xs[i]? = some x, fun i H v H' => ∃ T x, v = .ref T ∧ H T = none ∧ H' = upd H T (.tup [.int (i : Nat), x]) ∧ ∀ xs, SqT K H a xs → xs[i]? = some x, fun i H => ∃ xs : List V, SqT K H a xs ∧ xs.length ≤ i⟩
theorem turn_enumT {P : Program} {w : World} {K : PySem.W.Frag} {elts : List Expr} {kk : Nat} {tpos : Pos} (a e it : Addr) :
    Turn P w K (.Tuple elts kk tpos) (IteT K a) [e, it] e (fun i h => (∃ old, IsEnum h e it ((i : Nat) : Int) old) ∧ h.IsTupleIter it a i ∧ e ≠ it ∧ a ≠ e ∧ a ≠ it) where
  mem := List.mem_cons_self ..
  obj := fun i h st b hb => by
    obtain ⟨⟨old, he⟩, ⟨o, ho, hc, hd⟩, _⟩ := st
    rcases List.mem_cons.mp hb with z | z
    · subst z; exact ⟨_, he, nofun⟩
    · rw [List.mem_singleton.mp z]; exact ⟨o, ho, fun v q => by rw [hd] at q; cases q⟩
  keep := fun i h h' st k => by
    obtain ⟨⟨old, he⟩, ⟨o, ho, r⟩, rest⟩ := st
    exact ⟨⟨old, k e (List.mem_cons_self ..) _ he⟩, ⟨o, k it (by simp) _ ho, r⟩, rest⟩
  item := by
    intro X hP hw hK hc i pins s σ H E I hf st hg
    subst hP hw hK
    obtain ⟨⟨old, he⟩, hit, hne, hae, hai⟩ := st
    obtain ⟨xs, x, hq, hx⟩ := hg
    obtain ⟨its, rv, tp, hz⟩ := I.tuple hq
    obtain ⟨u, hu, ru⟩ := rv.get hx
    have lte : e < s.heap.objs.size := Heap.lt_size he
    have lti : it < s.heap.objs.size := by obtain ⟨_, q, _⟩ := hit; exact Heap.lt_size q
    have lt : i < its.toArray.size := by
      rcases Nat.lt_or_ge i its.length with z | z
      · simpa using z
      · rw [List.getElem?_eq_none z] at hu; cases hu
    refine wpAny_pyNext_enum_itemD (drawsT (A := X.A.in1) (I.ok.hd hc) it a hai its.toArray) he ⟨hit, tp⟩ lt hne (by simp [hne, Ne.symm hae]) fun v h' tk hv ho st' hT hsz hk => ?_
    have ev : v = u := by
      have : its.toArray[i]? = some u := by simpa using hu
      rw [this] at hv
      exact (Option.some.inj hv).symm
    subst ev
    refine ⟨_, rfl, wpAny_letOwnedTupleGo_enum (s := { s with heap := h', toks := tk + 1 }) ho fun h2 he' sb => ?_⟩
    have hT2 : h2.get? s.heap.objs.size = some { cls := .type "tuple", data := .seq #[.int i tk, v] } := (sb.2 _ (Nat.ne_of_gt lte)).trans hT
    have ob : ObjOk X.prog X.w (upd H s.heap.objs.size (.tup [.int (i : Nat), x])) h2 s.heap.objs.size (.tup [.int (i : Nat), x]) :=
      ⟨by show 2 ≤ sizeLine; decide, [.int i tk, v], .cons ⟨_, rfl⟩ (.cons ru .nil), ⟨_, hT2, rfl, _, rfl⟩⟩
    have J : L2.Inv X pins σ (upd H s.heap.objs.size (.tup [.int (i : Nat), x])) { s with heap := h2, toks := tk + 1 } :=
      I.turnedNew (ch := [e, it]) (fun b o hb q => (sb.2 b (fun z => hb (by simp [z]))).trans (hk b o (fun z => hb (by simp [z])) (fun z => hb (by simp [z])) q)) hf (Nat.le_refl _) ob
    refine ⟨.ref s.heap.objs.size, _, J, rfl, ⟨_, x, rfl, I.hok.fresh (Nat.le_refl _), rfl, fun ys hy => by rw [I.tuple_inj hy hq]; exact hx⟩, ⟨⟨v, ?_⟩, ?_, hne, hae, hai⟩, fun b hb => ?_⟩
    · rw [show ((i + 1 : Nat) : Int) = (i : Int) + 1 by omega]; exact he'
    · obtain ⟨⟨o2, e2, r2⟩, _⟩ := st'
      exact ⟨o2, (sb.2 it (Ne.symm hne)).trans e2, r2⟩
    · have lb : b < s.heap.objs.size := by
        rcases List.mem_cons.mp hb with z | z
        · rw [z]; exact lte
        · rw [List.mem_singleton.mp z]; exact lti
      rw [upd_ne (Nat.ne_of_lt lb)]
      exact (hf b hb).1
  done := by
    intro X hP hw hK hc i pins s σ H E I hf st hg
    subst hP hw hK
    obtain ⟨⟨old, he⟩, hit, hne, hae, hai⟩ := st
    obtain ⟨xs, hq, hx⟩ := hg
    obtain ⟨its, rv, tp, hz⟩ := I.tuple hq
    obtain ⟨f0, f1, f2, f3, f4, f5⟩ := hf it (by simp)
    have hl := rv.length
    have none : its.toArray[i]? = none := by simp; omega
    have hT : s.TypeIs (.ref e) "enumerate" := ⟨_, he, rfl⟩
    unfold pyNext
    refine wpAny_bind (wpAny_attempt (wpAny_callSpecial?_slot (name := Str.ofString "__next__") hT F.slot_enumerate_next (wpAny_call_entry F.slot_enumerate_next hT F.entry_enumerate_next ?_ (F.args_enumerate_next_1 _))))
    show wpAny _ _ (field (.ref e) 2 >>= _) _ _ _; refine wpAny_bind (wpAny_field he rfl (x := .ref it) rfl ?_)
    refine wpAny_bind (RZ.nextOf_tuple_end (A := X.A.in1) (I.ok.hd hc) hit tp none fun h' x he' hx' => ?_)
    obtain ⟨o, ho, hcl⟩ := hx'
    refine wpAny_bind (wpAny_isInstance (T := "StopIteration") (b := true) ⟨o, ho, hcl⟩ isSubtype_stop (wpAny_pure ?_))
    exact ⟨rfl, I.turned (t' := s.toks) (fun b o hb q => he' b o hb q) f0 f1 f3 f4 f5⟩
  self := fun A i s Q E st h => let ⟨⟨_, he⟩, _⟩ := st; wpAny_pyIter_enum he h
def iEnumT (K : PySem.W.Frag) (ta : TA) : TI := fun σ H R => ta σ H fun vs H1 => ∃ a xs, vs = [.ref a] ∧ SqT K H1 a xs ∧ R (IteT K a) H1
theorem pi_enumT {X : Cx} {e : Expr} {ta : TA} {p pos tpos : Pos} {elts : List Expr} {kk : Nat} (hg : Gl X "enumerate") (hm : X.mg "enumerate" = none) (ha : PA X [e] ta) (hs : starEach [e] X.env = [(false, eval e X.env)]) :
    PI X (.Tuple elts kk tpos) (.Call (.Name "enumerate" p) [e] [] pos) (iEnumT X.K ta) := by
  refine ⟨fun pins s σ H R I h => Call_ (ld_blt I hg hm boot_enumerate (PyProof.Rows.callWith_type1 (thn (ha.run pos pins s σ H _ I h) fun us s1 ⟨vs, H1, I1, r1, q1⟩ => ?_) hs rfl))⟩
  obtain ⟨a, xs, rfl, hq, q⟩ := q1
  rw [Vals.ref1 r1]
  obtain ⟨its, rv, tp, hz⟩ := I1.tuple hq
  have la : a < s1.heap.objs.size := by obtain ⟨_, z, _⟩ := tp; exact Heap.lt_size z
  refine call_enumT tp fun h' he hit hk => wpAny_pyIter_enum he ?_
  have I2 : L2.Inv X pins σ H1 { s1 with heap := h' } := I1.kept (t' := s1.toks) hk
  refine ⟨s1.heap.objs.size + 1, [s1.heap.objs.size + 1, s1.heap.objs.size], _, _, H1, rfl, I2, turn_enumT a (s1.heap.objs.size + 1) s1.heap.objs.size, ⟨⟨.none, he⟩, hit, Nat.succ_ne_self _, Nat.ne_of_lt (Nat.lt_succ_of_lt la), Nat.ne_of_lt la⟩, fun b hb => ?_, q⟩
  have le : s1.heap.objs.size ≤ b := by
    rcases List.mem_cons.mp hb with z | z
    · rw [z]; exact Nat.le_succ _
    · rw [List.mem_singleton.mp z]; exact Nat.le_refl _
  exact I1.fpOk le (I1.hok.fresh le)
theorem enumP_len : ∀ (n : Nat) (ts : List PV), (enumP n ts).length = ts.length
  | _, [] => rfl
  | n, t :: ts => by rw [enumP, List.length_cons, List.length_cons, enumP_len]
theorem enumP_get : ∀ (n : Nat) (ts : List PV) (i : Nat) (t : PV), ts[i]? = some t → (enumP n ts)[i]? = some (.tup [.int ((n + i : Nat) : Int), t])
  | n, t :: ts, 0, u, h => by simp at h; subst h; rfl
  | n, t :: ts, i + 1, u, h => by
    have := enumP_get (n + 1) ts i u (by simpa using h)
    rw [enumP, List.getElem?_cons_succ, this]
    congr 4
    omega
  | n, [], i, u, h => by simp at h
section
variable {X : Cx} {W : Wx} {a : Expr} {K : PySem.W.Frag} {g : Gh} {ω ω' : Wd} {ρ : En} {st st' : Cel} {σ : L2.St} {H H' : Hp}
theorem it_enum {J : It} {xs : List V} {ts : List PV} {bb : Bool} (r : RepL K ω H xs ts)
    (h : ∀ ω' H', Ext ω H ω' H' → (bb = true → ExtE ω H ω' H') → (∀ i, i < xs.length → J.go i H') ∧ J.stop xs.length H' ∧ ∀ i v H'', J.yld i H' v H'' → ∃ T x, v = .ref T ∧ H' T = none ∧ H'' = upd H' T (.tup [.int (i : Nat), x]) ∧ xs[i]? = some x) :
    ItOk K bb J (enumP 0 ts) ω H := by
  intro ω' H' x xe
  obtain ⟨h1, h2, h3⟩ := h ω' H' x xe
  rw [enumP_len, ← r.length]
  refine ⟨h1, h2, fun i v H'' hi hy => ?_⟩
  obtain ⟨T, x1, rfl, hT, rfl, e1⟩ := h3 i v H'' hy
  obtain ⟨t, f1, g1⟩ := r.getV e1
  refine ⟨ω', _, Grow.upd hT, enumP_get 0 ts i t f1, ?_⟩
  rw [Nat.zero_add]
  exact .tup (.inl (.inl upd_same)) (.cons (.int _) (.cons (g1.mono (x.trans (Grow.upd hT).ext)) .nil))
theorem si_enum {tg iter : Expr} {f : En → Cel → R PV} {bb : Bool} (hpi : ∀ ta, PE X a ta → PI X tg iter (fun σ H R => iEnum X.K (tCons ta tNil) σ H R ∨ iEnumT X.K (tCons ta tNil) σ H R)) (ha : PE X a (tv X.K false W f)) :
    PI X tg iter (ti X.K bb W fun ρ st => (f ρ st).bind fun x st => R.of (enumV x) st) := by
  refine wPI (hpi _ ha) fun σ H R ⟨g, ω, ρ, st, rel, q⟩ => ?_
  change postI X.K bb g ω ρ σ H W ((f ρ st).bind fun x st => Ev.R.of (enumV x) st) R at q
  cases e : f ρ st with
  | bad => rw [e] at q; exact q.elim
  | exc x s =>
    rw [e] at q
    exact .inl ⟨g, ω, ρ, st, rel, by rw [e]; exact q⟩
  | ok t s =>
    rw [e] at q
    cases t with
    | lst ts =>
      refine .inl ⟨g, ω, ρ, st, rel, ?_⟩
      rw [e]
      intro x H1 ω1 x1 c1 p
      obtain ⟨_, ex, q⟩ := q
      cases ex
      cases p.rep with
      | @lst a xs _ hs ha ra =>
        refine ⟨a, xs, rfl, .inl (.inl ha), q _ H1 ω1 x1 c1 (it_enum ra fun ω' H' z _ => ?_)⟩
        have ha' : SqL X.K H' a xs := .inl (.inl (z.keep _ _ ha (.inl hs)))
        refine ⟨fun i hi => ⟨xs, xs[i], ha', by simp [hi]⟩, ⟨xs, ha', Nat.le_refl _⟩, fun i v H'' hy => ?_⟩
        obtain ⟨T, x, e1, e2, e3, e4⟩ := hy
        exact ⟨T, x, e1, e2, e3, e4 xs ha'⟩
    | tup ts =>
      refine .inr ⟨g, ω, ρ, st, rel, ?_⟩
      rw [e]
      intro x H1 ω1 x1 c1 p
      obtain ⟨_, ex, q⟩ := q
      cases ex
      obtain ⟨a, xs, rfl, ha, ra⟩ := p.tup
      refine ⟨a, xs, rfl, ha, q _ H1 ω1 x1 c1 (it_enum ra fun ω' H' z _ => ?_)⟩
      have ha' := z.sqT ha
      refine ⟨fun i hi => ⟨xs, xs[i], ha', by simp [hi]⟩, ⟨xs, ha', Nat.le_refl _⟩, fun i v H'' hy => ?_⟩
      obtain ⟨T, x, e1, e2, e3, e4⟩ := hy
      exact ⟨T, x, e1, e2, e3, e4 xs ha'⟩
    | _ => exact q.elim
end
end Ev
namespace Ev
open PySem L2
section
variable {K : PySem.W.Frag} {g : Gh} {ω ω' : Wd} {ρ : En} {st st' : Cel} {σ : St} {H H' : Hp} {W : Wx} {X : Cx} {e a b : Expr}
abbrev W0 : Wx := fun _ _ _ _ _ _ _ => False
/-- an unshared list changes -/
theorem extUpd {D : Addr} {vs : List V} {o : HO} (h : H D = some (.lst vs)) (hs : ¬ ω.S D) : Ext ω H ω (upd H D o) := ⟨fun _ z => z, ⟨[], by simp⟩, fun a u e s => by
  have ne : a ≠ D := by
    rintro rfl
    rcases s with s | s
    · exact hs s
    · rw [h] at e; cases e; exact s
  rw [upd_ne ne]; exact e⟩
theorem CelOk.upd {D : Addr} {vs : List V} {o : HO} (c : CelOk K ω st H) (h : H D = some (.lst vs)) (hs : ¬ ω.S D) (hc : D ∉ ω.cs) : CelOk K ω st (L2.upd H D o) := by
  refine ⟨c.len, c.nd, c.out, fun a z => ?_, fun k a ha => ?_⟩
  · obtain ⟨u, q⟩ := c.trk a z
    exact ⟨u, by rw [upd_ne (fun e => hs (by rw [← e]; exact z))]; exact q⟩
  · obtain ⟨ws, ts, h1, h2, h3⟩ := c.at_ k a ha
    have ne : a ≠ D := fun e => hc (by rw [← e]; exact List.mem_of_getElem? ha)
    exact ⟨ws, ts, h1, by rw [upd_ne ne]; exact h2, h3.mono (extUpd h hs)⟩
/-- all that stood ahead of D stays -/
theorem ExtE.updNew {ω0 : Wd} {H0 : Hp} {D : Addr} {o : HO} (x : ExtE ω0 H0 ω H) (h0 : H0 D = Option.none) : ExtE ω0 H0 ω (L2.upd H D o) := by
  refine ⟨x.sub, x.cs, fun a u e n => ?_, x.newS, x.newC, fun a u e => ?_⟩
  · rw [upd_ne (fun z => by rw [z, h0] at e; cases e)]; exact x.keep a u e n
  · rw [upd_ne (fun z => by rw [z, h0] at e; cases e)]; exact x.there a u e
/-- the state of a comprehension ahead of turn i -/
structure Lc (K : PySem.W.Frag) (ω0 : Wd) (H0 : Hp) (D : Addr) (f : PV → Cel → R (Option PV)) (xs : List PV) (full : List PV) (stF : Cel) (i : Nat) (H : Hp) : Prop where
  ex : ∃ ω st vs ys rest, ExtE ω0 H0 ω H ∧ CelOk K ω st H ∧ H D = some (.lst vs) ∧ ¬ ω.S D ∧ D ∉ ω.cs ∧ RepL K ω H vs ys ∧ compL f (xs.drop i) st = .ok rest stF ∧ full = ys ++ rest
/-- a turn's own computation -/
def turnF (Φ : Nat → List PV → Cel → R PV) (elt : C) (tg : List Nat) (ifs : Cs) (own : List Nat) (ρ : En) : PV → Cel → R (Option PV) := fun x st => match assignT tg x (wipeE ρ own) with
  | some ρ1 => (evt Φ ifs ρ1 st).bind fun b st => if b then (ev Φ elt ρ1 st).bind fun y st => .ok (some y) st else .ok none st
  | none => .bad
theorem drop_cons {α : Type} {xs : List α} {i : Nat} {x : α} (h : xs[i]? = some x) : xs.drop i = x :: xs.drop (i + 1) := by
  have hi : i < xs.length := by
    rcases Nat.lt_or_ge i xs.length with z | z
    · exact z
    · rw [List.getElem?_eq_none z] at h; cases h
  rw [List.drop_eq_getElem_cons hi]
  rw [List.getElem?_eq_getElem hi] at h
  rw [Option.some.inj h]
theorem comp_w {Φ : Nat → List PV → Cel → R PV} {elt : C} {tg own : List Nat} {it : C} {ifs : Cs} (hsub : ∀ i ∈ tg, i ∈ own) : ∀ σ H Q, tvF K W (ev Φ (.comp elt tg it ifs own)) σ H Q →
    tLc (ti K true W (ev Φ it)) (gAsg K tg) (tvbb K W0 (evt Φ ifs)) (tv K false W0 (ev Φ elt)) own σ H Q := by
  intro σ H Q ⟨g, ω, ρ, st, rel, h⟩
  have hd : ev Φ (.comp elt tg it ifs own) ρ st = (ev Φ it ρ st).bind fun iv st => match itemsOf iv with
    | some xs => (compL (turnF Φ elt tg ifs own ρ) xs st).bind fun ys st => if szOk ys.length then .ok (.lst ys) st else .bad
    | none => .bad := by
    rw [ev]
    rfl
  rw [hd] at h
  refine ⟨g, ω, ρ, st, rel, ?_⟩
  cases e1 : ev Φ it ρ st with
  | bad => rw [e1] at h; exact h.elim
  | exc x s => rw [e1] at h; exact h
  | ok iv s =>
    rw [e1] at h
    simp only [R.bind_ok] at h
    cases e2 : itemsOf iv with
    | none => rw [e2] at h; exact h.elim
    | some xs =>
      rw [e2] at h
      refine ⟨xs, e2, fun J H1 ω1 x1 c1 hJ D hD => ?_⟩
      dsimp only at h
      cases e3 : compL (turnF Φ elt tg ifs own ρ) xs s with
      | bad => rw [e3] at h; exact h.elim
      | exc x s3 =>
        exfalso
        have : ∀ (l : List PV) (s : Cel), compL (turnF Φ elt tg ifs own ρ) l s ≠ .exc x s3 := by
          intro l
          induction l with
          | nil => intro s z; cases z
          | cons y ys ih =>
            intro s z
            unfold compL at z
            split at z
            · rename_i o st1 _
              cases q : compL (turnF Φ elt tg ifs own ρ) ys st1 with
              | ok l2 s2 => rw [q] at z; cases z
              | exc x2 s2 => rw [q] at z; cases z; exact ih st1 q
              | bad => rw [q] at z; cases z
            · cases z
        exact this xs s e3
      | ok full stF =>
        rw [e3] at h
        simp only [R.bind_ok] at h
        have hz : szOk full.length = true := by
          cases q : szOk full.length with
          | true => rfl
          | false => rw [q] at h; exact h.elim
        rw [if_pos hz] at h
        have hz' := szOk_le hz
        have nS : ¬ ω1.S D := fun z => by
          obtain ⟨o, q⟩ := c1.trk D z
          rw [hD] at q; cases q
        have nC : D ∉ ω1.cs := fun z => by
          obtain ⟨o, q⟩ := c1.lstAt z
          rw [hD] at q; cases q
        refine ⟨fun i m H => m = xs.length - i ∧ i ≤ xs.length ∧ Lc K ω1 H1 D (turnF Φ elt tg ifs own ρ) xs full stF i H, ⟨xs.length, by simp, Nat.zero_le _, ?_⟩, ?_⟩
        · refine ⟨ω1, s, [], [], full, (Grow.upd hD).toE, c1.grow (Grow.upd hD), upd_same, nS, nC, .nil, e3, rfl⟩
        · rintro i m H2 ⟨rfl, hi, ⟨ω2, st2, vs, ys, rest, x2, c2, hD2, nS2, nC2, r2, e4, e5⟩⟩
          obtain ⟨go, stop, yld⟩ := hJ ω2 H2 (x2.ext c1) (fun _ => x2)
          rcases Nat.lt_or_ge i xs.length with hlt | hge
          rotate_left
          · have ei : i = xs.length := by omega
            subst ei
            rw [List.drop_length] at e4
            cases e4
            rw [List.append_nil] at e5
            subst e5
            refine .inl ⟨stop, ?_⟩
            refine h _ _ ω2 (x1.trans x2) c2 ⟨D, vs, full, rfl, rfl, x1.none hD, hD2, nS2, nC2, r2⟩
          · refine .inr ⟨go i hlt, fun H' => i + 1 ≤ xs.length ∧ Lc K ω1 H1 D (turnF Φ elt tg ifs own ρ) xs full stF (i + 1) H', fun H' hN => ⟨xs.length - (i + 1), by omega, rfl, hN.1, hN.2⟩, fun x H3 hy => ?_⟩
            obtain ⟨ω3, t, w3, ex, rx⟩ := yld i x H3 hlt hy
            have hD3 : H3 D = some (.lst vs) := w3.keep _ _ hD2
            have nS3 : ¬ ω3.S D := fun z => by
              rcases w3.new D z with z | ⟨z, _⟩
              · exact nS2 z
              · rw [hD2] at z; cases z
            have nC3 : D ∉ ω3.cs := by rw [w3.cs]; exact nC2
            have rel3 : Rel K g ω3 ρ st2 σ H3 := (((rel.extE x1 c1).extE x2 c2)).grow w3
            have x3 : ExtE ω1 H1 ω3 H3 := x2.trans w3.toE
            have r3 := r2.mono w3.ext
            rw [drop_cons ex] at e4
            unfold compL at e4
            -- the target
            cases ea : assignT tg t (wipeE ρ own) with
            | none =>
              unfold turnF at e4
              rw [ea] at e4
              cases e4
            | some ρ1 =>
              have ef : turnF Φ elt tg ifs own ρ t st2 = (evt Φ ifs ρ1 st2).bind fun b st => if b then (ev Φ elt ρ1 st).bind fun y st => .ok (some y) st else .ok none st := by
                unfold turnF
                rw [ea]
              rw [ef] at e4
              refine gAsg_ok (rel3.wipe own) rx ea fun ws relT => ⟨wipe_tgS hsub, ?_⟩
              -- the tests
              refine ⟨g, ω3, ρ1, st2, relT, ?_⟩
              cases et : evt Φ ifs ρ1 st2 with
              | bad => rw [et] at e4; cases e4
              | exc x4 s4 => rw [et] at e4; cases e4
              | ok bv s4 =>
                rw [et] at e4
                simp only [R.bind_ok] at e4
                intro b4 H4 ω4 x4 c4 pb
                cases (show bv = b4 from pb)
                have hD4 : H4 D = some (.lst vs) := x4.keep _ _ hD3 nC3
                have nS4 : ¬ ω4.S D := fun z => by
                  rcases x4.newS D z with z | z
                  · exact nS3 z
                  · rw [hD3] at z; cases z
                have nC4 : D ∉ ω4.cs := fun z => by
                  rcases x4.newC D z with z | z
                  · exact nC3 z
                  · rw [hD3] at z; cases z
                have r4 := r3.mono (x4.ext relT.cells)
                cases bv with
                | false =>
                  rw [if_neg Bool.false_ne_true]
                  simp only [Bool.false_eq_true, if_false] at e4
                  cases e6 : compL (turnF Φ elt tg ifs own ρ) (xs.drop (i + 1)) s4 with
                  | bad => rw [e6] at e4; cases e4
                  | exc x6 s6 => rw [e6] at e4; cases e4
                  | ok rest' s6 =>
                    rw [e6] at e4
                    cases e4
                    exact ⟨hlt, ⟨ω4, s4, vs, ys, rest, x3.trans x4, c4, hD4, nS4, nC4, r4, e6, e5⟩⟩
                | true =>
                  rw [if_pos rfl]
                  simp only [if_true] at e4
                  refine ⟨g, ω4, ρ1, s4, relT.extE x4 c4, ?_⟩
                  cases ev5 : ev Φ elt ρ1 s4 with
                  | bad => rw [ev5] at e4; cases e4
                  | exc x6 s6 => rw [ev5] at e4; cases e4
                  | ok yv s5 =>
                    rw [ev5] at e4
                    simp only [R.bind_ok] at e4
                    intro y H5 ω5 x5 c5 py
                    have hD5 : H5 D = some (.lst vs) := x5.keep _ _ hD4 nC4
                    have nS5 : ¬ ω5.S D := fun z => by
                      rcases x5.newS D z with z | z
                      · exact nS4 z
                      · rw [hD4] at z; cases z
                    have nC5 : D ∉ ω5.cs := fun z => by
                      rcases x5.newC D z with z | z
                      · exact nC4 z
                      · rw [hD4] at z; cases z
                    have r5 := r4.mono (x5.ext c4)
                    cases e6 : compL (turnF Φ elt tg ifs own ρ) (xs.drop (i + 1)) s5 with
                    | bad => rw [e6] at e4; cases e4
                    | exc x6 s6 => rw [e6] at e4; cases e4
                    | ok rest' s6 =>
                      rw [e6] at e4
                      cases e4
                      refine ⟨vs, hD5, ?_, hlt, ⟨ω5, s5, vs ++ [y], ys ++ [yv], rest', ?_, c5.upd hD5 nS5 nC5, upd_same, nS5, nC5, ?_, e6, by rw [e5]; simp⟩⟩
                      · rw [r5.length]
                        have := congrArg List.length e5
                        simp at this
                        omega
                      · exact ((x3.trans x4).trans x5).updNew hD
                      · exact (r5.mono (extUpd hD5 nS5)).append (.cons (py.rep.mono (extUpd hD5 nS5)) .nil)
theorem sF_comp {Φ : Nat → List PV → Cel → R PV} {elt : C} {tg own : List Nat} {it : C} {ifs : Cs} (hpe : PE X e (tLc (ti X.K true W (ev Φ it)) (gAsg X.K tg) (tvbb X.K W0 (evt Φ ifs)) (tv X.K false W0 (ev Φ elt)) own)) (hsub : ∀ i ∈ tg, i ∈ own) :
    PE X e (tvF X.K W (ev Φ (.comp elt tg it ifs own))) := wPE hpe (comp_w hsub)
end
end Ev
namespace Ev
open PySem L2
section
variable {X : Cx} {W : Wx} {e a b : Expr} {K : PySem.W.Frag} {g : Gh} {ω ω' : Wd} {ρ : En} {st st' : Cel} {σ : St} {H H' : Hp}
/-! ### repr of a display -/
def rRepr (K : PySem.W.Frag) : List V → Hp → VK → Prop := fun xs H Q => ∃ x d, xs = [x] ∧ Dp K H x d ∧ d.showable = true ∧ d.hasDict = false ∧ d.depth ≤ 60 ∧ d.shown.length ≤ sizeLine ∧ Q (.str d.shown) H
theorem cr_repr (hg : X.A.guards = some []) (hu : X.A.units + 64 < cLine) : CallR X (.builtin "repr") (rRepr X.K) := by
  intro pins s σ H xs us Q I r h
  obtain ⟨x, d, rfl, dp, h2, h3, h4, h5, q⟩ := h
  obtain ⟨u, rfl, rx⟩ := vals1 r
  obtain ⟨as, rd⟩ := Dp.reads I d _ _ dp rx
  have big : PyProof.Rows.isDisplay d = true → wpAny (model X.prog X.w) X.A (call (.builtin "repr") [u]) (EP X pins σ Q) X.xe s := fun h1 => by
    obtain ⟨p, rfl⟩ := PyProof.Rows.isRef_of_reads rd h1
    exact PySem.repr_of_reads' rd h2 (PyData.noDict_hsm h3) hg (by omega) (fun _ _ z => z) (fun h' u tk hk => ⟨.str d.shown, H, I.kept hk, ⟨_, rfl⟩, q⟩) h5
  cases rd with
  | none => exact PySem.P.repr_of_none ⟨.str _, H, I.tok _, ⟨_, rfl⟩, q⟩
  | bool b =>
    refine PySem.P.repr_of_bool ⟨.str _, H, I.tok _, ⟨_, rfl⟩, ?_⟩
    cases b <;> exact q
  | int i t => exact PySem.P.repr_of_int (of_decide_eq_true h2) ⟨.str _, H, I.tok _, ⟨_, rfl⟩, q⟩
  | str y t => exact PySem.P.repr_of_str ⟨.str _, H, I.tok _, ⟨_, rfl⟩, q⟩ h5
  | list _ _ _ _ => exact big rfl
  | tuple _ _ _ _ => exact big rfl
  | dict _ _ _ _ _ => cases h3
theorem vr_repr : VR1 K true (rC1 (rRepr K)) (fun _ => reprV) := by
  intro st x t z ω H Q c hx hv q
  dsimp only at hv
  unfold reprV at hv
  split at hv
  · rename_i d hd
    split at hv
    · rename_i hz
      cases hv
      simp only [Bool.and_eq_true, decide_eq_true_eq, Bool.not_eq_true'] at hz
      exact ⟨x, d, rfl, hx.dp hd, hz.1.1.1, hz.1.1.2, hz.1.2, szOk_le hz.2, q _ _ ω (Grow.refl ω H) (.str _)⟩
    · cases hv
  · cases hv
/-! ### l.index(x) -/
theorem indexD_some {d : PyData} : ∀ {zs : List PyData} {i j : Nat}, indexD d zs i = some j → ∃ n z, j = i + n ∧ zs[n]? = some z ∧ PyData.eqv z d = true ∧ ∀ m z', m < n → zs[m]? = some z' → PyData.eqv z' d = false
  | [], _, _, h => by cases h
  | z :: zs, i, j, h => by
    unfold indexD at h
    split at h
    · rename_i hz
      cases h
      exact ⟨0, z, rfl, rfl, hz, fun m _ hm => absurd hm (Nat.not_lt_zero _)⟩
    · rename_i hz
      obtain ⟨n, y, e1, e2, e3, e4⟩ := indexD_some h
      refine ⟨n + 1, y, by omega, by simpa using e2, e3, fun m z' hm hz' => ?_⟩
      cases m with
      | zero => simp at hz'; subst hz'; simpa using hz
      | succ m => exact e4 m z' (by omega) (by simpa using hz')
theorem se_index {f f' : En → Cel → R PV} {bz : Bool} (hpe : ∀ ta tb, PE X a ta → PE X b tb → PE X e (tBM X.K "list" (rIndexD X.K) ta (tCons tb tNil))) (ha : PE X a (tv X.K true W f)) (hb : PE X b (tv X.K true W f')) :
    PE X e (tv X.K bz W fun ρ st => (f ρ st).bind fun x st => match x with
      | .lst xs => (f' ρ st).bind fun y st => R.of (indexV (.lst xs) y) st
      | _ => .bad) := by
  refine wPE (hpe _ _ ha hb) fun σ H Q ⟨g, ω, ρ, st, rel, h⟩ => ?_
  -- the list is told by the answer
  refine (bindG (P := RepM X.K true) rel h).mono fun x H1 ⟨ω1, st1, t, x1, rel1, p, q⟩ => ?_
  cases t with
  | lst ts =>
    obtain ⟨l, vs, rfl, hl, rl⟩ := p.lst
    refine ⟨.inl ⟨rfl, vs, .inl (.inl hl)⟩, ?_⟩
    refine (bindG (P := RepM X.K true) (f := f') rel1 q).mono fun y H2 ⟨ω2, st2, u, x2, rel2, p2, q2⟩ => ?_
    obtain ⟨z, ez, qz⟩ := of_post rel2 q2
    have pp := p.extE x2 rel1.cells
    unfold indexV at ez
    split at ez
    · rename_i ds d hd he
      split at ez
      · rename_i hz
        simp only [Bool.and_eq_true] at hz
        cases ei : indexD d ds 0 with
        | none => rw [ei] at ez; cases ez
        | some j =>
          rw [ei] at ez
          cases ez
          obtain ⟨n, zz, e1, e2, e3, e4⟩ := indexD_some ei
          obtain rfl : j = n := by omega
          exact ⟨l, y, d, ds, j, zz, rfl, rfl, pp.dp hd, p2.dp he, hz.1, hz.2, e2, e3, e4, qz _ _ ω2 (Grow.refl _ _) (.int _)⟩
      · cases ez
    · cases ez
  | _ => exact q.elim
/-! ### dicts: a display, frozen for good -/
theorem valP_get : ∀ {kvs : List (Key × V)} {ts : List PV} {k : Key} {t : PV}, RepL K ω H (kvs.map (·.2)) ts → valP (kvs.map (·.1)) ts k = some t → ∃ v, valV kvs k = some v ∧ Rep K ω H v t
  | [], _, _, _, .nil, h => by cases h
  | q :: r, _, k, t, .cons h1 h2, h => by
    rw [List.map_cons, valP] at h
    split at h
    · rename_i e
      cases h
      exact ⟨q.2, valV_pos e, h1⟩
    · rename_i e
      obtain ⟨v, e1, e2⟩ := valP_get h2 h
      exact ⟨v, by rw [valV_neg e]; exact e1, e2⟩
theorem keyP_v {b : Bool} {y : V} {u : PV} {k : Key} (h : RepM K b ω H y u) (e : keyP u = some k) : y = kV k := by
  cases u with
  | int i => cases e; exact h.int
  | str x => cases e; exact h.str
  | _ => cases e
theorem se_dget {f f' : En → Cel → R PV} {bz : Bool} (hpe : ∀ ta tb, PE X a ta → PE X b tb → PE X e (tDGet ta tb)) (ha : PE X a (tv X.K true W f)) (hb : PE X b (tv X.K true W f')) :
    PE X e (tv X.K bz W fun ρ st => (f ρ st).bind fun x st => (f' ρ st).bind fun y st => R.of (dgetV x y) st) := by
  refine wPE (hpe _ _ ha hb) fun σ H Q ⟨g, ω, ρ, st, rel, h⟩ => (bindG (P := RepM X.K true) rel h).mono fun x H1 ⟨ω1, st1, t, x1, rel1, p, q⟩ => ?_
  refine (bindG (P := RepM X.K true) (f := f') rel1 q).mono fun y H2 ⟨ω2, st2, u, x2, rel2, p2, q2⟩ => ?_
  obtain ⟨z, ez, qz⟩ := of_post rel2 q2
  have pp := p.extE x2 rel1.cells
  unfold dgetV at ez
  split at ez
  · rename_i ks ts
    obtain ⟨d, o, kvs, rfl, hd, rfl, rv⟩ := pp.dct
    split at ez
    · rename_i k ek
      obtain ⟨v, e1, e2⟩ := valP_get rv ez
      exact ⟨d, v, rfl, .inl ⟨kvs, k, .inr ⟨o, hd⟩, keyP_v p2 ek, e1.symm⟩, qz _ _ ω2 (Grow.refl _ _) e2⟩
    · cases ez
  · cases ez
/-- behind an expression that makes a new dict: it is locked for good -/
def tFrz (t : TE) : TE := fun σ H Q => t σ H fun v H1 => ∃ p u, v = .ref p ∧ H1 p = some u ∧ Mut (some u) ∧ ∀ od, Q v (upd H1 p (.frz od u))
theorem pe_frz {t : TE} (h : PE X e t) : PE X e (tFrz t) := ⟨fun pins s σ H Q I q => thn (h.run pins s σ H _ I q) fun v s1 ⟨x, H1, I1, r, p, u, e1, e2, mu, q1⟩ => by
  obtain ⟨od, I2⟩ := I1.lock e2 mu
  exact ⟨x, _, I2, r, q1 od⟩⟩
/-- pairs, one behind the other -/
def unP : List (V × V) → List V
  | [] => []
  | q :: r => q.1 :: q.2 :: unP r
def RPs (K : PySem.W.Frag) : RX (List PV) (List (V × V)) := fun ω H ps ts => RepL K ω H (unP ps) ts
theorem pairsP_v : ∀ {ps : List (V × V)} {ts : List PV} {ks : List Key} {us : List PV}, RepL K ω H (unP ps) ts → pairsP ts = some (ks, us) → ∃ kvs : List (Key × V), ps = kvs.map (fun kv => (kV kv.1, kv.2)) ∧ kvs.map (·.1) = ks ∧ RepL K ω H (kvs.map (·.2)) us
  | [], _, _, _, .nil, h => by cases h; exact ⟨[], rfl, rfl, .nil⟩
  | q :: r, _, ks, us, .cons h1 (.cons h2 h3), h => by
    rename_i t1 t2 t3
    rw [pairsP] at h
    split at h
    · rename_i k q' e1 e2
      cases h
      obtain ⟨kvs, e3, e4, e5⟩ := pairsP_v (ks := q'.1) (us := q'.2) h3 (by rw [e2])
      refine ⟨(k, q.2) :: kvs, ?_, by rw [List.map_cons, e4], .cons h2 e5⟩
      rw [List.map_cons, ← e3]
      have := keyP_v (b := false) (.inl h1) e1
      rw [← this]
    · cases h
theorem mergeK_id : ∀ {kvs acc : List (Key × V)}, (kvs.map (·.1)).Nodup → (∀ k ∈ kvs.map (·.1), k ∉ acc.map (·.1)) → mergeK acc kvs = acc ++ kvs
  | [], acc, _, _ => by simp [mergeK]
  | q :: r, acc, nd, hx => by
    have h0 : q.1 ∉ acc.map (·.1) := hx _ (by simp)
    have hv : valV acc q.1 = none := by
      unfold valV
      rw [Option.map_eq_none_iff, List.find?_eq_none]
      intro z hz he
      exact h0 (List.mem_map.mpr ⟨z, hz, of_decide_eq_true he⟩)
    show mergeK (putK acc q.1 q.2) r = _
    rw [putK_new q.2 hv]
    rw [List.map_cons, List.nodup_cons] at nd
    rw [mergeK_id nd.2 (fun k hk z => by
      rw [List.map_append] at z
      rcases List.mem_append.mp z with z | z
      · exact hx k (by rw [List.map_cons]; exact List.mem_cons_of_mem _ hk) z
      · simp at z
        subst z
        exact nd.1 hk)]
    simp
/-- the pairs of a display -/
structure SPs (X : Cx) (W : Wx) (pos : Pos) (keys : List (Option Expr)) (values : List Expr) (f : En → Cel → R (List PV)) : Prop where
  ex : ∃ trs, PPs X pos keys values trs ∧ ∀ σ H Q, tG (RPs X.K) X.K W f σ H Q → tPairs trs σ H Q
theorem sp_nil {pos : Pos} : SPs X W pos [] [] (fun _ st => .ok [] st) := ⟨[], pps_nil, fun σ H Q ⟨g, ω, ρ, st, rel, q⟩ => postOk (x := ([] : List (V × V))) rel q .nil⟩
theorem sp_cons {pos : Pos} {k v : Expr} {ks : List (Option Expr)} {vs : List Expr} {f f' : En → Cel → R PV} {fr : En → Cel → R (List PV)} (hk : PE X k (tv X.K false W f)) (hv : PE X v (tv X.K false W f')) (hr : SPs X W pos ks vs fr) :
    SPs X W pos (some k :: ks) (v :: vs) (fun ρ st => (f ρ st).bind fun x st => ((f' ρ st).bind fun x st => (fr ρ st).bind fun xs st => .ok (x :: xs) st).bind fun xs st => .ok (x :: xs) st) := by
  obtain ⟨trs, p1, w1⟩ := hr.ex
  refine ⟨_ :: trs, pps_cons hk hv p1, fun σ H Q ⟨g, ω, ρ, st, rel, h⟩ => (bindG (P := RepM X.K false) rel h).mono fun x H1 ⟨ω1, st1, t, x1, rel1, p, q⟩ => ?_⟩
  have ea : ∀ r : R PV, ((r.bind fun x st => (fr ρ st).bind fun xs st => R.ok (x :: xs) st).bind fun xs st => R.ok (t :: xs) st) = r.bind fun y st => (fr ρ st).bind fun xs st => .ok (t :: y :: xs) st := fun r => by
    cases r with
    | ok y s => simp only [R.bind_ok]; cases fr ρ s <;> rfl
    | exc e s => rfl
    | bad => rfl
  rw [ea] at q
  refine (bindG (P := RepM X.K false) (f := f') rel1 q).mono fun y H2 ⟨ω2, st2, u, x2, rel2, p2, q2⟩ => ?_
  refine w1 _ _ _ ((bindG (P := RPs X.K) (f := fr) rel2 q2).mono fun ps H3 ⟨ω3, st3, ts, x3, rel3, p3, q3⟩ => ?_)
  exact postOk (x := (x, y) :: ps) rel3 q3 (.cons ((p.extE x2 rel1.cells).extE x3 rel2.cells).rep (.cons (p2.extE x3 rel2.cells).rep p3))
theorem Grow.updE {p : Addr} {o : HO} (h : H p = none) : ExtE ω H ω (L2.upd H p o) := (Grow.upd h).toE
theorem se_dct {pos : Pos} {keys : List (Option Expr)} {values : List Expr} {f : En → Cel → R (List PV)} {bz : Bool} (hp : SPs X W pos keys values f) (h1 : keys.all (·.isSome) = true) (h2 : keys.length = values.length) (h3 : keys ≠ []) (h4 : keys.length ≤ 15) :
    PE X (.Dict keys values pos) (tv X.K bz W fun ρ st => (f ρ st).bind fun xs st => R.of (dctV xs) st) := by
  obtain ⟨trs, p1, w1⟩ := hp.ex
  refine wPE (pe_frz (pe_disp p1 h1 h2 h3 h4)) fun σ H Q ⟨g, ω, ρ, st, rel, h⟩ p hp => ?_
  have rel0 := rel.grow (Grow.upd (ω := ω) (o := .dK []) hp)
  have np : p ∉ ω.cs := fun z => by
    obtain ⟨vs, z⟩ := rel.cells.lstAt z
    rw [hp] at z; cases z
  have ns : ¬ ω.S p := fun z => by
    obtain ⟨o, z⟩ := rel.cells.trk p z
    rw [hp] at z; cases z
  refine w1 _ _ _ ⟨g, ω, ρ, st, rel0, ?_⟩
  dsimp only at h
  cases ef : f ρ st with
  | bad => rw [ef] at h; exact h
  | exc x s =>
    rw [ef] at h
    exact fun H' ω' y c => h H' ω' ((Grow.updE hp).trans y) c
  | ok ts s =>
    rw [ef] at h
    intro ps H2 ω2 x2 c2 pr
    have e2 : H2 p = some (.dK []) := x2.keep p _ upd_same np
    have ns2 : ¬ ω2.S p := fun z => by
      rcases x2.newS p z with z | z
      · exact ns z
      · rw [upd_same] at z; cases z
    have np2 : p ∉ ω2.cs := fun z => by
      rcases x2.newC p z with z | z
      · exact np z
      · rw [upd_same] at z; cases z
    simp only [R.bind_ok] at h
    cases ed : dctV ts with
    | none => rw [ed] at h; exact h.elim
    | some z =>
      rw [ed] at h
      unfold dctV at ed
      split at ed
      · rename_i pq epq
        split at ed
        · rename_i hz
          cases ed
          obtain ⟨kvs, k1, k2, k3⟩ := pairsP_v (ks := pq.1) (us := pq.2) pr epq
          have hl : kvs.length ≤ 15 := by
            have := hz.2
            rw [← k2, List.length_map] at this
            exact this
          refine ⟨e2, kvs, k1, hl, p, .dK (mergeK [] kvs), rfl, upd_same, trivial, fun od => ?_⟩
          have em : mergeK [] kvs = kvs := by
            rw [mergeK_id (by rw [k2]; exact hz.1) (by simp)]
            rfl
          rw [em]
          have hu : upd (upd H2 p (.dK kvs)) p (.frz od (.dK kvs)) = upd H2 p (.frz od (.dK kvs)) := by
            funext b
            unfold upd
            split <;> rfl
          rw [hu]
          have xt : Ext ω2 H2 ω2 (upd H2 p (.frz od (.dK kvs))) := by
            refine ⟨fun _ z => z, ⟨[], by simp⟩, fun a o ea sa => ?_⟩
            have : a ≠ p := fun z => by
              subst z
              rcases sa with sa | sa
              · exact ns2 sa
              · rw [e2] at ea; cases ea; exact sa
            rw [upd_ne this]; exact ea
          have ne : ∀ a o, H a = some o → a ≠ p := fun a o ea z => by rw [z, hp] at ea; cases ea
          have ex : ExtE ω H ω2 (upd H2 p (.frz od (.dK kvs))) := by
            have y := (Grow.updE (ω := ω) (o := .dK []) hp).trans x2
            refine ⟨y.sub, y.cs, fun a o ea na => by rw [upd_ne (ne a o ea)]; exact y.keep a o ea na, y.newS, y.newC, fun a o ea => ?_⟩
            rw [upd_ne (ne a o ea)]
            exact y.there a o ea
          have cc : CelOk X.K ω2 s (upd H2 p (.frz od (.dK kvs))) := by
            refine ⟨c2.len, c2.nd, c2.out, fun a z => ?_, fun k a ha => ?_⟩
            · rw [upd_ne (fun e => ns2 (by rw [← e]; exact z))]; exact c2.trk a z
            · obtain ⟨vs, us, q1, q2, q3⟩ := c2.at_ k a ha
              exact ⟨vs, us, q1, by rw [upd_ne (fun e => np2 (by rw [← e]; exact List.mem_of_getElem? ha))]; exact q2, q3.mono xt⟩
          refine h _ _ ω2 ex cc (.inl ?_)
          rw [← k2]
          exact .dct upd_same (k3.mono xt)
        · cases ed
      · cases ed
end
end Ev
namespace Ev
open PySem PySem.Spec PyProof.Rows PySem.W
/-! ### a, b, *rest = tuple -/
theorem star_items {prog : Program} {w : World} {A : Around} {E : Value → Shared → Prop} {s : Shared} {l : Addr} {its : Array Value} {n : Nat} {Q : List Value → Shared → Prop} (hl : IsTup s.heap l its) (hh : A.handled = none) (hn : n ≤ its.size) (hz : its.size ≤ 16384)
    (h : ∀ (h2 : Heap) tk, (∀ b o, s.heap.get? b = some o → h2.get? b = some o) → Q (its.toList.take n ++ [.ref h2.objs.size]) { s with heap := h2.push { cls := .type "list", data := .seq (its.toList.drop n).toArray }, toks := tk }) :
    wpAny (model prog w) A (unpackItems (.ref l) (n + 1) (some n)) Q E s := by
  have hll : l < s.heap.objs.size := by
    obtain ⟨o, ho, _⟩ := hl
    exact Heap.lt_size ho
  have nel : l ≠ s.heap.objs.size := Nat.ne_of_lt hll
  unfold unpackItems notIterableAtAll
  refine wpAny_bind (wpAny_bind (wpAny_specialOf hl.typeIs slot_tuple_iter.lookup (wpAny_pure ?_)))
  rw [if_neg Bool.false_ne_true]
  refine wpAny_bind (wpAny_holding (iter_tuple hl (wpAny_bind (wpAny_holding ?_))))
  refine draw_tuple nel n 0 _ _ ⟨_, Heap.get?_push_size _ rfl, rfl, rfl⟩ (hl.push _) (by omega) fun h1 it1 same => ?_
  have t1 : IsTup h1 l its := (hl.push _).extBut same.extBut nel
  rw [Nat.zero_add] at it1
  rw [List.drop_zero]
  obtain ⟨oi, goi, _⟩ := id it1
  obtain ⟨ol, gol, _⟩ := id t1
  have lt : (its.toList.take n).length = n := by
    rw [List.length_take, Array.length_toList]
    omega
  have ld : (its.toList.drop n).length = its.size - n := by rw [List.length_drop, Array.length_toList]
  rw [if_neg (by rw [lt]; exact Nat.lt_irrefl n)]
  refine wpAny_bind (wpAny_holding ?_)
  refine kun_collect (s := { s with heap := h1 }) (T := "tuple_iterator") (.inr (.inr (.inr rfl))) (Walks.tuple (A := A.in1) hh s.heap.objs.size l nel its) (fun _ _ z => z.1.typeIs) hn ⟨it1, t1⟩ (Heap.lt_size goi) (Heap.lt_size gol) (fun h2 tk kp => ?_) (by rw [sizeLine_eq]; omega)
  show wpAny _ _ (if (its.toList.drop n).length < n + 1 - 1 - n then _ else _) _ _ _
  have e0 : n + 1 - 1 - n = 0 := by omega
  rw [e0, if_neg (Nat.not_lt_zero _)]
  show wpAny _ _ (newList ((its.toList.drop n).take ((its.toList.drop n).length - 0)) >>= fun d => pure (its.toList.take n ++ [d] ++ (its.toList.drop n).drop ((its.toList.drop n).length - 0))) _ _ _
  rw [Nat.sub_zero, List.take_length, List.drop_length]
  have old : ∀ b o, s.heap.get? b = some o → h2.get? b = some o := fun b o e => by
    have nb : b ≠ s.heap.objs.size := Nat.ne_of_lt (Heap.lt_size e)
    exact kp b o nb (same.extBut b o nb (Heap.get?_push_of_some _ e))
  refine wpAny_bind (wpAny_newList (wpAny_pure ?_) (by rw [ld, sizeLine_eq]; omega))
  rw [List.append_nil]
  exact h h2 tk old
end Ev
namespace Ev
open PySem L2
def gStar (K : PySem.W.Frag) (n : Nat) (t : TGs) : TG := fun v σ H Q => ∃ a xs, v = .ref a ∧ SqT K H a xs ∧ n ≤ xs.length ∧ xs.length ≤ 16384 ∧ ∀ D, H D = none → t (xs.take n ++ [.ref D]) σ (upd H D (.lst (xs.drop n))) Q
theorem pg_star {X : Cx} {es : List Expr} {k n : Nat} {pos : Pos} {t : TGs} (hc : X.calm = true) (h : PGs X es t) (hn : (assignEach es X.env).length = n + 1) (hst : (assignEach es X.env).findIdx? (·.1) = some n) : PG X (.Tuple es k pos) (gStar X.K n t) := by
  refine ⟨fun pins s σ H v u Q I r ⟨a, xs, e1, hq, hl, hz, hw⟩ => ?_⟩
  subst e1
  cases r
  obtain ⟨its, rv, ht, hs⟩ := I.tuple hq
  have le : its.toArray.size = xs.length := by rw [List.size_toArray, rv.length]
  rw [PyProof.Rows.assign_Tuple]
  refine wpAny_bind (wpAny_standAt ?_)
  unfold unpack
  rw [hn, hst]
  refine wpAny_bind (wpAny_holding (star_items ht (I.ok.hd hc) (by omega) (by omega) fun h2 tk old => ?_))
  have I2 : Inv X pins σ H { s with heap := h2, toks := tk } := I.kept old
  have I3 := I2.laid (a := h2.objs.size) (o := .lst (xs.drop n)) (h' := h2.push { cls := .type "list", data := .seq (its.drop n).toArray }) (t' := tk) (fun _ _ q => Heap.get?_push_of_some _ q) (Nat.le_refl _)
    ⟨by rw [List.length_drop]; have := sizeLine_eq; omega, its.drop n, 0, rv.drop n, Heap.get?_push_size _ rfl⟩
  exact h.run pins _ σ _ _ _ Q I3 ((rv.take n).append (.cons (show RelV (.ref h2.objs.size) (.ref h2.objs.size) from rfl) .nil)) (hw _ (I2.hok.fresh (Nat.le_refl _)))
end Ev
namespace Ev
open PySem L2
section
variable {X : Cx} {W : Wx} {e a b : Expr} {K : PySem.W.Frag} {g : Gh} {ω ω' : Wd} {ρ : En} {st st' : Cel} {σ : St} {H H' : Hp}
/-! ### comprehensions of two clauses -/
def turn2 (Φ : Nat → List PV → Cel → R PV) (elt : C) (tg : List Nat) (tg2 : List Nat) (it2 : C) (ifs : Cs) (own own2 : List Nat) (ρ : En) : PV → Cel → R (List PV) := fun x st => match assignT tg x (wipeE ρ own) with
  | some ρ1 => (ev Φ it2 ρ1 st).bind fun iv2 st => (match itemsOf iv2 with
    | some ys => compL (turnF Φ elt tg2 ifs own2 ρ1) ys st
    | none => .bad)
  | none => .bad
structure Lc2 (K : PySem.W.Frag) (ω0 : Wd) (H0 : Hp) (D : Addr) (f : PV → Cel → R (List PV)) (xs : List PV) (full : List PV) (stF : Cel) (i : Nat) (H : Hp) : Prop where
  ex : ∃ ω st vs ys rest, ExtE ω0 H0 ω H ∧ CelOk K ω st H ∧ H D = some (.lst vs) ∧ ¬ ω.S D ∧ D ∉ ω.cs ∧ RepL K ω H vs ys ∧ flatL f (xs.drop i) st = .ok rest stF ∧ full = ys ++ rest
theorem compL_noexc {f : PV → Cel → R (Option PV)} {x : EX} {s3 : Cel} : ∀ (l : List PV) (s : Cel), compL f l s ≠ .exc x s3
  | [], s, z => by cases z
  | y :: ys, s, z => by
    unfold compL at z
    split at z
    · rename_i o st1 _
      cases q : compL f ys st1 with
      | ok l2 s2 => rw [q] at z; cases z
      | exc x2 s2 => rw [q] at z; cases z; exact compL_noexc ys st1 q
      | bad => rw [q] at z; cases z
    · cases z
theorem flatL_noexc {f : PV → Cel → R (List PV)} {x : EX} {s3 : Cel} : ∀ (l : List PV) (s : Cel), flatL f l s ≠ .exc x s3
  | [], s, z => by cases z
  | y :: ys, s, z => by
    unfold flatL at z
    split at z
    · rename_i o st1 _
      cases q : flatL f ys st1 with
      | ok l2 s2 => rw [q] at z; cases z
      | exc x2 s2 => rw [q] at z; cases z; exact flatL_noexc ys st1 q
      | bad => rw [q] at z; cases z
    · cases z
/-- D stands apart -/
structure Apt (D : Addr) (vs : List V) (ω : Wd) (H : Hp) : Prop where
  at_ : H D = some (.lst vs)
  nS : ¬ ω.S D
  nC : D ∉ ω.cs
theorem Apt.extE {D : Addr} {vs : List V} (p : Apt D vs ω H) (x : ExtE ω H ω' H') : Apt D vs ω' H' := by
  refine ⟨x.keep _ _ p.at_ p.nC, fun z => ?_, fun z => ?_⟩
  · rcases x.newS D z with z | z
    · exact p.nS z
    · rw [p.at_] at z; cases z
  · rcases x.newC D z with z | z
    · exact p.nC z
    · rw [p.at_] at z; cases z
theorem Apt.grow {D : Addr} {vs : List V} (p : Apt D vs ω H) (x : Grow ω H ω' H') : Apt D vs ω' H' := by
  refine ⟨x.keep _ _ p.at_, fun z => ?_, by rw [x.cs]; exact p.nC⟩
  rcases x.new D z with z | ⟨z, _⟩
  · exact p.nS z
  · rw [p.at_] at z; cases z
/-- what a target is given -/
def TgOk (K : PySem.W.Frag) (ω : Wd) (H : Hp) (tg : List Nat) (x : V) (t : PV) (vs : List V) : Prop := match tg with
  | [_] => Rep K ω H x t
  | is => ∃ ts, (t = .tup ts ∨ t = .lst ts) ∧ RepL K ω H vs ts ∧ vs.length = is.length
theorem TgOk.mono {tg : List Nat} {x : V} {t : PV} {vs : List V} (h : TgOk K ω H tg x t vs) (e : Ext ω H ω' H') : TgOk K ω' H' tg x t vs := by
  match tg, h with
  | [_], h => exact Rep.mono e h
  | [], ⟨ts, h1, h2, h3⟩ => exact ⟨ts, h1, h2.mono e, h3⟩
  | _ :: _ :: _, ⟨ts, h1, h2, h3⟩ => exact ⟨ts, h1, h2.mono e, h3⟩
theorem sets_rel : ∀ (is : List Nat) {vs : List V} {ts : List PV} {ρ : En} {σ : St}, Rel K g ω ρ st σ H → RepL K ω H vs ts → vs.length = is.length → Rel K g ω (setAll ρ (is.zip ts)) st (setS σ is vs) H
  | [], _, _, _, _, r, .nil, _ => r
  | i :: is, _, _, ρ, σ, r, .cons h hs, hl => sets_rel is (r.set i h) hs (by simpa using hl)
theorem tg_rel {tg : List Nat} {x : V} {t : PV} {vs : List V} {ρ' : En} (r : Rel K g ω ρ st σ H) (h : TgOk K ω H tg x t vs) (e : assignT tg t ρ = some ρ') : Rel K g ω ρ' st (tgS σ tg x vs) H := by
  match tg, h, e with
  | [i], h, e => cases e; exact r.set i h
  | [], ⟨ts, h1, h2, h3⟩, e =>
    unfold assignT at e
    rcases h1 with rfl | rfl <;> (dsimp only at e; split at e <;> cases e; exact sets_rel [] r h2 h3)
  | i :: j :: is, ⟨ts, h1, h2, h3⟩, e =>
    unfold assignT at e
    rcases h1 with rfl | rfl <;> (dsimp only at e; split at e <;> cases e; exact sets_rel (i :: j :: is) r h2 h3)
theorem gAsg_ok2 {tg : List Nat} {x : V} {t : PV} {ρ' : En} {Q : St → Hp → Prop} (r : Rel K g ω ρ st σ H) (h : Rep K ω H x t) (e : assignT tg t ρ = some ρ') (q : ∀ vs, TgOk K ω H tg x t vs → Rel K g ω ρ' st (tgS σ tg x vs) H → Q (tgS σ tg x vs) H) : gAsg K tg x σ H Q := by
  match tg, e, q with
  | [i], e, q => cases e; exact q [] h (r.set i h)
  | [], e, q =>
    unfold assignT at e
    cases t with
    | tup xs =>
      dsimp only at e
      split at e
      · rename_i hl
        cases e
        cases h with
        | @tup a vs _ h1 h2 => exact .inl ⟨a, vs, rfl, h1, by rw [h2.length]; exact hl, gNames_ok [] r h2 (by rw [h2.length]; exact hl) fun r' => q vs ⟨xs, .inl rfl, h2, by rw [h2.length]; exact hl⟩ r'⟩
      · cases e
    | lst xs =>
      dsimp only at e
      split at e
      · rename_i hl
        cases e
        cases h with
        | @lst a vs _ hs h1 h2 => exact .inr ⟨a, vs, rfl, .inl (.inl h1), by rw [h2.length]; exact hl, gNames_ok [] r h2 (by rw [h2.length]; exact hl) fun r' => q vs ⟨xs, .inr rfl, h2, by rw [h2.length]; exact hl⟩ r'⟩
      · cases e
    | _ => cases e
  | i :: j :: is, e, q =>
    unfold assignT at e
    cases t with
    | tup xs =>
      dsimp only at e
      split at e
      · rename_i hl
        cases e
        cases h with
        | @tup a vs _ h1 h2 => exact .inl ⟨a, vs, rfl, h1, by rw [h2.length]; exact hl, gNames_ok (i :: j :: is) r h2 (by rw [h2.length]; exact hl) fun r' => q vs ⟨xs, .inl rfl, h2, by rw [h2.length]; exact hl⟩ r'⟩
      · cases e
    | lst xs =>
      dsimp only at e
      split at e
      · rename_i hl
        cases e
        cases h with
        | @lst a vs _ hs h1 h2 => exact .inr ⟨a, vs, rfl, .inl (.inl h1), by rw [h2.length]; exact hl, gNames_ok (i :: j :: is) r h2 (by rw [h2.length]; exact hl) fun r' => q vs ⟨xs, .inr rfl, h2, by rw [h2.length]; exact hl⟩ r'⟩
      · cases e
    | _ => cases e
/-- the second clause's state ahead of its turn j -/
structure Lc3 (K : PySem.W.Frag) (ω1 : Wd) (H1 : Hp) (ω4 : Wd) (H4 : Hp) (D : Addr) (f : PV → Cel → R (Option PV)) (xs : List PV) (full : List PV) (stF : Cel) (i : Nat) (H : Hp) : Prop where
  ex : ∃ ω st vs ys rest, Ext ω4 H4 ω H ∧ ExtE ω1 H1 ω H ∧ CelOk K ω st H ∧ Apt D vs ω H ∧ RepL K ω H vs ys ∧ compL f (xs.drop i) st = .ok rest stF ∧ full = ys ++ rest
theorem comp2_w {Φ : Nat → List PV → Cel → R PV} {elt : C} {tg tg2 own own2 : List Nat} {it it2 : C} {ifs : Cs} (hsub : ∀ i ∈ tg, i ∈ own) (hsub2 : ∀ i ∈ tg2, i ∈ own2) : ∀ σ H Q, tvF K W (ev Φ (.comp2 elt tg it tg2 it2 ifs own own2)) σ H Q →
    tLc2 (ti K true W (ev Φ it)) (gAsg K tg) tYes (ti K false W0 (ev Φ it2)) (gAsg K tg2) (tvbb K W0 (evt Φ ifs)) (tv K false W0 (ev Φ elt)) own own2 σ H Q := by
  intro σ H Q ⟨g, ω, ρ, st, rel, h⟩
  have hd : ev Φ (.comp2 elt tg it tg2 it2 ifs own own2) ρ st = (ev Φ it ρ st).bind fun iv st => match itemsOf iv with
    | some xs => (flatL (turn2 Φ elt tg tg2 it2 ifs own own2 ρ) xs st).bind fun ys st => if szOk ys.length then .ok (.lst ys) st else .bad
    | none => .bad := by
    rw [ev]
    rfl
  rw [hd] at h
  refine ⟨g, ω, ρ, st, rel, ?_⟩
  cases e1 : ev Φ it ρ st with
  | bad => rw [e1] at h; exact h.elim
  | exc x s => rw [e1] at h; exact h
  | ok iv s =>
    rw [e1] at h
    simp only [R.bind_ok] at h
    cases e2 : itemsOf iv with
    | none => rw [e2] at h; exact h.elim
    | some xs =>
      rw [e2] at h
      refine ⟨xs, e2, fun J H1 ω1 x1 c1 hJ D hD => ?_⟩
      dsimp only at h
      cases e3 : flatL (turn2 Φ elt tg tg2 it2 ifs own own2 ρ) xs s with
      | bad => rw [e3] at h; exact h.elim
      | exc x s3 => exact absurd e3 (flatL_noexc xs s)
      | ok full stF =>
        rw [e3] at h
        simp only [R.bind_ok] at h
        have hz : szOk full.length = true := by
          cases q : szOk full.length with
          | true => rfl
          | false => rw [q] at h; exact h.elim
        rw [if_pos hz] at h
        have hz' := szOk_le hz
        have nS : ¬ ω1.S D := fun z => by obtain ⟨o, q⟩ := c1.trk D z; rw [hD] at q; cases q
        have nC : D ∉ ω1.cs := fun z => by obtain ⟨o, q⟩ := c1.lstAt z; rw [hD] at q; cases q
        refine ⟨fun i m H => m = xs.length - i ∧ i ≤ xs.length ∧ Lc2 K ω1 H1 D (turn2 Φ elt tg tg2 it2 ifs own own2 ρ) xs full stF i H, ⟨xs.length, by simp, Nat.zero_le _, ⟨ω1, s, [], [], full, (Grow.upd hD).toE, c1.grow (Grow.upd hD), upd_same, nS, nC, .nil, e3, rfl⟩⟩, ?_⟩
        rintro i m H2 ⟨rfl, hi, ⟨ω2, st2, vs, ys, rest, x2, c2, hD2, nS2, nC2, r2, e4, e5⟩⟩
        obtain ⟨go, stop, yld⟩ := hJ ω2 H2 (x2.ext c1) (fun _ => x2)
        rcases Nat.lt_or_ge i xs.length with hlt | hge
        rotate_left
        · have ei : i = xs.length := by omega
          subst ei
          rw [List.drop_length] at e4
          cases e4
          rw [List.append_nil] at e5
          subst e5
          exact .inl ⟨stop, h _ _ ω2 (x1.trans x2) c2 ⟨D, vs, full, rfl, rfl, x1.none hD, hD2, nS2, nC2, r2⟩⟩
        · refine .inr ⟨go i hlt, fun H' => i + 1 ≤ xs.length ∧ Lc2 K ω1 H1 D (turn2 Φ elt tg tg2 it2 ifs own own2 ρ) xs full stF (i + 1) H', fun H' hN => ⟨xs.length - (i + 1), by omega, rfl, hN.1, hN.2⟩, fun x H3 hy => ?_⟩
          obtain ⟨ω3, t, w3, ex, rx⟩ := yld i x H3 hlt hy
          have A3 : Apt D vs ω3 H3 := (Apt.mk hD2 nS2 nC2).grow w3
          have rel3 : Rel K g ω3 ρ st2 σ H3 := (((rel.extE x1 c1).extE x2 c2)).grow w3
          have x3 : ExtE ω1 H1 ω3 H3 := x2.trans w3.toE
          have r3 := r2.mono w3.ext
          rw [drop_cons ex] at e4
          unfold flatL at e4
          cases ea : assignT tg t (wipeE ρ own) with
          | none => unfold turn2 at e4; rw [ea] at e4; cases e4
          | some ρ1 =>
            have ef : turn2 Φ elt tg tg2 it2 ifs own own2 ρ t st2 = (ev Φ it2 ρ1 st2).bind fun iv2 st => (match itemsOf iv2 with
              | some ys => compL (turnF Φ elt tg2 ifs own2 ρ1) ys st
              | none => .bad) := by unfold turn2; rw [ea]
            rw [ef] at e4
            refine gAsg_ok2 (rel3.wipe own) rx ea fun ws tgo relT => ⟨wipe_tgS hsub, ?_⟩
            unfold tYes
            dsimp only
            rw [if_pos rfl]
            -- the second clause
            refine ⟨g, ω3, ρ1, st2, relT, ?_⟩
            cases ei2 : ev Φ it2 ρ1 st2 with
            | bad => rw [ei2] at e4; cases e4
            | exc x4 s4 => rw [ei2] at e4; cases e4
            | ok iv2 s4 =>
              rw [ei2] at e4
              simp only [R.bind_ok] at e4
              cases ej : itemsOf iv2 with
              | none => rw [ej] at e4; cases e4
              | some zs =>
                rw [ej] at e4
                dsimp only at e4
                refine ⟨zs, ej, fun J1 H4 ω4 x4 c4 hJ1 => ?_⟩
                cases ec : compL (turnF Φ elt tg2 ifs own2 ρ1) zs s4 with
                | bad => rw [ec] at e4; cases e4
                | exc x5 s5 => exact absurd ec (compL_noexc zs s4)
                | ok more s5 =>
                  rw [ec] at e4
                  dsimp only at e4
                  cases er : flatL (turn2 Φ elt tg tg2 it2 ifs own own2 ρ) (xs.drop (i + 1)) s5 with
                  | bad => rw [er] at e4; cases e4
                  | exc x6 s6 => exact absurd er (flatL_noexc _ _)
                  | ok rest' s6 =>
                    rw [er] at e4
                    cases e4
                    have A4 := A3.extE x4
                    have r4 := r3.mono (x4.ext relT.cells)
                    have x14 : ExtE ω1 H1 ω4 H4 := x3.trans x4
                    refine ⟨fun j k H => k = zs.length - j ∧ j ≤ zs.length ∧ Lc3 K ω1 H1 ω4 H4 D (turnF Φ elt tg2 ifs own2 ρ1) zs (ys ++ more) s5 j H, ⟨zs.length, by simp, Nat.zero_le _, ⟨ω4, s4, vs, ys, more, Ext.refl _ _, x14, c4, A4, r4, ec, rfl⟩⟩, ?_⟩
                    rintro j k H5 ⟨rfl, hj, ⟨ω5, st5, vs5, ys5, rest5, x5, x15, c5, A5, r5, e7, e8⟩⟩
                    obtain ⟨go1, stop1, yld1⟩ := hJ1 ω5 H5 x5 (fun z => by cases z)
                    rcases Nat.lt_or_ge j zs.length with hlt1 | hge1
                    rotate_left
                    · have ej2 : j = zs.length := by omega
                      subst ej2
                      rw [List.drop_length] at e7
                      cases e7
                      rw [List.append_nil] at e8
                      refine .inl ⟨stop1, hlt, ⟨ω5, s5, vs5, ys5, rest', x15, c5, A5.at_, A5.nS, A5.nC, r5, er, ?_⟩⟩
                      rw [← e8, e5, List.append_assoc]
                    · refine .inr ⟨go1 j hlt1, fun H' => j + 1 ≤ zs.length ∧ Lc3 K ω1 H1 ω4 H4 D (turnF Φ elt tg2 ifs own2 ρ1) zs (ys ++ more) s5 (j + 1) H', fun H' hN => ⟨zs.length - (j + 1), by omega, rfl, hN.1, hN.2⟩, fun y H6 hy1 => ?_⟩
                      obtain ⟨ω6, u, w6, ex6, ry⟩ := yld1 j y H6 hlt1 hy1
                      have A6 : Apt D vs5 ω6 H6 := A5.grow w6
                      have x46 : Ext ω4 H4 ω6 H6 := x5.trans w6.ext
                      have x16 : ExtE ω1 H1 ω6 H6 := x15.trans w6.toE
                      have rel6 : Rel K g ω6 ρ1 st5 (tgS (L2.wipe σ own) tg x ws) H6 := tg_rel ((((rel.extE x1 c1).extE x15 c5).grow w6).wipe own) (tgo.mono ((x4.ext relT.cells).trans x46)) ea
                      have r6 := r5.mono w6.ext
                      rw [drop_cons ex6] at e7
                      unfold compL at e7
                      cases eb : assignT tg2 u (wipeE ρ1 own2) with
                      | none => unfold turnF at e7; rw [eb] at e7; cases e7
                      | some ρ2 =>
                        have ef2 : turnF Φ elt tg2 ifs own2 ρ1 u st5 = (evt Φ ifs ρ2 st5).bind fun b st => if b then (ev Φ elt ρ2 st).bind fun y st => .ok (some y) st else .ok none st := by unfold turnF; rw [eb]
                        rw [ef2] at e7
                        refine gAsg_ok (rel6.wipe own2) ry eb fun ws2 relU => ⟨wipe_tgS hsub2, ?_⟩
                        refine ⟨g, ω6, ρ2, st5, relU, ?_⟩
                        cases et : evt Φ ifs ρ2 st5 with
                        | bad => rw [et] at e7; cases e7
                        | exc x7 s7 => rw [et] at e7; cases e7
                        | ok bv s7 =>
                          rw [et] at e7
                          simp only [R.bind_ok] at e7
                          intro b7 H7 ω7 x7 c7 pb
                          cases (show bv = b7 from pb)
                          have A7 := A6.extE x7
                          have r7 := r6.mono (x7.ext relU.cells)
                          have x47 : Ext ω4 H4 ω7 H7 := x46.trans (x7.ext relU.cells)
                          have x17 : ExtE ω1 H1 ω7 H7 := x16.trans x7
                          cases bv with
                          | false =>
                            rw [if_neg Bool.false_ne_true]
                            simp only [Bool.false_eq_true, if_false] at e7
                            cases e9 : compL (turnF Φ elt tg2 ifs own2 ρ1) (zs.drop (j + 1)) s7 with
                            | bad => rw [e9] at e7; cases e7
                            | exc x9 s9 => exact absurd e9 (compL_noexc _ _)
                            | ok restj s9 =>
                              rw [e9] at e7
                              cases e7
                              exact ⟨hlt1, ⟨ω7, s7, vs5, ys5, rest5, x47, x17, c7, A7, r7, e9, e8⟩⟩
                          | true =>
                            rw [if_pos rfl]
                            simp only [if_true] at e7
                            refine ⟨g, ω7, ρ2, s7, relU.extE x7 c7, ?_⟩
                            cases ev8 : ev Φ elt ρ2 s7 with
                            | bad => rw [ev8] at e7; cases e7
                            | exc x9 s9 => rw [ev8] at e7; cases e7
                            | ok yv s8 =>
                              rw [ev8] at e7
                              simp only [R.bind_ok] at e7
                              intro z H8 ω8 x8 c8 py
                              have A8 := A7.extE x8
                              have r8 := r7.mono (x8.ext c7)
                              cases e9 : compL (turnF Φ elt tg2 ifs own2 ρ1) (zs.drop (j + 1)) s8 with
                              | bad => rw [e9] at e7; cases e7
                              | exc x9 s9 => exact absurd e9 (compL_noexc _ _)
                              | ok restj s9 =>
                                rw [e9] at e7
                                cases e7
                                have up := extUpd (ω := ω8) (o := .lst (vs5 ++ [z])) A8.at_ A8.nS
                                refine ⟨vs5, A8.at_, ?_, hlt1, ⟨ω8, s8, vs5 ++ [z], ys5 ++ [yv], restj, (x47.trans (x8.ext c7)).trans up, (x17.trans x8).updNew hD, c8.upd A8.at_ A8.nS A8.nC, ⟨upd_same, A8.nS, A8.nC⟩, (r8.mono up).append (.cons (py.rep.mono up) .nil), e9, by rw [e8]; simp⟩⟩
                                rw [r8.length]
                                have l1 := congrArg List.length e8
                                have l2 := congrArg List.length e5
                                simp at l1 l2
                                omega
theorem sF_comp2 {Φ : Nat → List PV → Cel → R PV} {elt : C} {tg tg2 own own2 : List Nat} {it it2 : C} {ifs : Cs} (hpe : PE X e (tLc2 (ti X.K true W (ev Φ it)) (gAsg X.K tg) tYes (ti X.K false W0 (ev Φ it2)) (gAsg X.K tg2) (tvbb X.K W0 (evt Φ ifs)) (tv X.K false W0 (ev Φ elt)) own own2)) (hsub : ∀ i ∈ tg, i ∈ own) (hsub2 : ∀ i ∈ tg2, i ∈ own2) :
    PE X e (tvF X.K W (ev Φ (.comp2 elt tg it tg2 it2 ifs own own2))) := wPE hpe (comp2_w hsub hsub2)
end
end Ev
namespace Ev
open PySem L2
section
variable {X : Cx} {W : Wx} {e a b c : Expr} {K : PySem.W.Frag} {g : Gh} {ω ω' : Wd} {ρ : En} {st st' : Cel} {σ : St} {H H' : Hp}
/-! ### a < b < c -/
theorem w_chain {fa fb fc : En → Cel → R PV} {o1 o2 : COp} {bz : Bool} : ∀ σ H Q, tv K bz W (fun ρ st => (fa ρ st).bind fun x st => (fb ρ st).bind fun y st => match cmpV o1 x y with
    | some true => (fc ρ st).bind fun z st => R.of ((cmpV o2 y z).map .bl) st
    | some false => .ok (.bl false) st
    | none => .bad) σ H Q → tChain (rCmp K o1) (rCmp K o2) (tv K true W fa) (tv K true W fb) (tv K true W fc) σ H Q := by
  intro σ H Q ⟨g, ω, ρ, st, rel, h⟩
  refine (bindG (P := RepM K true) rel h).mono fun x H1 ⟨ω1, st1, t, x1, rel1, p, q⟩ => ?_
  refine (bindG (P := RepM K true) (f := fb) rel1 q).mono fun y H2 ⟨ω2, st2, u, x2, rel2, p2, q2⟩ => ?_
  have pp := p.extE x2 rel1.cells
  cases e : cmpV o1 t u with
  | none => rw [e] at q2; exact q2.elim
  | some k =>
    rw [e] at q2
    refine vr_cmp (b := true) (b' := true) o1 st2 x y t u (.bl k) ω2 H2 _ rel2.cells pp p2 (by show (cmpV o1 t u).map PV.bl = _; rw [e]; rfl) fun z H3 ω3 gr rz => ?_
    cases rz
    refine ⟨k, rfl, ?_⟩
    have rel3 := rel2.grow gr
    cases k with
    | false => rw [if_neg Bool.false_ne_true]; exact q2 _ H3 ω3 gr.toE rel3.cells (.inl (.bl _))
    | true =>
      rw [if_pos rfl]
      have q3 : postG (RepM K bz) K g ω3 ρ σ H3 W ((fc ρ st2).bind fun z st => R.of ((cmpV o2 u z).map .bl) st) Q := postG.ext q2 gr.toE
      refine (bindG (P := RepM K true) (f := fc) rel3 q3).mono fun z H4 ⟨ω4, st4, v, x4, rel4, p4, q4⟩ => ?_
      have pu := (p2.extE gr.toE rel2.cells).extE x4 rel3.cells
      cases e2 : cmpV o2 u v with
      | none => rw [e2] at q4; exact q4.elim
      | some k2 =>
        rw [e2] at q4
        exact vr_cmp (b := true) (b' := true) o2 st4 y z u v (.bl k2) ω4 H4 _ rel4.cells pu p4 (by show (cmpV o2 u v).map PV.bl = _; rw [e2]; rfl) fun z' H5 ω5 gr5 rz => q4 _ H5 ω5 gr5.toE (rel4.cells.grow gr5) (.inl rz)
/-! ### sep.join(l) -/
abbrev rJoin (K : PySem.W.Frag) : V → List V → Hp → VK → Prop := fun x xs H Q => ∃ a p, ∃ ys : List Str, x = .str a ∧ xs = [.ref p] ∧ (SqL K H p (ys.map V.str) ∨ SqT K H p (ys.map V.str)) ∧ (ys.map (·.length)).sum + ys.length * a.length ≤ 16777216 ∧ Q (.str (Txt.join a ys)) H
theorem strsP_v : ∀ {ts : List PV} {vs : List V} {ys : List Str}, RepL K ω H vs ts → strsP ts = some ys → vs = ys.map V.str
  | [], _, _, .nil, h => by cases h; rfl
  | t :: ts, _, ys, .cons hx r, h => by
    cases t with
    | str s =>
      change (strsP ts).map (s :: ·) = some ys at h
      cases q : strsP ts with
      | none => rw [q] at h; cases h
      | some m =>
        rw [q] at h
        cases h
        cases hx
        rw [strsP_v r q]
        rfl
    | _ => cases h
theorem se_join {f f' : En → Cel → R PV} {bz : Bool} (hpe : ∀ ta tb, PE X a ta → PE X b tb → PE X e (tM1 (rJoin X.K) ta tb)) (ha : PE X a (tv X.K true W f)) (hb : PE X b (tv X.K true W f')) :
    PE X e (tv X.K bz W fun ρ st => (f ρ st).bind fun x st => match x with
      | .str s => (f' ρ st).bind fun y st => R.of (joinV (.str s) y) st
      | _ => .bad) := by
  refine wPE (hpe _ _ ha hb) fun σ H Q ⟨g, ω, ρ, st, rel, h⟩ => ?_
  refine (bindG (P := RepM X.K true) rel h).mono fun x H1 ⟨ω1, st1, t, x1, rel1, p, q⟩ => ?_
  cases t with
  | str s =>
    refine ⟨⟨s, p.str⟩, ?_⟩
    refine (bindG (P := RepM X.K true) (f := f') rel1 q).mono fun y H2 ⟨ω2, st2, u, x2, rel2, p2, q2⟩ => ?_
    have px := p.str
    have key : ∀ xs : List PV, (match strsP xs with
        | some ys => if (ys.map (·.length)).sum + ys.length * s.length ≤ 16777216 then some (PV.str (Txt.join s ys)) else none
        | none => none) = joinV (.str s) u → ∀ p vs, y = .ref p → RepL X.K ω2 H2 vs xs → (SqL X.K H2 p vs ∨ SqT X.K H2 p vs) → rJoin X.K x [y] H2 Q := fun xs hj p vs hy r hs => by
      rw [← hj] at q2
      cases e1 : strsP xs with
      | none => rw [e1] at q2; exact q2.elim
      | some ys =>
        rw [e1] at q2
        dsimp only at q2
        split at q2
        · rename_i hz
          obtain rfl := strsP_v r e1
          exact ⟨s, p, ys, px, by rw [hy], hs, hz, q2 _ H2 ω2 (ExtE.refl _ _) rel2.cells (.inl (.str _))⟩
        · exact q2.elim
    cases u with
    | lst xs =>
      obtain ⟨a', vs, rfl, ha', ra⟩ := p2.lst
      exact key xs rfl a' vs rfl ra (.inl (.inl (.inl ha')))
    | tup xs =>
      obtain ⟨a', vs, rfl, ha', ra⟩ := p2.tup
      exact key xs rfl a' vs rfl ra (.inr ha')
    | _ => exact q2.elim
  | _ => exact q.elim
/-! ### f-strings -/
def RStr : RX Str Str := fun _ _ x t => x = t
structure SJ (X : Cx) (W : Wx) (es : List Expr) (f : Str → En → Cel → R Str) : Prop where
  ex : ∃ ts, PJ X es ts ∧ ∀ acc σ H (Q : Str → Hp → Prop), tG RStr X.K W (f acc) σ H Q → tJs ts acc σ H Q
theorem sj_nil : SJ X W [] (fun acc _ st => .ok acc st) := ⟨[], .nil, fun acc σ H Q ⟨g, ω, ρ, st, rel, q⟩ => q acc H ω (ExtE.refl _ _) rel.cells rfl⟩
theorem fmtV_some {acc acc' : Str} {t : PV} (h : fmtV acc t = some acc') : ∃ y, str1V t = some (.str y) ∧ acc' = acc ++ y ∧ (acc ++ y).length ≤ sizeLine := by
  unfold fmtV at h
  split at h
  · rename_i y hy
    split at h
    · rename_i hz
      cases h
      exact ⟨y, hy, rfl, szOk_le hz⟩
    · cases h
  · cases h
theorem sj_str {es : List Expr} {s : Str} {fr : Str → En → Cel → R Str} (he : PE X e (tC (.str s))) (hr : SJ X W es fr) :
    SJ X W (e :: es) (fun acc ρ st => (R.ok (PV.str s) st).bind fun x st => match fmtV acc x with
      | some acc' => fr acc' ρ st
      | none => .bad) := by
  obtain ⟨ts, pj, h⟩ := hr.ex
  refine ⟨_ :: ts, .cons he pj, fun acc σ H Q ⟨g, ω, ρ, st, rel, q⟩ => ?_⟩
  cases e1 : fmtV acc (.str s) with
  | none =>
    change postG RStr X.K g ω ρ σ H W (match fmtV acc (.str s) with
      | some acc' => fr acc' ρ st
      | none => .bad) Q at q
    rw [e1] at q
    exact q.elim
  | some acc' =>
    obtain ⟨y, hy, rfl, hz⟩ := fmtV_some e1
    cases hy
    change postG RStr X.K g ω ρ σ H W (match fmtV acc (.str s) with
      | some acc' => fr acc' ρ st
      | none => .bad) Q at q
    rw [e1] at q
    exact ⟨s, rfl, hz, h _ σ H Q ⟨g, ω, ρ, st, rel, q⟩⟩
theorem len_app (a b : Str) : b.length ≤ (a ++ b).length := by
  rw [PySem.strLen_append]
  omega
theorem sj_fmt {es : List Expr} {e' : Expr} {fa : En → Cel → R PV} {fr : Str → En → Cel → R Str} (he : PE X e' (tv X.K true W fa)) (hf : ∀ te, PE X e' te → PE X e (tFmt te)) (hr : SJ X W es fr) :
    SJ X W (e :: es) (fun acc ρ st => (fa ρ st).bind fun x st => match fmtV acc x with
      | some acc' => fr acc' ρ st
      | none => .bad) := by
  obtain ⟨ts, pj, h⟩ := hr.ex
  refine ⟨_ :: ts, .cons (hf _ he) pj, fun acc σ H Q ⟨g, ω, ρ, st, rel, q⟩ => ?_⟩
  refine (bindG (P := RepM X.K true) (f := fa) rel q).mono fun x H1 ⟨ω1, st1, t, x1, rel1, p, q1⟩ => ?_
  cases e1 : fmtV acc t with
  | none => rw [e1] at q1; exact q1.elim
  | some acc' =>
    rw [e1] at q1
    obtain ⟨y, hy, rfl, hz⟩ := fmtV_some e1
    have fin := h _ σ H1 Q ⟨g, ω1, ρ, st1, rel1, q1⟩
    cases t with
    | int i =>
      change (if i.natAbs.log2 < 1920 then some (PV.str (toString i)) else none) = some (.str y) at hy
      split at hy
      · rename_i hl
        cases hy
        exact .inr ⟨i, p.int, hl, _, rfl, hz, fin⟩
      · cases hy
    | str z =>
      cases hy
      exact .inl ⟨_, p.str, Nat.le_trans (len_app acc _) hz, _, rfl, hz, fin⟩
    | _ => cases hy
theorem se_fstr {es : List Expr} {f : Str → En → Cel → R Str} {bz : Bool} (hpe : ∀ ts, PJ X es ts → PE X e (fun σ H Q => tJs ts Str.empty σ H fun out H1 => Q (.str out) H1)) (hj : SJ X W es f) :
    PE X e (tv X.K bz W fun ρ st => (f Str.empty ρ st).bind fun s st => .ok (.str s) st) := by
  obtain ⟨ts, pj, h⟩ := hj.ex
  refine wPE (hpe ts pj) fun σ H Q ⟨g, ω, ρ, st, rel, q⟩ => h _ σ H _ ?_
  refine (bindG (P := RStr) (f := f Str.empty) rel q).mono fun x H1 ⟨ω1, st1, t, x1, rel1, p, q1⟩ => ?_
  cases (show x = t from p)
  exact q1 _ H1 ω1 (ExtE.refl _ _) rel1.cells (.inl (.str _))
/-- one part alone -/
theorem tv_fmt {fa : En → Cel → R PV} {bz : Bool} : ∀ σ H Q, tv K bz W (fun ρ st => (fa ρ st).bind fun x st => match fmtV Str.empty x with
    | some acc' => R.ok (PV.str acc') st
    | none => .bad) σ H Q → tFmt (tv K true W fa) σ H Q := by
  intro σ H Q ⟨g, ω, ρ, st, rel, q⟩
  refine (bindG (P := RepM K true) (f := fa) rel q).mono fun x H1 ⟨ω1, st1, t, x1, rel1, p, q1⟩ => ?_
  cases e1 : fmtV Str.empty t with
  | none => rw [e1] at q1; exact q1.elim
  | some acc' =>
    rw [e1] at q1
    obtain ⟨y, hy, rfl, hz⟩ := fmtV_some e1
    have ey : Str.empty ++ y = y := PySem.Str.empty_append y
    rw [ey] at q1 hz
    have fin : Q (.str y) H1 := q1 _ H1 ω1 (ExtE.refl _ _) rel1.cells (.inl (.str _))
    cases t with
    | int i =>
      change (if i.natAbs.log2 < 1920 then some (PV.str (toString i)) else none) = some (.str y) at hy
      split at hy
      · rename_i hl
        cases hy
        exact .inr ⟨i, p.int, hl, fin⟩
      · cases hy
    | str z =>
      cases hy
      exact .inl ⟨_, p.str, hz, fin⟩
    | _ => cases hy
/-! ### tuple(range(a, b)) -/
theorem rg_rep {i j : Int} : RepL K ω H (rgV i j) (rngP i j) := by
  unfold rgV rngP
  induction (List.range (j - i).toNat) with
  | nil => exact .nil
  | cons k r ih => exact .cons (.int _) ih
theorem se_tupRng {f f' : En → Cel → R PV} {bz : Bool} (hpe : ∀ ta tb, PE X a ta → PE X b tb → PE X e (tTupRg (tRg2 ta tb))) (ha : PE X a (tv X.K true W f)) (hb : PE X b (tv X.K true W f')) :
    PE X e (tv X.K bz W fun ρ st => (f ρ st).bind fun x st => (f' ρ st).bind fun y st => R.of (tupRngV x y) st) := by
  refine wPE (hpe _ _ ha hb) fun σ H Q ⟨g, ω, ρ, st, rel, h⟩ => ?_
  refine (bindG (P := RepM X.K true) rel h).mono fun x H1 ⟨ω1, st1, t, x1, rel1, p, q⟩ => ?_
  refine (bindG (P := RepM X.K true) (f := f') rel1 q).mono fun y H2 ⟨ω2, st2, u, x2, rel2, p2, q2⟩ => ?_
  obtain ⟨z, ez, qz⟩ := of_post rel2 q2
  have pp := p.extE x2 rel1.cells
  cases t with
  | int i =>
    cases u with
    | int j =>
      change (if rOk i && rOk j && szOk (j - i).toNat then some (PV.tup (rngP i j)) else none) = some z at ez
      split at ez
      · rename_i hz
        cases ez
        simp only [Bool.and_eq_true] at hz
        obtain ⟨a1, a2⟩ := rOk_le hz.1.1
        obtain ⟨b1, b2⟩ := rOk_le hz.1.2
        have hs := szOk_le hz.2
        rw [sizeLine_eq] at hs
        exact ⟨i, j, pp.int, p2.int, ⟨a1, a2, b1, b2, by omega⟩, newTup rg_rep qz⟩
      · cases ez
    | _ => cases ez
  | _ => cases ez
end
end Ev
namespace Ev
open PySem L2 PySem.Spec PyProof.Rows
section
variable {prog : Program} {w : World} {A : Around} {E : Value → Shared → Prop} {s : Shared}
theorem adjust_rev (n : Nat) : Builtin.Slice.sliceAdjust none none (-1) (n : Int) = ((n : Int) - 1, -1) := by
  unfold Builtin.Slice.sliceAdjust
  simp
theorem places_rev (n : Nat) : Builtin.Slice.slicePlaces ((n : Int) - 1) (-1) (-1) = n := by
  unfold Builtin.Slice.slicePlaces
  simp only [show ¬ ((-1 : Int) > 0) by omega, if_false]
  split
  · simp
  · simp; omega
theorem sliceApplied_rev {sl : Addr} {vl vu vs : Value} {n : Nat} {Q : Int × Int × Nat → Shared → Prop} (hs : s.heap.IsSliceOf sl vl vu vs) (pl : IsPart vl none) (pu : IsPart vu none) (ps : IsPart vs (some (-1)))
    (h : Q ((n : Int) - 1, -1, n) s) : wpAny (model prog w) A (Builtin.Slice.sliceApplied (.ref sl) (pure (n : Int))) Q E s := by
  obtain ⟨os, hos, hcs, hds⟩ := id hs
  unfold Builtin.Slice.sliceApplied Builtin.Slice.sliceFields
  refine wpAny_bind (wpAny_bind (wpAny_field hos hds (x := vl) rfl (wpAny_bind (wpAny_field hos hds (x := vu) rfl (wpAny_bind (wpAny_field hos hds (x := vs) rfl (wpAny_pure ?_)))))))
  refine wpAny_bind (HT.slicePart_ ps ?_)
  show wpAny _ _ (if ((-1 : Int) == 0) = true then _ else _) _ _ s
  rw [if_neg (by decide)]
  refine wpAny_bind (HT.slicePart_ pl (wpAny_bind (HT.slicePart_ pu (wpAny_bind (wpAny_pure ?_)))))
  show wpAny _ _ (match Builtin.Slice.sliceAdjust none none (-1) (n : Int) with | (lo, hi) => pure (lo, (-1 : Int), Builtin.Slice.slicePlaces lo hi (-1))) _ _ s
  rw [adjust_rev n]
  show wpAny _ _ (pure ((n : Int) - 1, (-1 : Int), Builtin.Slice.slicePlaces ((n : Int) - 1) (-1) (-1))) _ _ s
  rw [places_rev]
  exact wpAny_pure h
theorem pick_rev (xs : Array Value) : ((List.range xs.size).filterMap fun (m : Nat) => xs[(((xs.size : Nat) : Int) - 1 + (m : Int) * (-1)).toNat]?).toArray = xs.toList.reverse.toArray := by
  congr 1
  apply List.ext_getElem?
  intro i
  have e : (List.range xs.size).filterMap (fun (m : Nat) => xs[(((xs.size : Nat) : Int) - 1 + (m : Int) * (-1)).toNat]?) = (List.range xs.size).map (fun m => xs.getD (xs.size - 1 - m) .none) := by
    have key : ∀ (l : List Nat), (∀ m ∈ l, m < xs.size) → l.filterMap (fun (m : Nat) => xs[(((xs.size : Nat) : Int) - 1 + (m : Int) * (-1)).toNat]?) = l.map (fun m => xs.getD (xs.size - 1 - m) .none) := by
      intro l
      induction l with
      | nil => intro _; rfl
      | cons m r ih =>
        intro h
        have hm := h m List.mem_cons_self
        have e1 : (((xs.size : Nat) : Int) - 1 + (m : Int) * (-1)).toNat = xs.size - 1 - m := by omega
        have hlt : xs.size - 1 - m < xs.size := by omega
        rw [List.filterMap_cons, List.map_cons, ih (fun k hk => h k (List.mem_cons_of_mem _ hk)), e1]
        simp [hlt]
    exact key _ fun m hm => List.mem_range.mp hm
  rw [e]
  by_cases hi : i < xs.size
  · rw [List.getElem?_map, List.getElem?_range hi, List.getElem?_reverse (by simpa using hi)]
    have hlt : xs.size - 1 - i < xs.size := by omega
    simp [hlt]
  · rw [List.getElem?_eq_none (by simp; omega), List.getElem?_eq_none (by simp; omega)]
theorem getItem_tuple_rev {t sl : Addr} {items : Array Value} {vl vu vs : Value} {Q : Value → Shared → Prop} (ht : IsTup s.heap t items) (hs : s.heap.IsSliceOf sl vl vu vs) (pl : IsPart vl none) (pu : IsPart vu none) (ps : IsPart vs (some (-1)))
    (h : Q (.ref s.heap.objs.size) { s with heap := s.heap.push { cls := .type "tuple", data := .seq items.toList.reverse.toArray } })
    (hsz : items.size ≤ sizeLine) : wpAny (model prog w) A (getItem (.ref t) (.ref sl)) Q E s := by
  have htake : sizeOk (.seq items.toList.reverse.toArray) := by
    show items.toList.reverse.toArray.size ≤ sizeLine
    simpa using hsz
  obtain ⟨os, hos, hcs, hds⟩ := id hs
  have hTs : s.TypeIs (.ref sl) "slice" := ⟨os, hos, hcs⟩
  unfold getItem
  try with_reducible refine wpAny_holding ?_
  first | refine wpAny_bind (wpAny_pure ?_) | skip
  refine wpAny_bind (wpAny_sequenceKey ht.typeIs (by decide) ?_)
  refine wpAny_bind (wpAny_callSpecial?_slot (name := Str.ofString "__getitem__") ht.typeIs PyProof.Rows.slot_tuple_getitem
    (wpAny_call_entry PyProof.Rows.slot_tuple_getitem ht.typeIs entry_tuple_getitem ?_ (args_tuple_getitem _ _)))
  show wpAny _ _ (Builtin.Tuple.tupleItemsOf (.ref t) >>= _) _ _ s
  refine wpAny_bind (tupleItemsOf_ ht ?_)
  refine wpAny_bind (wpAny_typeOf hTs ?_)
  rw [if_pos (by decide)]
  refine wpAny_bind (sliceApplied_rev hs pl pu ps ?_)
  show wpAny _ _ (if ((((items.size : Nat) : Int) - 1 == 0 && (-1 : Int) == 1 && items.size == items.size) = true) then _ else _) _ _ s
  rw [if_neg (by simp), pick_rev]
  first
    | exact wpAny_bind (m := Builtin.Tuple.tupleExact _) (wpAny_newObj_type (wpAny_pure ⟨_, rfl, wpAny_pure h⟩) htake)
    | exact wpAny_bind (m := Builtin.Tuple.tupleExact _) (wpAny_newObj_type (wpAny_bind (wpAny_pure (wpAny_pure ⟨_, rfl, wpAny_pure h⟩))) htake)
    | exact wpAny_bind (wpAny_bind (m := Builtin.Tuple.tupleExact _) (wpAny_newObj_type (wpAny_pure (wpAny_pure ⟨_, rfl, wpAny_pure h⟩)) htake))
    | exact wpAny_bind (wpAny_bind (m := Builtin.Tuple.tupleExact _) (wpAny_newObj_type (wpAny_pure ⟨_, rfl, wpAny_pure h⟩) htake))
end
section
variable {X : Cx}
abbrev rRevT (K : PySem.W.Frag) : V → Hp → VK → Prop := fun x H1 Q => ∃ a xs, x = .ref a ∧ SqT K H1 a xs ∧ ∀ p, H1 p = none → Q (.ref p) (upd H1 p (.tup xs.reverse))
theorem pe_revT {e : Expr} {te : TE} {k : Nat} {p1 p2 p3 pos : Pos} (he : PE X e te) : PE X (.Subscript e (.Slice none none (some (.UnaryOp .USub (.Constant (.int 1) k p1) p2)) p3) pos) (tUn (rRevT X.K) te) := by
  refine ⟨fun pins s σ H Q I h => ?_⟩
  refine Subscript_ (thn (he.run pins s σ H _ I h) fun v s1 ⟨x, H1, I1, r1, q1⟩ => ?_)
  obtain ⟨a, xs, ex, hx, q⟩ := q1
  subst ex
  cases r1
  have hst : PO X (some (.UnaryOp .USub (.Constant (.int 1) k p1) p2)) (tPart (tUn (rU fun i => .int (-i)) (tC (.int 1)))) := po_some (pe_un un_neg pe_int)
  refine wpAny_Slice (thn (po_none.run pins s1 σ H1 (fun o H2 => o = none ∧ H2 = H1) I1 ⟨rfl, rfl⟩) fun vl s2 ⟨l, H2, I2, pl, el, e2⟩ => ?_)
  subst el e2
  refine thn (po_none.run pins s2 σ H2 (fun o H3 => o = none ∧ H3 = H2) I2 ⟨rfl, rfl⟩) fun vu s3 ⟨u, H3, I3, pu, eu, e3⟩ => ?_
  subst eu e3
  refine thn (hst.run pins s3 σ H3 (fun o H4 => o = some (-1) ∧ H4 = H3) I3 ⟨1, rfl, -1, rfl, rfl, rfl⟩) fun vs s4 ⟨o, H4, I4, ps, eo, e4⟩ => ?_
  subst eo e4
  have I5 : Inv X pins σ H4 { s4 with heap := s4.heap.push { cls := .type "slice", data := .fields #[vl, vu, vs] } } := I4.kept (t' := s4.toks) fun b ob q => Heap.get?_push_of_some _ q
  obtain ⟨its, r, ht, hz⟩ := I5.tuple hx
  have hlen := r.length
  show wpAny (model X.prog X.w) X.A (subscriptTail e (.Slice none none (some (.UnaryOp .USub (.Constant (.int 1) k p1) p2)) p3) (.ref a) (.ref s4.heap.objs.size)) (EP X pins σ Q) X.xe { s4 with heap := s4.heap.push { cls := .type "slice", data := .fields #[vl, vu, vs] } }
  refine tail_any (ops := [.ref a, .ref s4.heap.objs.size]) ht.typeIs (PyProof.Rows.slot_tuple_getitem.lookup) ?_ (by with_unfolding_all rfl)
  refine getItem_tuple_rev ht (Heap.IsSliceOf.new _ vl vu vs) pl pu ps ?_ (by rw [List.size_toArray]; omega)
  refine ⟨.ref _, _, I5.laid (t' := s4.toks) (o := .tup xs.reverse) (fun b ob q => Heap.get?_push_of_some _ q) (Nat.le_refl _) ?_, rfl, q _ (I5.hok.fresh (Nat.le_refl _))⟩
  exact ⟨by rw [List.length_reverse]; exact hz, _, r.reverse, IsTup.new _ _⟩
theorem vr_revT {K : PySem.W.Frag} {b : Bool} : VR1 K b (rRevT K) (fun _ => revTV) := by
  intro st x t z ω H Q c hx hv q
  dsimp only at hv
  cases t with
  | tup ts =>
    cases hv
    obtain ⟨a, vs, rfl, ha, ra⟩ := hx.tup
    exact ⟨a, vs, rfl, ha, newTup ra.reverse q⟩
  | _ => cases hv
variable {W : Wx} {a b e : Expr}
theorem sF_cat {f f' : En → Cel → R PV} (hpe : ∀ ta tb, PE X a ta → PE X b tb → PE X e (tOp rCat ta tb)) (ha : PE X a (tv X.K true W f)) (hb : PE X b (tv X.K true W f')) :
    PE X e (tvF X.K W fun ρ st => (f ρ st).bind fun x st => (f' ρ st).bind fun y st => R.of (catV x y) st) := by
  refine wPE (hpe _ _ ha hb) fun σ H Q ⟨g, ω, ρ, st, rel, h⟩ => (bindF (P := RepM X.K true) rel h).mono fun x H1 ⟨ω1, st1, t, x1, rel1, p, q⟩ => ?_
  refine (bindF (P := RepM X.K true) (f := f') rel1 q).mono fun y H2 ⟨ω2, st2, u, x2, rel2, p2, q2⟩ => ?_
  have pp := p.extE x2 rel1.cells
  cases e : catV t u with
  | none => rw [e] at q2; exact q2.elim
  | some z =>
    rw [e] at q2
    unfold catV at e
    split at e
    · rename_i xs ys
      split at e
      · rename_i hz
        cases e
        obtain ⟨a, vs, rfl, ha, ra⟩ := pp.lst
        obtain ⟨a', vs', rfl, ha', ra'⟩ := p2.lst
        exact ⟨a, a', vs, vs', rfl, rfl, ha, ha', by rw [ra.length, ra'.length]; exact szOk_le hz, freshNew rel2 q2 (ra.append ra')⟩
      · cases e
    · cases e
theorem valP_none {K : PySem.W.Frag} {ω : Wd} {H : Hp} : ∀ {kvs : List (Key × V)} {ts : List PV} {k : Key}, RepL K ω H (kvs.map (·.2)) ts → valP (kvs.map (·.1)) ts k = none → valV kvs k = none
  | [], _, _, .nil, _ => rfl
  | q :: r, _, k, .cons h1 h2, h => by
    rw [List.map_cons, valP] at h
    split at h
    · cases h
    · rename_i hz
      have := valP_none h2 h
      obtain ⟨k0, v0⟩ := q
      rw [valV_neg hz]
      exact this
theorem se_dgetD {f f' : En → Cel → R PV} {bz : Bool} (hpe : ∀ ta tb, PE X a ta → PE X b tb → PE X e (tDGet1 ta tb)) (ha : PE X a (tv X.K true W f)) (hb : PE X b (tv X.K true W f')) :
    PE X e (tv X.K bz W fun ρ st => (f ρ st).bind fun x st => match x with
      | .dct ks ts => (f' ρ st).bind fun y st => R.of (dgetN (.dct ks ts) y) st
      | _ => .bad) := by
  refine wPE (hpe _ _ ha hb) fun σ H Q ⟨g, ω, ρ, st, rel, h⟩ => (bindG (P := RepM X.K true) rel h).mono fun x H1 ⟨ω1, st1, t, x1, rel1, p, q⟩ => ?_
  cases t with
  | dct ks ts =>
    obtain ⟨d, o, kvs, rfl, hd, rfl, rv⟩ := p.dct
    refine ⟨d, rfl, .inl ⟨kvs, .inr ⟨o, hd⟩⟩, ?_⟩
    refine (bindG (P := RepM X.K true) (f := f') rel1 q).mono fun y H2 ⟨ω2, st2, u, x2, rel2, p2, q2⟩ => ?_
    obtain ⟨z, ez, qz⟩ := of_post rel2 q2
    have pp := p.extE x2 rel1.cells
    obtain ⟨d', o', kvs', e0, hd', ek', rv'⟩ := pp.dct
    cases e0
    have key : ∀ k : Key, keyP u = some k → z = (valP (kvs.map Prod.fst) ts k).getD .non → ∃ o, DGet H2 d y o ∧ Q (o.getD .non) H2 := by
      intro k ek hz
      refine ⟨valV kvs' k, .inl ⟨kvs', k, .inr ⟨o', hd'⟩, keyP_v p2 ek, rfl⟩, ?_⟩
      rw [ek'] at hz
      cases hv : valP (kvs'.map (·.1)) ts k with
      | none =>
        rw [hv] at hz
        cases hz
        rw [valP_none rv' hv]
        exact qz _ _ ω2 (Grow.refl _ _) .non
      | some w =>
        rw [hv] at hz
        cases hz
        obtain ⟨v, e1, e2⟩ := valP_get rv' hv
        rw [e1]
        exact qz _ _ ω2 (Grow.refl _ _) e2
    cases ek : keyP u with
    | none =>
      have : dgetN (.dct (kvs.map Prod.fst) ts) u = none := by show (match keyP u with | some k' => some ((valP (kvs.map Prod.fst) ts k').getD .non) | none => none) = none; rw [ek]
      rw [this] at ez
      cases ez
    | some k =>
      have : dgetN (.dct (kvs.map Prod.fst) ts) u = some ((valP (kvs.map Prod.fst) ts k).getD .non) := by show (match keyP u with | some k' => some ((valP (kvs.map Prod.fst) ts k').getD .non) | none => none) = _; rw [ek]
      rw [this] at ez
      exact key k ek (Option.some.inj ez).symm
  | _ => exact q.elim
end
end Ev
namespace Ev
open PySem L2
/-! ### views of the syntax -/
def asName : Expr → Option Str
  | .Name x _ => some x
  | _ => none
def asConst : Expr → Option Const
  | .Constant c _ _ => some c
  | _ => none
def asBin : Expr → Option (Expr × Operator × Expr)
  | .BinOp l o r _ => some (l, o, r)
  | _ => none
def asUn : Expr → Option (UnaryOp × Expr)
  | .UnaryOp o x _ => some (o, x)
  | _ => none
def asBool : Expr → Option (BoolOp × List Expr × Pos)
  | .BoolOp o xs p => some (o, xs, p)
  | _ => none
def asCmp : Expr → Option (Expr × CmpOp × Expr)
  | .Compare l [o] [r] _ => some (l, o, r)
  | _ => none
def asIf : Expr → Option (Expr × Expr × Expr)
  | .IfExp c a b _ => some (c, a, b)
  | _ => none
def asTup : Expr → Option (List Expr)
  | .Tuple es _ _ => some es
  | _ => none
def asLst : Expr → Option (List Expr)
  | .List es _ => some es
  | _ => none
def asCall : Expr → Option (Str × List Expr)
  | .Call (.Name x _) es [] _ => some (x, es)
  | _ => none
def asSub : Expr → Option (Expr × Expr)
  | .Subscript a i _ => some (a, i)
  | _ => none
def asSlice : Expr → Option (Option Expr × Option Expr × Option Expr)
  | .Slice a b c _ => some (a, b, c)
  | _ => none
def asLc : Expr → Option (Expr × Expr × Expr × List Expr × Scope)
  | .ListComp elt [⟨tg, it, ifs, 0⟩] sc _ => some (elt, tg, it, ifs, sc)
  | _ => none
def asDct : Expr → Option (List (Option Expr) × List Expr × Pos)
  | .Dict ks vs p => some (ks, vs, p)
  | _ => none
def asCmp2 : Expr → Option (Expr × CmpOp × Expr × CmpOp × Expr)
  | .Compare l [o, o'] [m, r] _ => some (l, o, m, o', r)
  | _ => none
def asLc2 : Expr → Option (Expr × (Expr × Expr) × (Expr × Expr × List Expr) × Scope)
  | .ListComp elt [⟨tg, it, [], 0⟩, ⟨tg2, it2, ifs, 0⟩] sc _ => some (elt, (tg, it), (tg2, it2, ifs), sc)
  | _ => none
def asFstr : Expr → Option (List Expr)
  | .JoinedStr vs _ => some vs
  | _ => none
def asFmt : Expr → Option Expr
  | .FormattedValue e (-1) none _ => some e
  | _ => none
/-- e[::-1] -/
def asRev : Expr → Option Expr
  | .Subscript e (.Slice none none (some (.UnaryOp .USub (.Constant (.int 1) _ _) _)) _) _ => some e
  | _ => none
/-- x.name(e), on one line -/
def asMeth : Expr → Option (Expr × Str × Expr)
  | .Call (.Attribute o n ap) [x] [] cp => if ap.endLine == cp.line then some (o, n, x) else none
  | _ => none
/-- what a method may be asked of, as it stands -/
def plainO : Expr → Bool
  | .Name .. => true
  | .Constant .. => true
  | .Call _ (_ :: _) _ _ => true
  | .Subscript .. => true
  | .List .. => true
  | .Tuple .. => true
  | .Dict .. => true
  | _ => false
def asStar : Expr → Option Expr
  | .Starred e _ => some e
  | _ => none
def isSet : Expr → Bool
  | .Set .. => true
  | _ => false
/-- a test is read by its value -/
def plainT : Expr → Bool
  | .UnaryOp .Not _ _ => false
  | .BoolOp .. => false
  | .IfExp .. => false
  | .Compare .. => false
  | _ => true
section
variable {e : Expr}
theorem asDct_eq {ks : List (Option Expr)} {vs : List Expr} {p : Pos} (h : asDct e = some (ks, vs, p)) : e = .Dict ks vs p := by
  cases e <;> first | (simp [asDct] at h; done) | (cases h; rfl)
theorem asMeth_eq {e o x : Expr} {n : Str} (h : asMeth e = some (o, n, x)) : ∃ ap cp, e = .Call (.Attribute o n ap) [x] [] cp ∧ (ap.endLine == cp.line) = true := by
  unfold asMeth at h
  split at h
  · split at h
    · rename_i hz; cases h; exact ⟨_, _, rfl, hz⟩
    · cases h
  · cases h
theorem plainO_of {n : Str} {env : Env} (h : plainO e = true) : attributeBase e n env (eval e env) = eval e env := by
  cases e <;> first
    | rfl
    | (simp [plainO] at h; done)
    | (rename_i f as kws p
       cases as with
       | nil => simp [plainO] at h
       | cons x xs => cases f <;> rfl)
theorem asName_eq {x : Str} (h : asName e = some x) : ∃ p, e = .Name x p := by
  cases e <;> first | (simp [asName] at h; done) | (cases h; exact ⟨_, rfl⟩)
theorem asConst_eq {x : Const} (h : asConst e = some x) : ∃ k p, e = .Constant x k p := by
  cases e <;> first | (simp [asConst] at h; done) | (cases h; exact ⟨_, _, rfl⟩)
theorem asBin_eq {l r : Expr} {o : Operator} (h : asBin e = some (l, o, r)) : ∃ p, e = .BinOp l o r p := by
  cases e <;> first | (simp [asBin] at h; done) | (cases h; exact ⟨_, rfl⟩)
theorem asUn_eq {l : Expr} {o : UnaryOp} (h : asUn e = some (o, l)) : ∃ p, e = .UnaryOp o l p := by
  cases e <;> first | (simp [asUn] at h; done) | (cases h; exact ⟨_, rfl⟩)
theorem asBool_eq {l : List Expr} {o : BoolOp} {p : Pos} (h : asBool e = some (o, l, p)) : e = .BoolOp o l p := by
  cases e <;> first | (simp [asBool] at h; done) | (cases h; rfl)
theorem asCmp_eq {l r : Expr} {o : CmpOp} (h : asCmp e = some (l, o, r)) : ∃ p, e = .Compare l [o] [r] p := by
  unfold asCmp at h
  split at h
  · cases h; exact ⟨_, rfl⟩
  · cases h
theorem asIf_eq {a b c : Expr} (h : asIf e = some (c, a, b)) : ∃ p, e = .IfExp c a b p := by
  cases e <;> first | (simp [asIf] at h; done) | (cases h; exact ⟨_, rfl⟩)
theorem asTup_eq {l : List Expr} (h : asTup e = some l) : ∃ k p, e = .Tuple l k p := by
  cases e <;> first | (simp [asTup] at h; done) | (cases h; exact ⟨_, _, rfl⟩)
theorem asLst_eq {l : List Expr} (h : asLst e = some l) : ∃ p, e = .List l p := by
  cases e <;> first | (simp [asLst] at h; done) | (cases h; exact ⟨_, rfl⟩)
theorem asCall_eq {x : Str} {l : List Expr} (h : asCall e = some (x, l)) : ∃ q p, e = .Call (.Name x q) l [] p := by
  unfold asCall at h
  split at h
  · cases h; exact ⟨_, _, rfl⟩
  · cases h
theorem asSub_eq {a i : Expr} (h : asSub e = some (a, i)) : ∃ p, e = .Subscript a i p := by
  cases e <;> first | (simp [asSub] at h; done) | (cases h; exact ⟨_, rfl⟩)
theorem asSlice_eq {a b c : Option Expr} (h : asSlice e = some (a, b, c)) : ∃ p, e = .Slice a b c p := by
  cases e <;> first | (simp [asSlice] at h; done) | (cases h; exact ⟨_, rfl⟩)
theorem asLc_eq {elt tg it : Expr} {ifs : List Expr} {sc : Scope} (h : asLc e = some (elt, tg, it, ifs, sc)) : ∃ p, e = .ListComp elt [⟨tg, it, ifs, 0⟩] sc p := by
  unfold asLc at h
  split at h
  · cases h; exact ⟨_, rfl⟩
  · cases h
theorem asCmp2_eq {l m r : Expr} {o o' : CmpOp} (h : asCmp2 e = some (l, o, m, o', r)) : ∃ p, e = .Compare l [o, o'] [m, r] p := by
  unfold asCmp2 at h
  split at h
  · cases h; exact ⟨_, rfl⟩
  · cases h
theorem asLc2_eq {elt tg it tg2 it2 : Expr} {ifs : List Expr} {sc : Scope} (h : asLc2 e = some (elt, (tg, it), (tg2, it2, ifs), sc)) : ∃ p, e = .ListComp elt [⟨tg, it, [], 0⟩, ⟨tg2, it2, ifs, 0⟩] sc p := by
  unfold asLc2 at h
  split at h
  · cases h; exact ⟨_, rfl⟩
  · cases h
theorem asFstr_eq {vs : List Expr} (h : asFstr e = some vs) : ∃ p, e = .JoinedStr vs p := by
  cases e <;> first | (simp [asFstr] at h; done) | (cases h; exact ⟨_, rfl⟩)
theorem asFmt_eq {x : Expr} (h : asFmt e = some x) : ∃ p, e = .FormattedValue x (-1) none p := by
  unfold asFmt at h
  split at h
  · cases h; exact ⟨_, rfl⟩
  · cases h
theorem asRev_eq {x : Expr} (h : asRev e = some x) : ∃ k p1 p2 p3 pos, e = .Subscript x (.Slice none none (some (.UnaryOp .USub (.Constant (.int 1) k p1) p2)) p3) pos := by
  unfold asRev at h
  split at h
  · cases h; exact ⟨_, _, _, _, _, rfl⟩
  · cases h
theorem asStar_eq {x : Expr} (h : asStar e = some x) : ∃ p, e = .Starred x p := by
  cases e <;> first | (simp [asStar] at h; done) | (cases h; exact ⟨_, rfl⟩)
theorem starEach_plain {es : List Expr} {env : Env} (h : asStar e = none) : starEach (e :: es) env = (false, eval e env) :: starEach es env := by
  cases e <;> first | rfl | (simp [asStar] at h)
theorem plainIx_of (h : asSlice e = none) : PlainIx e := by
  intro o i
  cases e <;> first | rfl | (simp [asSlice] at h)
theorem fsi_of {env : Env} (h : isSet e = false) : ∀ x, foldedSetIterable e env x = pure x := by
  intro x
  cases e <;> first | rfl | (simp [isSet] at h)
theorem marks_of {op : CmpOp} (h : isSet e = false) : behindInMarks op e = false := by
  cases e <;> first | rfl | (simp [isSet] at h)
theorem isTrue_of {env : Env} (h : plainT e = true) : ∀ whole, isTrue e env whole = (do let v ← whole; standAt e.pos; holding [v] (truthy v)) := by
  intro whole
  cases e <;> first
    | rfl
    | (simp [plainT] at h; done)
    | (rename_i op x p; cases op <;> first | rfl | (simp [plainT] at h; done))
end
def noStars (es : List Expr) : Bool := es.all fun e => (asStar e).isNone
theorem noStars_any {env : Env} {pos : Pos} : ∀ {es : List Expr}, noStars es = true → (backTo pos (starEach es env)).any (·.1) = false
  | [], _ => rfl
  | e :: es, h => by
    unfold noStars at h
    rw [List.all_cons, Bool.and_eq_true] at h
    have h1 : asStar e = none := by simpa using h.1
    rw [starEach_plain h1]
    have ih := noStars_any (env := env) (pos := pos) (es := es) h.2
    unfold backTo at ih ⊢
    rw [List.map_cons, List.any_cons, ih]
    rfl
end Ev
namespace Ev
open PySem L2
/-! ### the program, the defs' promises -/
structure Pr where
  P : Program
  w : World
  K : PySem.W.Frag
  mg : Str → Option Value
  base : Heap
def spOf (K : PySem.W.Frag) (fr : Bool) (φ : List PV → Cel → R PV) : Sp := fun vs H Q _ => ∃ ω st ts, RepL K ω H vs ts ∧ CelOk K ω st H ∧ match φ ts st with
  | .ok t st' => ∀ v H' ω', ExtE ω H ω' H' → CelOk K ω' st' H' → (if fr then FreshP K H ω' H' v t else Rep K ω' H' v t) → Q v H'
  | _ => False
/-- a promise by positional values, where no repr is under way -/
def FnG (p : Pr) (k : Nat) (f : Addr) (sp : Sp) : Prop :=
  ∀ (A : Around) (outer : List Env) (s : Shared) (H : Hp) (us : List Value) (vs : List V) (Q : VK) (E : XK), Room k A → A.guards = some [] →
    Env0 p.P p.w p.K p.mg p.base A outer s H → Vals vs us → sp vs H Q E → codeAny (model p.P p.w) A (.call (.ref f) ⟨us, []⟩) (CR CX0 outer p.P p.w H s Q E) s
theorem FnG.mono {p : Pr} {j k : Nat} {f : Addr} {sp : Sp} (F : FnG p j f sp) (h : j ≤ k) : FnG p k f sp := fun A outer s H us vs Q E hr => F A outer s H us vs Q E (hr.mono h)
theorem FnG.imp {p : Pr} {k : Nat} {f : Addr} {sp sp' : Sp} (F : FnG p k f sp) (h : ∀ vs H Q E, sp' vs H Q E → sp vs H Q E) : FnG p k f sp' := fun A outer s H us vs Q E hr hg e0 r q => F A outer s H us vs Q E hr hg e0 r (h _ _ _ _ q)
def biNames : List Str := ["len", "int", "tuple", "list", "isinstance", "all", "range", "zip", "bool", "str", "sorted", "set", "dict", "repr", "enumerate", "any", "max", "min", "sum"]
/-- the defs that may be called: their names, whether they hand back a new list, which are told; the names by slot -/
structure Sx where
  nm : Nat → Str
  fr : Nat → Bool
  kn : Nat → Bool
  N : List Str
  gn : Nat → Str := fun _ => ""
  gk : Nat → Bool := fun _ => false
  tk : Nat → Bool := fun _ => false
structure Lib (p : Pr) (k : Nat) (S : Sx) (Φ : Nat → List PV → Cel → R PV) : Prop where
  fn : ∀ i, S.kn i = true → ∃ f, p.mg (S.nm i) = some (.ref f) ∧ PySem.W.keepIn p.K (.ref f) = true ∧ FnG p k f (spOf p.K (S.fr i) (Φ i))
  bi : ∀ x ∈ biNames, p.mg x = none
  gc : ∀ g, S.gk g = true → ∃ u v t, p.mg (S.gn g) = some u ∧ RelV v u ∧ (∀ ω H, Rep p.K ω H v t) ∧ ∀ st, Φ (1000 + g) [] st = .ok t st
  tb : ∀ g, S.tk g = true → ∃ (a : Addr) (es : Array DictEntry) (n : Nat) (T : List (Str × PV)), p.mg (S.gn g) = some (.ref a) ∧ KDict p.K p.w a es n ∧
    (∀ x, ∃ r, PySem.W.nsIn p.K a x = some r ∧ r.isSome = (T.lookup x).isSome ∧ ∀ t, T.lookup x = some t → ∃ u v, r = some u ∧ RelV v u ∧ ∀ ω H, Rep p.K ω H v t) ∧
    (∀ ts st t st', Φ (2000 + g) ts st = .ok t st' → ∃ x, ts = [.str x] ∧ T.lookup x = some t ∧ st' = st) ∧ (∀ ts st t st', Φ (3000 + g) ts st = .ok t st' → ∃ x, ts = [.str x] ∧ t = .bl (T.lookup x).isSome ∧ st' = st)
structure Good (p : Pr) (k : Nat) (N : List Str) (sc : Scope) (fn : Str → Bool) (X : Cx) : Prop where
  hP : X.prog = p.P
  hw : X.w = p.w
  hK : X.K = p.K
  hmg : X.mg = p.mg
  hb : X.base = p.base
  hN : X.N = N
  nd : N.Nodup
  sc : X.env.scope = sc
  fnE : X.fn = fn
  calm : X.calm = true
  room : Room k X.A
  pass : PassesOwn (model X.prog X.w) X.A X.env X.xe
  gd : X.A.guards = some []
/-! ### the check -/
/-- a value (b: a list that a name owns may be read); what is walked (tp: the target is a tuple) -/
inductive Md where
  | v (b : Bool) | i (b tp : Bool)
def Md.b : Md → Bool
  | .v b => b
  | .i b _ => b
def Md.isI : Md → Bool
  | .v _ => false
  | .i _ _ => true
def Md.tp : Md → Bool
  | .v _ => false
  | .i _ tp => tp
def visB (sc : Scope) (x : Str) : Bool := match sc.names.lookup x with
  | some .local => true
  | some .cell => true
  | some .free => true
  | _ => false
def locB (sc : Scope) (fn : Str → Bool) (x : Str) : Bool := match sc.names.lookup x with
  | some .local => true
  | some .cell => fn x
  | _ => false
def glB (sc : Scope) (x : Str) : Bool := decide (sc.names.lookup x = some .globalImplicit) && !(x == ("__debug__" : Str)) && !(x == ("__name__" : Str))
def isNm (N : List Str) (sc : Scope) (i : Nat) (e : Expr) : Bool := match asName e with
  | some x => decide (N[i]? = some x) && visB sc x && !(x == ("__debug__" : Str)) && !(x == ("__classdict__" : Str))
  | none => false
def relabelS (scope sc : Scope) : Scope :=
  { scope with names := scope.names.map fun (n, k) => if (k == .free && sc.kind == .function && sc.names.lookup n == some .cell) then (n, .cell) else (n, k) }
theorem relabelS_eq (scope : Scope) (env : Env) : relabel scope env = relabelS scope env.scope := rfl
def chkTg1 (N : List Str) (sc : Scope) (fn : Str → Bool) (i : Nat) (e : Expr) : Bool := match asName e with
  | some x => decide (N[i]? = some x) && locB sc fn x
  | none => false
def chkTgs (N : List Str) (sc : Scope) (fn : Str → Bool) : List Nat → List Expr → Bool
  | [], [] => true
  | i :: is, e :: es => chkTg1 N sc fn i e && chkTgs N sc fn is es
  | _, _ => false
def chkTg (N : List Str) (sc : Scope) (fn : Str → Bool) (tg : List Nat) (e : Expr) : Bool := match tg with
  | [i] => chkTg1 N sc fn i e
  | is => match asTup e with
    | some es => decide (is.length ≠ 1) && chkTgs N sc fn is es
    | none => false
/-- a call of a built-in with these arguments -/
def call1 (sc : Scope) (x : Str) (e : Expr) : Option Expr := match asCall e with
  | some (y, [a]) => if (decide (y = x) && glB sc x && (asStar a).isNone) then some a else none
  | _ => none
def call2 (sc : Scope) (x : Str) (e : Expr) : Option (Expr × Expr) := match asCall e with
  | some (y, [a, b]) => if (decide (y = x) && glB sc x && (asStar a).isNone && (asStar b).isNone) then some (a, b) else none
  | _ => none
/-- no star at all, or none ahead and some behind -/
def starOk (xs : List Expr) : Bool := noStars xs || (match xs with
  | y :: ys => (asStar y).isNone && !noStars ys
  | [] => false)
def fnBlk (scope : Scope) : Str → Bool := fun x => scope.names.lookup x == some .cell
def constS : C → Option Str
  | .str s => some s
  | _ => none
theorem constS_eq {a : C} {s : Str} (h : constS a = some s) : a = .str s := by
  cases a <;> first | (simp [constS] at h; done) | (cases h; rfl)
section
variable (S : Sx)
mutual
def chkE (sc : Scope) (fn : Str → Bool) : Md → C → Expr → Bool
  | _, .var i, e => isNm S.N sc i e
  | m, .bor i, e => m.b && isNm S.N sc i e
  | _, .int i, e => decide (asConst e = some (.int i))
  | _, .str s, e => decide (asConst e = some (.str s))
  | _, .bl b, e => decide (asConst e = some (.bool b))
  | _, .non, e => decide (asConst e = some .none)
  | _, .bin op a b, e => match asBin e with
    | some (l, o, r) => decide (o = opB op) && chkE sc fn (.v true) a l && chkE sc fn (.v true) b r
    | none => false
  | _, .neg a, e => match asUn e with
    | some (o, x) => decide (o = .USub) && chkE sc fn (.v true) a x
    | none => false
  | _, .not a, e => match asUn e with
    | some (o, x) => decide (o = .Not) && chkE sc fn (.v true) a x
    | none => false
  | _, .cmp op a b, e => match asCmp e with
    | some (l, o, r) => decide (o = opC op) && !isSet r && chkE sc fn (.v true) a l && chkE sc fn (.v true) b r
    | none => false
  | m, .and a b, e => match asBool e with
    | some (.And, [x, y], _) => chkE sc fn (.v false) a x && chkE sc fn (.v m.b) b y
    | some (.And, x :: y :: z :: r, p) => chkE sc fn (.v false) a x && chkE sc fn (.v m.b) b (.BoolOp .And (y :: z :: r) p)
    | _ => false
  | m, .or a b, e => match asBool e with
    | some (.Or, [x, y], _) => chkE sc fn (.v false) a x && chkE sc fn (.v m.b) b y
    | some (.Or, x :: y :: z :: r, p) => chkE sc fn (.v false) a x && chkE sc fn (.v m.b) b (.BoolOp .Or (y :: z :: r) p)
    | _ => false
  | m, .ite t a b, e => match asIf e with
    | some (c, x, y) => chkT sc fn t c && chkE sc fn (.v m.b) a x && chkE sc fn (.v m.b) b y
    | none => false
  | _, .tup es, e => match asTup e with
    | some xs => chkA sc fn es xs
    | none => false
  | _, .lst es, e => match asLst e with
    | some xs => chkA sc fn es xs
    | none => false
  | _, .call f es, e => match asCall e with
    | some (x, xs) => !S.fr f && decide (x = S.nm f) && S.kn f && glB sc x && chkA sc fn es xs && starOk xs
    | none => false
  | _, .len a, e => match call1 sc "len" e with
    | some x => chkE sc fn (.v true) a x
    | none => false
  | _, .toInt a, e => match call1 sc "int" e with
    | some x => chkE sc fn (.v true) a x
    | none => false
  | _, .tupleOf a, e => match call1 sc "tuple" e with
    | some x => chkE sc fn (.v true) a x
    | none => false
  | _, .listOf a, e => match call1 sc "list" e with
    | some x => chkE sc fn (.v true) a x
    | none => false
  | _, .isa a t, e => match call2 sc "isinstance" e with
    | some (x, y) => decide (asName y = some (Str.ofString (tyS t))) && glB sc (Str.ofString (tyS t)) && chkE sc fn (.v true) a x
    | none => false
  | _, .cat a b, e => match asBin e with
    | some (l, o, r) => decide (o = .Add) && chkE sc fn (.v true) a l && chkE sc fn (.v true) b r
    | none => false
  | _, .isa2 a t u, e => match call2 sc "isinstance" e with
    | some (x, y) => (match asTup y with
      | some [y1, y2] => decide (asName y1 = some (Str.ofString (tyS t))) && decide (asName y2 = some (Str.ofString (tyS u))) && glB sc (Str.ofString (tyS t)) && glB sc (Str.ofString (tyS u)) && chkE sc fn (.v true) a x
      | _ => false)
    | none => false
  | _, .dgetD a b, e => match asMeth e with
    | some (o, n, x) => decide (n = ("get" : Str)) && plainO o && (asStar x).isNone && chkE sc fn (.v true) a o && chkE sc fn (.v true) b x
    | none => false
  | _, .revT a, e => match asRev e with
    | some x => chkE sc fn (.v true) a x
    | none => false
  | _, .all a, e => match call1 sc "all" e with
    | some x => chkE sc fn (.v true) a x
    | none => false
  | _, .indexOf a b, e => match asMeth e with
    | some (o, n, x) => decide (n = ("index" : Str)) && plainO o && (asStar x).isNone && chkE sc fn (.v true) a o && chkE sc fn (.v true) b x
    | none => false
  | _, .ix a i, e => match asSub e with
    | some (x, y) => (asSlice y).isNone && chkE sc fn (.v true) a x && chkE sc fn (.v true) i y
    | none => false
  | _, .sl a lo hi, e => match asSub e with
    | some (x, y) => (match asSlice y with
      | some (l, h, none) => chkE sc fn (.v true) a x && chkO sc fn lo l && chkO sc fn hi h
      | _ => false)
    | none => false
  | _, .comp elt tg it ifs own, e => match asLc e with
    | some (x, t, i, fs, s) => blkC S.N sc s (own.map fun i => (S.N.getD i "", i)) && tg.all (own.contains ·) && !isSet i && chkE sc fn (.i true (asTup t).isSome) it i &&
        chkTg S.N (relabelS s sc) (fnBlk s) tg t && chkF (relabelS s sc) (fnBlk s) ifs fs && chkE (relabelS s sc) (fnBlk s) (.v false) elt x
    | none => false
  | m, .rng1 a, e => m.isI && (match call1 sc "range" e with
    | some x => chkE sc fn (.v false) a x
    | none => false)
  | m, .rng2 a b, e => m.isI && (match call2 sc "range" e with
    | some (x, y) => chkE sc fn (.v false) a x && chkE sc fn (.v false) b y
    | none => false)
  | m, .zip2 a b, e => m.isI && m.tp && (match call2 sc "zip" e with
    | some (x, y) => chkE sc fn (.v false) a x && chkE sc fn (.v false) b y
    | none => false)
  | _, .repr a, e => match call1 sc "repr" e with
    | some x => chkE sc fn (.v true) a x
    | none => false
  | _, .dct kvs, e => match asDct e with
    | some (ks, vs, _) => ks.all (·.isSome) && decide (ks.length = vs.length) && decide (ks ≠ []) && decide (ks.length ≤ 15) && chkD sc fn kvs ks vs
    | none => false
  | _, .dget a i, e => match asSub e with
    | some (x, y) => (asSlice y).isNone && chkE sc fn (.v true) a x && chkE sc fn (.v true) i y
    | none => false
  | _, .any a, e => match call1 sc "any" e with
    | some x => chkE sc fn (.v true) a x
    | none => false
  | _, .str1 a, e => match call1 sc "str" e with
    | some x => chkE sc fn (.v true) a x
    | none => false
  | _, .chain o1 o2 a b c, e => match asCmp2 e with
    | some (l, p1, m, p2, r) => decide (p1 = opC o1) && decide (p2 = opC o2) && !isSet r && chkE sc fn (.v true) a l && chkE sc fn (.v true) b m && chkE sc fn (.v true) c r
    | none => false
  | _, .gc g, e => match asName e with
    | some x => decide (x = S.gn g) && S.gk g && glB sc x
    | none => false
  | _, .kget g k, e => match asSub e with
    | some (x, y) => (asSlice y).isNone && decide (asName x = some (S.gn g)) && S.tk g && glB sc (S.gn g) && chkE sc fn (.v true) k y
    | none => false
  | _, .kin neg g k, e => match asCmp e with
    | some (l, o, r) => decide (o = if neg then .NotIn else .In) && decide (asName r = some (S.gn g)) && S.tk g && glB sc (S.gn g) && chkE sc fn (.v true) k l
    | none => false
  | _, .comp2 elt tg it tg2 it2 ifs own own2, e => match asLc2 e with
    | some (x, (t, i), (t2, i2, fs), s) => blkC S.N sc s (own.map fun i => (S.N.getD i "", i)) && tg.all (own.contains ·) && tg2.all (own2.contains ·) && own2.all (own.contains ·) && !isSet i && !isSet i2 && chkE sc fn (.i true (asTup t).isSome) it i &&
        chkTg S.N (relabelS s sc) (fnBlk s) tg t && chkE (relabelS s sc) (fnBlk s) (.i false (asTup t2).isSome) it2 i2 && chkTg S.N (relabelS s sc) (fnBlk s) tg2 t2 && chkF (relabelS s sc) (fnBlk s) ifs fs && chkE (relabelS s sc) (fnBlk s) (.v false) elt x
    | none => false
  | m, .enum a, e => m.isI && m.tp && (match call1 sc "enumerate" e with
    | some x => chkE sc fn (.v false) a x
    | none => false)
  | _, .join a b, e => match asMeth e with
    | some (o, n, x) => decide (n = ("join" : Str)) && plainO o && (asStar x).isNone && chkE sc fn (.v true) a o && chkE sc fn (.v true) b x
    | none => false
  | _, .fstr es, e => match asFstr e with
    | some (v :: w :: r) => chkJ sc fn es (v :: w :: r)
    | some [v] => (match es, asFmt v with
      | .cons a .nil, some x => chkE sc fn (.v true) a x
      | _, _ => false)
    | _ => false
  | _, .rev a, e => match asRev e with
    | some x => chkE sc fn (.v true) a x
    | none => false
  | _, .tupRng a b, e => match call1 sc "tuple" e with
    | some x => (match call2 sc "range" x with
      | some (y, z) => chkE sc fn (.v true) a y && chkE sc fn (.v true) b z
      | none => false)
    | none => false
  | _, .sset a, e => match call1 sc "sorted" e with
    | some x => (match call1 sc "set" x with
      | some y => chkE sc fn (.v true) a y
      | none => false)
    | none => false
  | _, .sorted a, e => match call1 sc "sorted" e with
    | some x => chkE sc fn (.v true) a x
    | none => false
def chkJ (sc : Scope) (fn : Str → Bool) : Cs → List Expr → Bool
  | .nil, [] => true
  | .cons a r, e :: es => (match asFmt e with
      | some x => chkE sc fn (.v true) a x
      | none => (match constS a with
        | some s => decide (asConst e = some (.str s))
        | none => false)) && chkJ sc fn r es
  | _, _ => false
def chkD (sc : Scope) (fn : Str → Bool) : Cs → List (Option Expr) → List Expr → Bool
  | .nil, [], [] => true
  | .cons k (.cons v r), some x :: xs, y :: ys => chkE sc fn (.v false) k x && chkE sc fn (.v false) v y && chkD sc fn r xs ys
  | _, _, _ => false
def chkA (sc : Scope) (fn : Str → Bool) : Cs → List Expr → Bool
  | .nil, [] => true
  | .cons a r, e :: es => (asStar e).isNone && chkE sc fn (.v false) a e && chkA sc fn r es
  | .star a r, e :: es => (match asStar e with
    | some x => chkE sc fn (.v true) a x
    | none => false) && chkA sc fn r es
  | _, _ => false
def chkO (sc : Scope) (fn : Str → Bool) : Cs → Option Expr → Bool
  | .nil, none => true
  | .cons a .nil, some e => chkE sc fn (.v false) a e
  | _, _ => false
def chkF (sc : Scope) (fn : Str → Bool) : Cs → List Expr → Bool
  | .nil, [] => true
  | .cons a .nil, [e] => chkT sc fn a e
  | _, _ => false
/-- as a test -/
def chkT (sc : Scope) (fn : Str → Bool) : C → Expr → Bool
  | .not a, e => match asUn e with
    | some (o, x) => decide (o = .Not) && chkT sc fn a x
    | none => false
  | .and a b, e => match asBool e with
    | some (.And, [x, y], _) => chkT sc fn a x && chkT sc fn b y
    | some (.And, x :: y :: z :: r, p) => chkT sc fn a x && chkT sc fn b (.BoolOp .And (y :: z :: r) p)
    | _ => false
  | .or a b, e => match asBool e with
    | some (.Or, [x, y], _) => chkT sc fn a x && chkT sc fn b y
    | some (.Or, x :: y :: z :: r, p) => chkT sc fn a x && chkT sc fn b (.BoolOp .Or (y :: z :: r) p)
    | _ => false
  | .cmp op a b, e => match asCmp e with
    | some (l, o, r) => decide (o = opC op) && !isSet r && chkE sc fn (.v true) a l && chkE sc fn (.v true) b r
    | none => false
  | .call f es, e => match asCall e with
    | some (x, xs) => !S.fr f && decide (x = S.nm f) && S.kn f && glB sc x && chkA sc fn es xs && starOk xs
    | none => false
  | .isa a t, e => match call2 sc "isinstance" e with
    | some (x, y) => decide (asName y = some (Str.ofString (tyS t))) && glB sc (Str.ofString (tyS t)) && chkE sc fn (.v true) a x
    | none => false
  | .isa2 a t u, e => match call2 sc "isinstance" e with
    | some (x, y) => (match asTup y with
      | some [y1, y2] => decide (asName y1 = some (Str.ofString (tyS t))) && decide (asName y2 = some (Str.ofString (tyS u))) && glB sc (Str.ofString (tyS t)) && glB sc (Str.ofString (tyS u)) && chkE sc fn (.v true) a x
      | _ => false)
    | none => false
  | .all a, e => match call1 sc "all" e with
    | some x => chkE sc fn (.v true) a x
    | none => false
  | .var i, e => isNm S.N sc i e
  | .ix a i, e => match asSub e with
    | some (x, y) => (asSlice y).isNone && chkE sc fn (.v true) a x && chkE sc fn (.v true) i y
    | none => false
  | .bl b, e => decide (asConst e = some (.bool b))
  | .any a, e => match call1 sc "any" e with
    | some x => chkE sc fn (.v true) a x
    | none => false
  | .chain o1 o2 a b c, e => match asCmp2 e with
    | some (l, p1, m, p2, r) => decide (p1 = opC o1) && decide (p2 = opC o2) && !isSet r && chkE sc fn (.v true) a l && chkE sc fn (.v true) b m && chkE sc fn (.v true) c r
    | none => false
  | .kin neg g k, e => match asCmp e with
    | some (l, o, r) => decide (o = if neg then .NotIn else .In) && decide (asName r = some (S.gn g)) && S.tk g && glB sc (S.gn g) && chkE sc fn (.v true) k l
    | none => false
  | _, _ => false
end
end
end Ev
namespace Ev
open PySem L2
section
variable {X : Cx} {W : Wx} {e a b : Expr} {K : PySem.W.Frag}
/-- a def's call by positional values: the callee runs -/
theorem run_G {p : Pr} {k : Nat} {f : Addr} {sp : Sp} {pins : List (Addr × Obj)} {σ : L2.St} {H : Hp} {s : Shared} {Q : VK} {us : List Value} {vs : List V} (F : FnG p k f sp) (hX : X.prog = p.P ∧ X.w = p.w ∧ X.K = p.K ∧ X.mg = p.mg ∧ X.base = p.base) (hr : Room k X.A) (hg : X.A.guards = some [])
    (I : Inv X pins σ H s) (r : Vals vs us) (h : sp vs H Q E0) : wpAny (model X.prog X.w) X.A (call (.ref f) us) (EP X pins σ Q) X.xe s := by
  obtain ⟨h1, h2, h3, h4, h5⟩ := hX
  have e0 := I.env0
  rw [h1, h2, h3, h4, h5] at e0
  rw [h1, h2]
  refine wpAny_call (codeAny_mono (F X.A X.stack s H us vs Q E0 hr hg e0 r h) fun res s' hq => ?_)
  match res, hq with
  | .error _, hq => exact False.elim hq
  | .ok (.ret u), hq => exact I.after (by rw [h1, h2]; exact hq)
  | .ok .next, hq => exact False.elim hq
  | .ok .brk, hq => exact False.elim hq
  | .ok .cont, hq => exact False.elim hq
theorem pe_callG {p : Pr} {k : Nat} {f : Addr} {sp : Sp} {x : Str} {q pos : Pos} {es : List Expr} {t : TA} (F : FnG p k f sp) (hX : X.prog = p.P ∧ X.w = p.w ∧ X.K = p.K ∧ X.mg = p.mg ∧ X.base = p.base) (hr : Room k X.A) (hg : X.A.guards = some [])
    (hk : PySem.W.keepIn X.K (.ref f) = true) (gx : Gl X x) (hm : X.mg x = some (.ref f)) (ha : PA X (e :: es) t) (hd : (x == ("__debug__" : Str)) = false)
    (he : starEach (e :: es) X.env = (false, eval e X.env) :: starEach es X.env) :
    PE X (.Call (.Name x q) (e :: es) [] pos) (fun σ H Q => t σ H fun vs H1 => sp vs H1 Q E0) := ⟨fun pins s σ H Q I h => by
  have args := ha.run pos pins s σ H _ I h
  cases hst : (backTo pos (starEach es X.env)).any (·.1) with
  | false =>
    exact wpAny_Call_Name_kw (ld_glob I gx hm (PySem.W.callWith_K (h₀ := X.base) I.ok.mod.kin hk (thn args fun us s1 z => by
      obtain ⟨vs, H1, I1, r, qq⟩ := z
      exact ⟨I1.kIn, run_G F hX hr hg I1 r qq⟩) he hst) hd)
  | true =>
    exact wpAny_Call_Name_kw (ld_glob I gx hm (PySem.W.callWith_S2 (h₀ := X.base) I.ok.mod.kin hk (thn args fun us s1 z => by
      obtain ⟨vs, H1, I1, r, qq⟩ := z
      exact ⟨I1.kIn, run_G F hX hr hg I1 r qq⟩) he hst) hd)⟩
theorem pe_callG0 {p : Pr} {k : Nat} {f : Addr} {sp : Sp} {x : Str} {q pos : Pos} (F : FnG p k f sp) (hX : X.prog = p.P ∧ X.w = p.w ∧ X.K = p.K ∧ X.mg = p.mg ∧ X.base = p.base) (hr : Room k X.A) (hg : X.A.guards = some [])
    (hk : PySem.W.keepIn X.K (.ref f) = true) (gx : Gl X x) (hm : X.mg x = some (.ref f)) (hd : (x == ("__debug__" : Str)) = false) : PE X (.Call (.Name x q) [] [] pos) (fun σ H Q => sp [] H Q E0) :=
  ⟨fun pins s σ H Q I h => wpAny_Call_Name_kw (ld_glob I gx hm (PySem.W.callWith_K0 I.kIn hk (run_G (us := []) F hX hr hg I .nil h)) hd)⟩
/-- what a call gives -/
theorem se_call {f : En → Cel → R (List PV)} {φ : List PV → Cel → R PV} {t : TA → TE} {bz : Bool} {es : List Expr} {E : XK} (hpe : ∀ ta, PA X es ta → PE X e (fun σ H Q => ta σ H fun vs H1 => spOf X.K false φ vs H1 Q E)) (ha : PA X es (tvs X.K W f)) :
    PE X e (tv X.K bz W fun ρ st => (f ρ st).bind fun xs st => (φ xs st).noexc) := by
  refine wPE (hpe _ ha) fun σ H Q ⟨g, ω, ρ, st, rel, h⟩ => (bindG (P := RepL X.K) rel h).mono fun xs H1 ⟨ω1, st1, ts, x1, rel1, p, q⟩ => ?_
  refine ⟨ω1, st1, ts, p, rel1.cells, ?_⟩
  cases e1 : φ ts st1 with
  | ok t s => rw [e1] at q; exact fun v H' ω' y c r => q v H' ω' y c (.inl r)
  | exc x s => rw [e1] at q; exact q.elim
  | bad => rw [e1] at q; exact q.elim
theorem sF_call {f : En → Cel → R (List PV)} {φ : List PV → Cel → R PV} {t : TA → TE} {es : List Expr} {E : XK} (hpe : ∀ ta, PA X es ta → PE X e (fun σ H Q => ta σ H fun vs H1 => spOf X.K true φ vs H1 Q E)) (ha : PA X es (tvs X.K W f)) :
    PE X e (tvF X.K W fun ρ st => (f ρ st).bind fun xs st => (φ xs st).noexc) := by
  refine wPE (hpe _ ha) fun σ H Q ⟨g, ω, ρ, st, rel, h⟩ => (bindF (P := RepL X.K) rel h).mono fun xs H1 ⟨ω1, st1, ts, x1, rel1, p, q⟩ => ?_
  refine ⟨ω1, st1, ts, p, rel1.cells, ?_⟩
  cases e1 : φ ts st1 with
  | ok t s => rw [e1] at q; exact fun v H' ω' y c r => q v H' ω' y c r
  | exc x s => rw [e1] at q; exact q.elim
  | bad => rw [e1] at q; exact q.elim
/-- nothing is answered -/
theorem se_bad {f : En → Cel → R PV} {bz : Bool} (h : ∀ ρ st, (∃ e s, f ρ st = .exc e s) ∨ f ρ st = .bad) (hw : ∀ e s, ∀ ρ st, f ρ st ≠ .exc e s) : PE X e (tv X.K bz W f) := ⟨fun pins s σ H Q I ⟨g, ω, ρ, st, rel, q⟩ => by
  rcases h ρ st with ⟨x, s', z⟩ | z
  · exact absurd z (hw x s' ρ st)
  · rw [z] at q; exact q.elim⟩
/-- two operands, as a test -/
theorem w2 {f f' : En → Cel → R PV} {r : R2} {v : Cel → PV → PV → Option PV} {ba bb bz : Bool} (hv : VR2 K ba bb r v) : ∀ σ H Q, tv K bz W (fun ρ st => (f ρ st).bind fun x st => (f' ρ st).bind fun y st => R.of (v st x y) st) σ H Q → tOp r (tv K ba W f) (tv K bb W f') σ H Q :=
  fun σ H Q ⟨g, ω, ρ, st, rel, h⟩ => (bindG (P := RepM K ba) rel h).mono fun x H1 ⟨ω1, st1, t, x1, rel1, p, q⟩ => by
    refine (bindG (P := RepM K bb) (f := f') rel1 q).mono fun y H2 ⟨ω2, st2, u, x2, rel2, p2, q2⟩ => ?_
    obtain ⟨z, ez, qz⟩ := of_post rel2 q2
    exact hv st2 x y t u z ω2 H2 Q rel2.cells (p.extE x2 rel1.cells) p2 ez qz
end
section
variable {p : Pr} {k : Nat} {S : Sx} {Φ : Nat → List PV → Cel → R PV} {sc : Scope} {fn : Str → Bool} {X : Cx} {W : Wx} {e : Expr}
theorem isNm_of {i : Nat} (h : isNm S.N sc i e = true) : ∃ x q, e = .Name x q ∧ S.N[i]? = some x ∧ Vis sc x ∧ (x == ("__debug__" : Str)) = false ∧ (x == ("__classdict__" : Str)) = false := by
  unfold isNm at h
  cases q : asName e with
  | none => rw [q] at h; cases h
  | some x =>
    rw [q] at h
    obtain ⟨pp, rfl⟩ := asName_eq q
    simp only [Bool.and_eq_true, decide_eq_true_eq, Bool.not_eq_true'] at h
    refine ⟨x, pp, rfl, h.1.1.1, ?_, h.1.2, h.2⟩
    have hv := h.1.1.2
    unfold visB at hv
    unfold Vis
    split at hv
    · rename_i z; exact .inl z
    · rename_i z; exact .inr (.inl z)
    · rename_i z; exact .inr (.inr z)
    · cases hv
theorem Good.var (G : Good p k S.N sc fn X) {i : Nat} (h : isNm S.N sc i e = true) : PE X e (tVar i) := by
  obtain ⟨x, q, rfl, h1, h2, h3, h4⟩ := isNm_of h
  exact pe_var (by rw [G.hN]; exact h1) (by rw [G.sc]; exact h2) h3 h4
theorem Good.gl (G : Good p k S.N sc fn X) {x : Str} (h : glB sc x = true) : Gl X x ∧ (x == ("__debug__" : Str)) = false ∧ x ≠ "__name__" := by
  unfold glB at h
  simp only [Bool.and_eq_true, decide_eq_true_eq, Bool.not_eq_true'] at h
  refine ⟨?_, h.1.2, fun z => ?_⟩
  · show X.env.scope.names.lookup x = _
    rw [G.sc]; exact h.1.1
  · rw [z] at h
    exact absurd h.2 (by decide)
theorem call1_of {x : Str} {a : Expr} (h : call1 sc x e = some a) : ∃ q pp, e = .Call (.Name x q) [a] [] pp ∧ glB sc x = true ∧ asStar a = none := by
  unfold call1 at h
  split at h
  · rename_i y a' hc
    split at h
    · rename_i hz
      cases h
      obtain ⟨q, pp, rfl⟩ := asCall_eq hc
      simp only [Bool.and_eq_true, decide_eq_true_eq, Option.isNone_iff_eq_none] at hz
      obtain ⟨⟨rfl, h2⟩, h3⟩ := hz
      exact ⟨q, pp, rfl, h2, h3⟩
    · cases h
  · cases h
theorem call2_of {x : Str} {a b : Expr} (h : call2 sc x e = some (a, b)) : ∃ q pp, e = .Call (.Name x q) [a, b] [] pp ∧ glB sc x = true ∧ asStar a = none ∧ asStar b = none := by
  unfold call2 at h
  split at h
  · rename_i y a' b' hc
    split at h
    · rename_i hz
      cases h
      obtain ⟨q, pp, rfl⟩ := asCall_eq hc
      simp only [Bool.and_eq_true, decide_eq_true_eq, Option.isNone_iff_eq_none] at hz
      obtain ⟨⟨⟨rfl, h2⟩, h3⟩, h4⟩ := hz
      exact ⟨q, pp, rfl, h2, h3, h4⟩
    · cases h
  · cases h
def Snd (X : Cx) (W : Wx) (Φ : Nat → List PV → Cel → R PV) : Md → C → Expr → Prop
  | .v b, c, e => PE X e (tv X.K b W (ev Φ c))
  | .i b tp, c, e => ∀ tg, (tp = true → ∃ es k p, tg = Expr.Tuple es k p) → PI X tg e (ti X.K b W (ev Φ c))
theorem sndOf {m : Md} {c : C} (h : PE X e (tv X.K m.b W (ev Φ c))) : Snd X W Φ m c e := by
  cases m with
  | v b => exact h
  | i b tp => exact fun tg _ => si_seq h
/-- one argument of a built-in -/
theorem Good.bi1 (L : Lib p k S Φ) (G : Good p k S.N sc fn X) {x : Str} {a : Expr} {id : String} {r : List V → Hp → VK → Prop} (h : call1 sc x e = some a) (hm : x ∈ biNames) (hv : bootBuiltins x = some (.builtin id)) (hc : CallR X (.builtin id) r) : ∀ ta, PE X a ta → PE X e (tUn (rC1 r) ta) := by
  intro ta ha
  obtain ⟨q, pp, rfl, h2, h3⟩ := call1_of h
  obtain ⟨g1, g2, g3⟩ := G.gl h2
  exact pe_callB hc g1 (by rw [G.hmg]; exact L.bi x hm) hv (pa_cons ha pa_nil (starEach_plain h3)) g3 g2 (starEach_plain h3) rfl
theorem Good.ty1 (L : Lib p k S Φ) (G : Good p k S.N sc fn X) {x : Str} {a : Expr} {T : String} {r : List V → Hp → VK → Prop} (h : call1 sc x e = some a) (hm : x ∈ biNames) (hv : bootBuiltins x = some (.type T)) (hc : CallR X (.type T) r) : ∀ ta, PE X a ta → PE X e (tUn (rC1 r) ta) := by
  intro ta ha
  obtain ⟨q, pp, rfl, h2, h3⟩ := call1_of h
  obtain ⟨g1, g2, g3⟩ := G.gl h2
  exact pe_callTy hc g1 (by rw [G.hmg]; exact L.bi x hm) hv (pa_cons ha pa_nil (starEach_plain h3)) g3 g2 (starEach_plain h3) rfl
/-- isinstance -/
theorem Good.isi (L : Lib p k S Φ) (G : Good p k S.N sc fn X) {a y : Expr} {t : Ty} {f : En → Cel → R PV} {bz : Bool} (h : call2 sc "isinstance" e = some (a, y)) (hy : asName y = some (Str.ofString (tyS t))) (hg : glB sc (Str.ofString (tyS t)) = true) (ha : PE X a (tv X.K true W f)) :
    PE X e (tv X.K bz W fun ρ st => (f ρ st).bind fun x st => R.of ((isaV x t).map .bl) st) := by
  obtain ⟨q, pp, rfl, h2, h3, h4⟩ := call2_of h
  obtain ⟨g1, g2, g3⟩ := G.gl h2
  obtain ⟨yp, rfl⟩ := asName_eq hy
  obtain ⟨t1, t2, t3⟩ := G.gl hg
  have hmt : p.mg (Str.ofString (tyS t)) = none := L.bi _ (by cases t <;> decide +kernel)
  have hvt : bootBuiltins (Str.ofString (tyS t)) = some (.type (tyS t)) := by cases t <;> decide +kernel
  have hT : PE X (.Name (Str.ofString (tyS t)) yp) (tC (.ty (tyS t))) := pe_bltn t1 (by rw [G.hmg]; exact hmt) hvt rfl t3 t2
  have base : PE X (.Call (.Name "isinstance" q) [a, .Name (Str.ofString (tyS t)) yp] [] pp) (tUn (fun x H Q => rIsi X.K [x, .ty (tyS t)] H Q) (tv X.K true W f)) :=
    pe_callB call_isi g1 (by rw [G.hmg]; exact L.bi _ (by decide +kernel)) PyProof.Rows.boot_isinstance (pa_cons ha (pa_cons hT pa_nil (starEach_plain h4)) (starEach_plain h3)) g3 g2 (starEach_plain h3) (noStars_any (es := [.Name (Str.ofString (tyS t)) yp]) rfl)
  refine wPE base fun σ H Q ⟨g, ω, ρ, st, rel, hh⟩ => (bindG (P := RepM X.K true) rel hh).mono fun x H1 ⟨ω1, st1, u, x1, rel1, pq, qq⟩ => ?_
  obtain ⟨z, ez, qz⟩ := of_post rel1 qq
  cases ei : isaV u t with
  | none => rw [ei] at ez; cases ez
  | some kk =>
    rw [ei] at ez
    cases ez
    obtain ⟨n, hn, hk⟩ := tyx pq ei
    exact ⟨x, _, _, _, kk, rfl, .ty _, hn, kit_ty hk, qz _ _ ω1 (Grow.refl _ _) (.bl kk)⟩
theorem Good.isi2 (L : Lib p k S Φ) (G : Good p k S.N sc fn X) {a y y1 y2 : Expr} {t u : Ty} {f : En → Cel → R PV} {bz : Bool} (h : call2 sc "isinstance" e = some (a, y)) (h' : asTup y = some [y1, y2]) (hy : asName y1 = some (Str.ofString (tyS t))) (hz : asName y2 = some (Str.ofString (tyS u))) (hg : glB sc (Str.ofString (tyS t)) = true) (hg' : glB sc (Str.ofString (tyS u)) = true) (ha : PE X a (tv X.K true W f)) :
    PE X e (tv X.K bz W fun ρ st => (f ρ st).bind fun x st => R.of ((isa2V x t u).map .bl) st) := by
  obtain ⟨q, pp, rfl, h2, h3, h4⟩ := call2_of h
  obtain ⟨g1, g2, g3⟩ := G.gl h2
  obtain ⟨kk, tp, rfl⟩ := asTup_eq h'
  obtain ⟨yp, rfl⟩ := asName_eq hy
  obtain ⟨zp, rfl⟩ := asName_eq hz
  obtain ⟨t1, t2, t3⟩ := G.gl hg
  obtain ⟨u1, u2, u3⟩ := G.gl hg'
  have hmt : p.mg (Str.ofString (tyS t)) = none := L.bi _ (by cases t <;> decide +kernel)
  have hvt : bootBuiltins (Str.ofString (tyS t)) = some (.type (tyS t)) := by cases t <;> decide +kernel
  have hmu : p.mg (Str.ofString (tyS u)) = none := L.bi _ (by cases u <;> decide +kernel)
  have hvu : bootBuiltins (Str.ofString (tyS u)) = some (.type (tyS u)) := by cases u <;> decide +kernel
  have hT : PE X (.Name (Str.ofString (tyS t)) yp) (tC (.ty (tyS t))) := pe_bltn t1 (by rw [G.hmg]; exact hmt) hvt rfl t3 t2
  have hU : PE X (.Name (Str.ofString (tyS u)) zp) (tC (.ty (tyS u))) := pe_bltn u1 (by rw [G.hmg]; exact hmu) hvu rfl u3 u2
  have hTU := pe_tup (x1 := kk) (pos := tp) (pa_cons hT (pa_cons hU pa_nil rfl) rfl)
  have base := pe_callB (p := q) (pos := pp) call_isiT g1 (by rw [G.hmg]; exact L.bi _ (by decide +kernel)) PyProof.Rows.boot_isinstance (pa_cons ha (pa_cons hTU pa_nil rfl) (starEach_plain h3)) g3 g2 (starEach_plain h3) (noStars_any (es := [.Tuple [.Name (Str.ofString (tyS t)) yp, .Name (Str.ofString (tyS u)) zp] kk tp]) rfl)
  refine wPE base fun σ H Q ⟨g, ω, ρ, st, rel, hh⟩ => (bindG (P := RepM X.K true) rel hh).mono fun x H1 ⟨ω1, st1, v, x1, rel1, pq, qq⟩ => ?_
  refine ⟨by show 2 ≤ sizeLine; rw [sizeLine_eq]; omega, fun p0 hp => ?_⟩
  obtain ⟨z, ez, qz⟩ := of_post rel1 qq
  cases ei : isa2V v t u with
  | none => rw [ei] at ez; cases ez
  | some k0 =>
    rw [ei] at ez
    cases ez
    have pq' : RepM X.K true ω1 (upd H1 p0 (.tup [.ty (tyS t), .ty (tyS u)])) x v := RepM.extE pq (Grow.upd hp).toE rel1.cells
    obtain ⟨n, c, d, hn, hc, hd, rfl⟩ := tyx2 pq' ei
    refine ⟨x, p0, _, _, [.type (tyS t), .type (tyS u)], (c || d), rfl, upd_same, .cons (.ty _) (.cons (.ty _) .nil), hn, ?_, qz _ _ ω1 (Grow.upd hp) (.bl _)⟩
    exact kitAny_cons (kit_ty hc) (fun e => by
      subst e
      exact kitAny_cons (kit_ty hd) (fun e => by subst e; rfl) (fun e => by subst e; rfl)) (fun e => by subst e; rfl)
theorem locB_of {x : Str} (h : locB sc fn x = true) : Loc sc x ∧ (fn x = true ∨ sc.names.lookup x = some .local) := by
  unfold locB at h
  unfold L2.Loc
  split at h
  · rename_i z; exact ⟨.inl z, .inr z⟩
  · rename_i z; exact ⟨.inr z, .inl h⟩
  · cases h
theorem Good.tg1 (G : Good p k S.N sc fn X) {i : Nat} (h : chkTg1 S.N sc fn i e = true) : PG X e (gName i) := by
  unfold chkTg1 at h
  cases q : asName e with
  | none => rw [q] at h; cases h
  | some x =>
    rw [q] at h
    obtain ⟨pp, rfl⟩ := asName_eq q
    simp only [Bool.and_eq_true, decide_eq_true_eq] at h
    obtain ⟨l1, l2⟩ := locB_of h.2
    exact pg_name (by rw [G.hN]; exact G.nd) (by rw [G.hN]; exact h.1) (by rw [G.sc]; exact l1) (by rw [G.fnE, G.sc]; exact l2)
theorem asName_star {x : Str} (h : asName e = some x) : asStar e = none := by
  obtain ⟨_, rfl⟩ := asName_eq h
  rfl
theorem assignEach_plain {es : List Expr} {env : Env} (h : asStar e = none) : assignEach (e :: es) env = (false, assign e env) :: assignEach es env := by
  cases e <;> first | rfl | (simp [asStar] at h)
theorem tg1_star {i : Nat} (h : chkTg1 S.N sc fn i e = true) : asStar e = none := by
  unfold chkTg1 at h
  cases q : asName e with
  | none => rw [q] at h; cases h
  | some x => exact asName_star q
theorem Good.tgs (G : Good p k S.N sc fn X) : ∀ {is : List Nat} {es : List Expr}, chkTgs S.N sc fn is es = true → PGs X es (gNames is) ∧ (assignEach es X.env).length = is.length ∧ (assignEach es X.env).findIdx? (·.1) = none
  | [], [], _ => ⟨pgs_nil, rfl, rfl⟩
  | i :: is, e :: es, h => by
    unfold chkTgs at h
    rw [Bool.and_eq_true] at h
    obtain ⟨h1, h2, h3⟩ := Good.tgs G h.2
    have hs := assignEach_plain (es := es) (env := X.env) (tg1_star h.1)
    refine ⟨pgs_cons (G.tg1 h.1) h1 (by rw [hs]; rfl), by rw [hs]; simp [h2], ?_⟩
    rw [hs, List.findIdx?_cons, h3]
    rfl
  | [], _ :: _, h => by cases h
  | _ :: _, [], h => by cases h
theorem Good.tg (G : Good p k S.N sc fn X) {tg : List Nat} (h : chkTg S.N sc fn tg e = true) : PG X e (gAsg X.K tg) := by
  have many : ∀ is : List Nat, (match asTup e with
    | some es => decide (is.length ≠ 1) && chkTgs S.N sc fn is es
    | none => false) = true → PG X e (fun v σ H Q => gTup X.K is.length (gNames is) v σ H Q ∨ gUnl X.K is.length (gNames is) v σ H Q) := fun is hm => by
    clear h
    cases q : asTup e with
    | none => rw [q] at hm; cases hm
    | some es =>
      rw [q] at hm
      obtain ⟨kk, pp, rfl⟩ := asTup_eq q
      have h' : (decide (is.length ≠ 1) && chkTgs S.N sc fn is es) = true := hm
      rw [Bool.and_eq_true] at h'
      obtain ⟨h1, h2, h3⟩ := G.tgs h'.2
      exact pg_or (pg_tup G.calm h1 h2 h3) (pg_unl G.calm h1 h2 h3)
  match tg, h with
  | [i], h => exact G.tg1 h
  | [], h => exact many [] h
  | i :: j :: is, h => exact many (i :: j :: is) h
theorem Good.blk (G : Good p k S.N sc fn X) (s : Shared) (H : Hp) (scope : Scope) (C : Addr) (cl : List (Str × Addr)) (fp : List Addr) : Good p k S.N (relabelS scope sc) (fnBlk scope) (X.blk s H scope (compEnvC scope cl C X.env) fp) :=
  ⟨G.hP, G.hw, G.hK, G.hmg, G.hb, G.hN, G.nd, (by show relabel scope X.env = _; rw [relabelS_eq, G.sc]), rfl, G.calm, G.room, PassesOwn.never, G.gd⟩
end
end Ev
namespace Ev
open PySem L2
section
variable {p : Pr} {k : Nat} {S : Sx} {Φ : Nat → List PV → Cel → R PV}
theorem asB_ev {X : Cx} {W : Wx} {e : Expr} {c : C} (hp : plainT e = true) (h : PE X e (tv X.K false W (ev Φ c))) : PT X e (tvbb X.K W (asB (ev Φ c))) := st_val (fun _ q => pt_val q (isTrue_of hp)) h
theorem pw_bool {X : Cx} {op : BoolOp} {es : List Expr} {pos : Pos} {t : TT} (h : PT X (.BoolOp op es pos) t) : PW X (.BoolOp op es pos) t := ⟨fun whole pins s σ H Q I q => h.run pins s σ H Q I q⟩
theorem sub_own {own : List Nat} {N : List Str} : (own.map fun i => (N.getD i "", i)).map (·.2) = own := by
  rw [List.map_map]
  exact List.map_id _
theorem Good.call (L : Lib p k S Φ) {sc : Scope} {fn : Str → Bool} {X : Cx} {W : Wx} {e : Expr} (G : Good p k S.N sc fn X) {f : Nat} {x : Str} {xs : List Expr} {es : Cs} (hc : asCall e = some (x, xs)) (hx : x = S.nm f) (hk : S.kn f = true) (hg : glB sc x = true)
    (hs : starOk xs = true) (hn : xs = [] → es = .nil) (ha : PA X xs (tvs X.K W (evs Φ es))) :
    (S.fr f = false → ∀ bz, PE X e (tv X.K bz W (ev Φ (.call f es)))) ∧ (S.fr f = true → PE X e (tvF X.K W (ev Φ (.call f es)))) := by
  obtain ⟨q, pp, rfl⟩ := asCall_eq hc
  obtain ⟨g1, g2, g3⟩ := G.gl hg
  obtain ⟨fa, m1, m2, F⟩ := L.fn f hk
  have F' : FnG p k fa (spOf X.K (S.fr f) (Φ f)) := by rw [G.hK]; exact F
  have hX : X.prog = p.P ∧ X.w = p.w ∧ X.K = p.K ∧ X.mg = p.mg ∧ X.base = p.base := ⟨G.hP, G.hw, G.hK, G.hmg, G.hb⟩
  have m1' : X.mg x = some (.ref fa) := by rw [G.hmg, hx]; exact m1
  have m2' : PySem.W.keepIn X.K (.ref fa) = true := by rw [G.hK]; exact m2
  cases xs with
  | nil =>
    cases hn rfl
    have pe := pe_callG0 (pos := pp) (q := q) F' hX G.room G.gd m2' g1 m1' g2
    refine ⟨fun hf bz => ?_, fun hf => ?_⟩
    · rw [hf] at pe
      refine wPE pe fun σ H Q ⟨g, ω, ρ, st, rel, h⟩ => ?_
      change postG _ _ _ _ _ _ _ _ ((Φ f [] st).noexc) Q at h
      refine ⟨ω, st, [], .nil, rel.cells, ?_⟩
      cases e1 : Φ f [] st with
      | ok t s => rw [e1] at h; exact fun v H' ω' y c r => h v H' ω' y c (.inl r)
      | exc x s => rw [e1] at h; exact h.elim
      | bad => rw [e1] at h; exact h.elim
    · rw [hf] at pe
      refine wPE pe fun σ H Q ⟨g, ω, ρ, st, rel, h⟩ => ?_
      change postF _ _ _ _ _ _ _ ((Φ f [] st).noexc) Q at h
      refine ⟨ω, st, [], .nil, rel.cells, ?_⟩
      cases e1 : Φ f [] st with
      | ok t s => rw [e1] at h; exact fun v H' ω' y c r => h v H' ω' y c r
      | exc x s => rw [e1] at h; exact h.elim
      | bad => rw [e1] at h; exact h.elim
  | cons y ys =>
    have pe : ∀ ta, PA X (y :: ys) ta → PE X (.Call (.Name x q) (y :: ys) [] pp) (fun σ H Q => ta σ H fun vs H1 => spOf X.K (S.fr f) (Φ f) vs H1 Q E0) := fun ta hta => by
      have h1 : asStar y = none := by
        unfold starOk at hs
        rw [Bool.or_eq_true] at hs
        rcases hs with hs | hs
        · unfold noStars at hs
          rw [List.all_cons, Bool.and_eq_true, Option.isNone_iff_eq_none] at hs
          exact hs.1
        · rw [Bool.and_eq_true, Option.isNone_iff_eq_none] at hs
          exact hs.1
      exact pe_callG F' hX G.room G.gd m2' g1 m1' hta g2 (starEach_plain h1)
    refine ⟨fun hf bz => ?_, fun hf => ?_⟩
    · rw [hf] at pe
      exact se_call (t := fun _ => tC .non) pe ha
    · rw [hf] at pe
      exact sF_call (t := fun _ => tC .non) pe ha
theorem F_lst {sc : Scope} {fn : Str → Bool} {X : Cx} {m : Md} {e : Expr} {W : Wx} {es : Cs} (h : chkE S sc fn m (.lst es) e = true) (ha : ∀ xs, chkA S sc fn es xs = true → PA X xs (tvs X.K W (evs Φ es))) : PE X e (tvF X.K W (ev Φ (.lst es))) := by
  rw [chkE] at h
  cases q : asLst e with
  | none => rw [q] at h; cases h
  | some xs =>
    rw [q] at h
    obtain ⟨pp, rfl⟩ := asLst_eq q
    exact sF_lst (fun ta ha => pe_lst ha) (ha xs h)
theorem F_listOf (L : Lib p k S Φ) {sc : Scope} {fn : Str → Bool} {X : Cx} {m : Md} {e : Expr} {W : Wx} {a : C} (G : Good p k S.N sc fn X) (h : chkE S sc fn m (.listOf a) e = true) (ha : ∀ x, chkE S sc fn (.v true) a x = true → PE X x (tv X.K true W (ev Φ a))) : PE X e (tvF X.K W (ev Φ (.listOf a))) := by
  rw [chkE] at h
  cases q : call1 sc "list" e with
  | none => rw [q] at h; cases h
  | some x =>
    rw [q] at h
    exact sF1 (v := fun _ => listV) (G.ty1 L q (by decide +kernel) PyProof.Rows.boot_list call_list_of) (ha x h) vf_list
theorem F_comp {sc : Scope} {fn : Str → Bool} {X : Cx} {m : Md} {e : Expr} {W : Wx} {elt it : C} {tg own : List Nat} {ifs : Cs} (G : Good p k S.N sc fn X) (h : chkE S sc fn m (.comp elt tg it ifs own) e = true)
    (h1 : ∀ tp x, chkE S sc fn (.i true tp) it x = true → Snd X W Φ (.i true tp) it x)
    (h2 : ∀ {sc : Scope} {fn : Str → Bool} {X : Cx} {fs : List Expr}, Good p k S.N sc fn X → chkF S sc fn ifs fs = true → PTs X fs (tvbb X.K W0 (evt Φ ifs)))
    (h3 : ∀ {sc : Scope} {fn : Str → Bool} {X : Cx} {x : Expr}, Good p k S.N sc fn X → chkE S sc fn (.v false) elt x = true → PE X x (tv X.K false W0 (ev Φ elt))) : PE X e (tvF X.K W (ev Φ (.comp elt tg it ifs own))) := by
  rw [chkE] at h
  cases q : asLc e with
  | none => rw [q] at h; cases h
  | some u =>
    obtain ⟨x, t, i, fs, s⟩ := u
    rw [q] at h
    obtain ⟨pp, rfl⟩ := asLc_eq q
    simp only [Bool.and_eq_true, Bool.not_eq_true'] at h
    obtain ⟨⟨⟨⟨⟨⟨q1, q2⟩, q3⟩, q4⟩, q5⟩, q6⟩, q7⟩ := h
    refine sF_comp ?_ (fun j hj => ?_)
    · have base := pe_lc (X := X) (elt := x) (tg := t) (iter := i) (ifs := fs) (scope := s) (pos := pp) (own := own.map fun i => (S.N.getD i "", i)) (wi := ti X.K true W (ev Φ it)) (g := gAsg X.K tg) (tt := tvbb X.K W0 (evt Φ ifs)) (te := tv X.K false W0 (ev Φ elt)) G.calm (by rw [G.hN]; exact G.nd)
        (h1 _ i q4 t (fun z => by
          cases q2 : asTup t with
          | none => rw [q2] at z; cases z
          | some es => obtain ⟨kk, p2, rfl⟩ := asTup_eq q2; exact ⟨es, kk, p2, rfl⟩))
        (by rw [G.hN, G.sc]; exact blkOk_by q1)
        (fun s' H' C cl fp => (G.blk s' H' s C cl fp).tg q5)
        (fun s' H' C cl fp => h2 (G.blk s' H' s C cl fp) q6)
        (fun s' H' C cl fp => h3 (G.blk s' H' s C cl fp) q7)
        (fsi_of q3)
      rw [sub_own] at base
      exact base
    · have := List.all_eq_true.mp q2 j hj
      simpa using this
theorem lastM {b c : Expr} {o o' : CmpOp} (h : isSet c = false) : lastMarks [o, o'] [b, c] = false := by
  cases c <;> first | (with_unfolding_all rfl) | (simp [isSet] at h; done)
theorem Good.glob {sc : Scope} {fn : Str → Bool} {X : Cx} {e : Expr} (G : Good p k S.N sc fn X) {x : Str} {u : Value} {v : V} (h : asName e = some x) (hg : glB sc x = true) (hm : p.mg x = some u) (r : RelV v u) : PE X e (tC v) := by
  obtain ⟨pp, rfl⟩ := asName_eq h
  obtain ⟨g1, g2, g3⟩ := G.gl hg
  exact pe_glob g1 (by rw [G.hmg]; exact hm) r g2
theorem fmt_bind (r : R PV) : ((r.bind fun x st => match fmtV Str.empty x with
    | some acc' => R.ok acc' st
    | none => .bad).bind fun s st => R.ok (PV.str s) st) = r.bind fun x st => match fmtV Str.empty x with
    | some acc' => R.ok (PV.str acc') st
    | none => .bad := by
  cases r with
  | ok x s =>
    simp only [R.bind_ok]
    cases fmtV Str.empty x <;> rfl
  | exc x s => rfl
  | bad => rfl
theorem F_cat {sc : Scope} {fn : Str → Bool} {X : Cx} {m : Md} {e : Expr} {W : Wx} {a b : C} (h : chkE S sc fn m (.cat a b) e = true) (ha : ∀ x, chkE S sc fn (.v true) a x = true → PE X x (tv X.K true W (ev Φ a))) (hb : ∀ x, chkE S sc fn (.v true) b x = true → PE X x (tv X.K true W (ev Φ b))) : PE X e (tvF X.K W (ev Φ (.cat a b))) := by
  rw [chkE] at h
  cases q : asBin e with
  | none => rw [q] at h; cases h
  | some t =>
    obtain ⟨l, o, r⟩ := t
    rw [q] at h
    obtain ⟨pp, rfl⟩ := asBin_eq q
    simp only [Bool.and_eq_true, decide_eq_true_eq] at h
    obtain ⟨⟨rfl, h1⟩, h2⟩ := h
    exact sF_cat (fun ta tb ha hb => pe_op op_cat ha hb) (ha l h1) (hb r h2)
theorem F_rev {sc : Scope} {fn : Str → Bool} {X : Cx} {m : Md} {e : Expr} {W : Wx} {a : C} (h : chkE S sc fn m (.rev a) e = true) (ha : ∀ x, chkE S sc fn (.v true) a x = true → PE X x (tv X.K true W (ev Φ a))) : PE X e (tvF X.K W (ev Φ (.rev a))) := by
  rw [chkE] at h
  cases q : asRev e with
  | none => rw [q] at h; cases h
  | some x =>
    rw [q] at h
    obtain ⟨kk, p1, p2, p3, pp, rfl⟩ := asRev_eq q
    refine sF1 (v := fun _ => revV) (r := fun x H Q => ∃ a xs, x = .ref a ∧ SqL X.K H a xs ∧ ∀ p, H p = none → Q (.ref p) (upd H p (.lst xs.reverse))) (fun ta hta => pe_revL hta) (ha x h) ?_
    intro st x t z ω H Q c hx hv q
    cases t with
    | lst ts =>
      cases hv
      obtain ⟨a, vs, rfl, ha, ra⟩ := hx.lst
      exact ⟨a, vs, rfl, .inl (.inl ha), q _ _ rfl ra.reverse⟩
    | _ => cases hv
theorem F_comp2 {sc : Scope} {fn : Str → Bool} {X : Cx} {m : Md} {e : Expr} {W : Wx} {elt it it2 : C} {tg tg2 own own2 : List Nat} {ifs : Cs} (G : Good p k S.N sc fn X) (h : chkE S sc fn m (.comp2 elt tg it tg2 it2 ifs own own2) e = true)
    (h1 : ∀ tp x, chkE S sc fn (.i true tp) it x = true → Snd X W Φ (.i true tp) it x)
    (h4 : ∀ {sc : Scope} {fn : Str → Bool} {X : Cx} {tp : Bool} {x : Expr}, Good p k S.N sc fn X → chkE S sc fn (.i false tp) it2 x = true → Snd X W0 Φ (.i false tp) it2 x)
    (h2 : ∀ {sc : Scope} {fn : Str → Bool} {X : Cx} {fs : List Expr}, Good p k S.N sc fn X → chkF S sc fn ifs fs = true → PTs X fs (tvbb X.K W0 (evt Φ ifs)))
    (h3 : ∀ {sc : Scope} {fn : Str → Bool} {X : Cx} {x : Expr}, Good p k S.N sc fn X → chkE S sc fn (.v false) elt x = true → PE X x (tv X.K false W0 (ev Φ elt))) : PE X e (tvF X.K W (ev Φ (.comp2 elt tg it tg2 it2 ifs own own2))) := by
  rw [chkE] at h
  cases q : asLc2 e with
  | none => rw [q] at h; cases h
  | some u =>
    obtain ⟨x, ⟨t, i⟩, ⟨t2, i2, fs⟩, s⟩ := u
    rw [q] at h
    obtain ⟨pp, rfl⟩ := asLc2_eq q
    simp only [Bool.and_eq_true, Bool.not_eq_true'] at h
    obtain ⟨⟨⟨⟨⟨⟨⟨⟨⟨⟨⟨q1, q2⟩, q2b⟩, q2c⟩, q3⟩, q3b⟩, q4⟩, q5⟩, q4b⟩, q5b⟩, q6⟩, q7⟩ := h
    have tup : ∀ {t : Expr}, (asTup t).isSome = true → ∃ es kk p2, t = Expr.Tuple es kk p2 := fun {t} z => by
      cases q2 : asTup t with
      | none => rw [q2] at z; cases z
      | some es => obtain ⟨kk, p2, rfl⟩ := asTup_eq q2; exact ⟨es, kk, p2, rfl⟩
    refine sF_comp2 ?_ (fun j hj => by simpa using List.all_eq_true.mp q2 j hj) (fun j hj => by simpa using List.all_eq_true.mp q2b j hj)
    have base := pe_lc2 (X := X) (elt := x) (tg := t) (iter := i) (ifs := []) (tg1 := t2) (iter1 := i2) (ifs1 := fs) (scope := s) (pos := pp) (own := own.map fun i => (S.N.getD i "", i)) (vs1 := own2) (wi := ti X.K true W (ev Φ it)) (g := gAsg X.K tg) (tt := tYes) (wi1 := ti X.K false W0 (ev Φ it2)) (g1 := gAsg X.K tg2) (tt1 := tvbb X.K W0 (evt Φ ifs)) (te := tv X.K false W0 (ev Φ elt)) G.calm (by rw [G.hN]; exact G.nd)
      (h1 _ i q4 t tup)
      (by rw [G.hN, G.sc]; exact blkOk_by q1)
      (fun j hj => by rw [sub_own]; simpa using List.all_eq_true.mp q2c j hj)
      (fun s' H' C cl fp => (G.blk s' H' s C cl fp).tg q5)
      (fun s' H' C cl fp => pts_nil)
      (fun s' H' C cl fp => h4 (G.blk s' H' s C cl fp) q4b t2 tup)
      (fun s' H' C cl fp => (G.blk s' H' s C cl fp).tg q5b)
      (fun s' H' C cl fp => h2 (G.blk s' H' s C cl fp) q6)
      (fun s' H' C cl fp => h3 (G.blk s' H' s C cl fp) q7)
      (fsi_of q3) (fun env => fsi_of q3b)
    rw [sub_own] at base
    exact base
theorem kget_w {K : PySem.W.Frag} {w : World} {W : Wx} {bz : Bool} {g : Nat} {fk : En → Cel → R PV} {a : Addr} {es : Array DictEntry} {n : Nat} {T : List (Str × PV)} (D : KDict K w a es n)
    (hT : ∀ x, ∃ r, PySem.W.nsIn K a x = some r ∧ r.isSome = (T.lookup x).isSome ∧ ∀ t, T.lookup x = some t → ∃ u v, r = some u ∧ RelV v u ∧ ∀ ω H, Rep K ω H v t)
    (hΦ : ∀ ts st t st', Φ (2000 + g) ts st = .ok t st' → ∃ x, ts = [.str x] ∧ T.lookup x = some t ∧ st' = st) :
    ∀ σ H Q, tv K bz W (fun ρ st => (fk ρ st).bind fun x st => (Φ (2000 + g) [x] st).noexc) σ H Q → tOp (rIxD K w) (tC (.ref a)) (tv K true W fk) σ H Q := by
  intro σ H Q ⟨gg, ω, ρ, st, rel, h⟩
  refine (bindG (P := RepM K true) (f := fk) rel h).mono fun x H1 ⟨ω1, st1, t, x1, rel1, p, q⟩ => ?_
  cases e1 : Φ (2000 + g) [t] st1 with
  | ok r s =>
    rw [e1] at q
    obtain ⟨x', e2, e3, rfl⟩ := hΦ _ _ _ _ e1
    cases e2
    obtain ⟨r', n1, n2, n3⟩ := hT x'
    obtain ⟨u, v, rfl, rv, rp⟩ := n3 _ e3
    exact ⟨a, x', v, rfl, p.str, ⟨es, n, u, D.at_, D.lit, n1, rv⟩, q v H1 ω1 (ExtE.refl _ _) rel1.cells (.inl (rp _ _))⟩
  | exc x s => rw [e1] at q; exact q.elim
  | bad => rw [e1] at q; exact q.elim
theorem kin_w {K : PySem.W.Frag} {W : Wx} {bz : Bool} {g : Nat} {neg : Bool} {fk : En → Cel → R PV} {a : Addr} {T : List (Str × PV)}
    (hT : ∀ x, ∃ r, PySem.W.nsIn K a x = some r ∧ r.isSome = (T.lookup x).isSome ∧ ∀ t, T.lookup x = some t → ∃ u v, r = some u ∧ RelV v u ∧ ∀ ω H, Rep K ω H v t)
    (hΦ : ∀ ts st t st', Φ (3000 + g) ts st = .ok t st' → ∃ x, ts = [.str x] ∧ t = .bl (T.lookup x).isSome ∧ st' = st) :
    ∀ σ H Q, tv K bz W (fun ρ st => (fk ρ st).bind fun x st => (Φ (3000 + g) [x] st).noexc.bind fun b st => if neg then R.of (notV b) st else .ok b st) σ H Q →
      tOp (fun x y H Q => ∃ (z : Str) (r : Option Value), x = .str z ∧ y = .ref a ∧ PySem.W.nsIn K a z = some r ∧ Q (.bl (if neg then !r.isSome else r.isSome)) H) (tv K true W fk) (tC (.ref a)) σ H Q := by
  intro σ H Q ⟨gg, ω, ρ, st, rel, h⟩
  refine (bindG (P := RepM K true) (f := fk) rel h).mono fun x H1 ⟨ω1, st1, t, x1, rel1, p, q⟩ => ?_
  cases e1 : Φ (3000 + g) [t] st1 with
  | ok r s =>
    rw [e1] at q
    obtain ⟨x', e2, rfl, rfl⟩ := hΦ _ _ _ _ e1
    cases e2
    obtain ⟨r', n1, n2, n3⟩ := hT x'
    refine ⟨x', r', p.str, rfl, n1, ?_⟩
    rw [n2]
    cases neg with
    | true => exact q _ H1 ω1 (ExtE.refl _ _) rel1.cells (.inl (.bl _))
    | false => exact q _ H1 ω1 (ExtE.refl _ _) rel1.cells (.inl (.bl _))
  | exc x s => rw [e1] at q; exact q.elim
  | bad => rw [e1] at q; exact q.elim
theorem Good.kin (L : Lib p k S Φ) {sc : Scope} {fn : Str → Bool} {X : Cx} {W : Wx} {neg : Bool} {g : Nat} {kc : C} {l r : Expr} (G : Good p k S.N sc fn X) (hr : asName r = some (S.gn g)) (ht : S.tk g = true) (hg : glB sc (S.gn g) = true) (hk : PE X l (tv X.K true W (ev Φ kc))) :
    ∃ rr, OpR X (compareOp (if neg then .NotIn else .In)) rr ∧ PE X r (tC (.ref (Classical.choose (L.tb g ht)))) ∧ ∀ bz σ H Q, tv X.K bz W (ev Φ (.kin neg g kc)) σ H Q → tOp rr (tv X.K true W (ev Φ kc)) (tC (.ref (Classical.choose (L.tb g ht)))) σ H Q := by
  have sp := Classical.choose_spec (L.tb g ht)
  obtain ⟨es, n, T, h1, h2, h3, h4, h5⟩ := sp
  refine ⟨fun x y H Q => ∃ (z : Str) (r : Option Value), x = .str z ∧ y = .ref (Classical.choose (L.tb g ht)) ∧ PySem.W.nsIn X.K (Classical.choose (L.tb g ht)) z = some r ∧ Q (.bl (if neg then !r.isSome else r.isSome)) H, ?_, G.glob hr hg h1 rfl, fun bz => kin_w (by rw [G.hK]; exact h3) h5⟩
  have D : KDict X.K X.w (Classical.choose (L.tb g ht)) es n := by rw [G.hK, G.hw]; exact h2
  cases neg with
  | true => exact op_notIn_kd D
  | false => exact op_in_kd D
set_option maxHeartbeats 4000000 in
mutual
theorem soundE (L : Lib p k S Φ) : ∀ (c : C) {sc : Scope} {fn : Str → Bool} {X : Cx} {m : Md} {e : Expr} {W : Wx}, Good p k S.N sc fn X → chkE S sc fn m c e = true → Snd X W Φ m c e
  | .var i, sc, fn, X, m, e, W, G, h => by
    rw [chkE] at h
    exact sndOf (se_var (G.var h))
  | .bor i, sc, fn, X, m, e, W, G, h => by
    rw [chkE, Bool.and_eq_true] at h
    refine sndOf ?_
    rw [h.1]
    exact se_bor (G.var h.2)
  | .int i, sc, fn, X, m, e, W, G, h => by
    rw [chkE, decide_eq_true_eq] at h
    obtain ⟨kk, pp, rfl⟩ := asConst_eq h
    exact sndOf (se_c (fun _ _ => .int i) pe_int)
  | .str s, sc, fn, X, m, e, W, G, h => by
    rw [chkE, decide_eq_true_eq] at h
    obtain ⟨kk, pp, rfl⟩ := asConst_eq h
    exact sndOf (se_c (fun _ _ => .str s) pe_str)
  | .bl b, sc, fn, X, m, e, W, G, h => by
    rw [chkE, decide_eq_true_eq] at h
    obtain ⟨kk, pp, rfl⟩ := asConst_eq h
    exact sndOf (se_c (fun _ _ => .bl b) pe_bl)
  | .non, sc, fn, X, m, e, W, G, h => by
    rw [chkE, decide_eq_true_eq] at h
    obtain ⟨kk, pp, rfl⟩ := asConst_eq h
    exact sndOf (se_c (fun _ _ => .non) pe_non)
  | .bin op a b, sc, fn, X, m, e, W, G, h => by
    rw [chkE] at h
    cases q : asBin e with
    | none => rw [q] at h; cases h
    | some t =>
      obtain ⟨l, o, r⟩ := t
      rw [q] at h
      obtain ⟨pp, rfl⟩ := asBin_eq q
      simp only [Bool.and_eq_true, decide_eq_true_eq] at h
      obtain ⟨⟨rfl, h1⟩, h2⟩ := h
      exact sndOf (se2 (v := fun _ => binV op) (fun ta tb ha hb => pe_op (opr_bin op) ha hb) (soundE L a G h1) (soundE L b G h2) (vr_bin op))
  | .neg a, sc, fn, X, m, e, W, G, h => by
    rw [chkE] at h
    cases q : asUn e with
    | none => rw [q] at h; cases h
    | some t =>
      obtain ⟨o, x⟩ := t
      rw [q] at h
      obtain ⟨pp, rfl⟩ := asUn_eq q
      simp only [Bool.and_eq_true, decide_eq_true_eq] at h
      obtain ⟨rfl, h1⟩ := h
      exact sndOf (se1 (v := fun _ => negV) (fun ta ha => pe_un un_neg ha) (soundE L a G h1) vr_neg)
  | .not a, sc, fn, X, m, e, W, G, h => by
    rw [chkE] at h
    cases q : asUn e with
    | none => rw [q] at h; cases h
    | some t =>
      obtain ⟨o, x⟩ := t
      rw [q] at h
      obtain ⟨pp, rfl⟩ := asUn_eq q
      simp only [Bool.and_eq_true, decide_eq_true_eq] at h
      obtain ⟨rfl, h1⟩ := h
      refine sndOf (se1 (v := fun _ => notV) (r := fun x H Q => ∃ c, x = .bl c ∧ Q (.bl (!c)) H) (fun ta ha => pe_not ha) (soundE L a G h1) ?_)
      intro st x t z ω H Q c hx hv qq
      cases t with
      | bl c => cases hv; exact ⟨c, hx.bl, qq _ _ ω (Grow.refl _ _) (.bl _)⟩
      | _ => cases hv
  | .cmp op a b, sc, fn, X, m, e, W, G, h => by
    rw [chkE] at h
    cases q : asCmp e with
    | none => rw [q] at h; cases h
    | some t =>
      obtain ⟨l, o, r⟩ := t
      rw [q] at h
      obtain ⟨pp, rfl⟩ := asCmp_eq q
      simp only [Bool.and_eq_true, decide_eq_true_eq, Bool.not_eq_true'] at h
      obtain ⟨⟨⟨rfl, h0⟩, h1⟩, h2⟩ := h
      exact sndOf (se2 (v := fun _ x y => (cmpV op x y).map .bl) (fun ta tb ha hb => pe_cmpR (opr_cmp (by have := G.room.un; omega) op) ha hb (marks_of h0)) (soundE L a G h1) (soundE L b G h2) (vr_cmp op))
  | .and a b, sc, fn, X, m, e, W, G, h => by
    rw [chkE] at h
    split at h
    · rename_i x y pp q
      obtain rfl := asBool_eq q
      rw [Bool.and_eq_true] at h
      exact sndOf (se_and (fun ta tb ha hb => pe_and ha (pe_one hb)) (soundE L a G h.1) (soundE L b G h.2))
    · rename_i x y z r pp q
      obtain rfl := asBool_eq q
      rw [Bool.and_eq_true] at h
      exact sndOf (se_and (fun ta tb ha hb => pe_and ha hb) (soundE L a G h.1) (soundE L b G h.2))
    · cases h
  | .or a b, sc, fn, X, m, e, W, G, h => by
    rw [chkE] at h
    split at h
    · rename_i x y pp q
      obtain rfl := asBool_eq q
      rw [Bool.and_eq_true] at h
      exact sndOf (se_or (fun ta tb ha hb => pe_or ha (pe_one hb)) (soundE L a G h.1) (soundE L b G h.2))
    · rename_i x y z r pp q
      obtain rfl := asBool_eq q
      rw [Bool.and_eq_true] at h
      exact sndOf (se_or (fun ta tb ha hb => pe_or ha hb) (soundE L a G h.1) (soundE L b G h.2))
    · cases h
  | .ite t a b, sc, fn, X, m, e, W, G, h => by
    rw [chkE] at h
    cases q : asIf e with
    | none => rw [q] at h; cases h
    | some u =>
      obtain ⟨c, x, y⟩ := u
      rw [q] at h
      obtain ⟨pp, rfl⟩ := asIf_eq q
      simp only [Bool.and_eq_true] at h
      exact sndOf (se_ite (fun tt ta tb hc ha hb => pe_ifExp hc ha hb) (soundT L t G h.1.1) (soundE L a G h.1.2) (soundE L b G h.2))
  | .tup es, sc, fn, X, m, e, W, G, h => by
    rw [chkE] at h
    cases q : asTup e with
    | none => rw [q] at h; cases h
    | some xs =>
      rw [q] at h
      obtain ⟨kk, pp, rfl⟩ := asTup_eq q
      exact sndOf (se_tup (fun ta ha => pe_tup ha) (soundA L es G h))
  | .lst es, sc, fn, X, m, e, W, G, h => sndOf (sF_v (F_lst h fun xs hx => soundA L es G hx))
  | .call f es, sc, fn, X, m, e, W, G, h => by
    rw [chkE] at h
    cases q : asCall e with
    | none => rw [q] at h; cases h
    | some u =>
      obtain ⟨x, xs⟩ := u
      rw [q] at h
      simp only [Bool.and_eq_true, decide_eq_true_eq, Bool.not_eq_true'] at h
      obtain ⟨⟨⟨⟨⟨h0, h1⟩, h2⟩, h3⟩, h4⟩, h5⟩ := h
      exact sndOf ((G.call L q h1 h2 h3 h5 (fun z => by subst z; cases es <;> first | rfl | exact Bool.noConfusion (show false = true from h4)) (soundA L es G h4)).1 h0 _)
  | .len a, sc, fn, X, m, e, W, G, h => by
    rw [chkE] at h
    cases q : call1 sc "len" e with
    | none => rw [q] at h; cases h
    | some x =>
      rw [q] at h
      exact sndOf (se1 (v := fun _ => lenV) (G.bi1 L q (by decide +kernel) boot_len cr_lenV) (soundE L a G h) vr_len)
  | .toInt a, sc, fn, X, m, e, W, G, h => by
    rw [chkE] at h
    cases q : call1 sc "int" e with
    | none => rw [q] at h; cases h
    | some x =>
      rw [q] at h
      exact sndOf (se1 (v := fun _ => toIntV) (G.ty1 L q (by decide +kernel) PyProof.Rows.boot_int call_int1) (soundE L a G h) vr_toInt)
  | .tupleOf a, sc, fn, X, m, e, W, G, h => by
    rw [chkE] at h
    cases q : call1 sc "tuple" e with
    | none => rw [q] at h; cases h
    | some x =>
      rw [q] at h
      exact sndOf (se1 (v := fun _ => tupleV) (G.ty1 L q (by decide +kernel) PyProof.Rows.boot_tuple (cr_tupV G.calm)) (soundE L a G h) vr_tupleOf)
  | .listOf a, sc, fn, X, m, e, W, G, h => sndOf (sF_v (F_listOf L G h fun x hx => soundE (m := .v true) L a G hx))
  | .cat a b, sc, fn, X, m, e, W, G, h => sndOf (sF_v (F_cat h (fun x hx => soundE (m := .v true) L a G hx) (fun x hx => soundE (m := .v true) L b G hx)))
  | .isa2 a t u, sc, fn, X, m, e, W, G, h => by
    rw [chkE] at h
    cases q : call2 sc "isinstance" e with
    | none => rw [q] at h; cases h
    | some r =>
      obtain ⟨x, y⟩ := r
      rw [q] at h
      dsimp only at h
      split at h
      · rename_i y1 y2 hy
        simp only [Bool.and_eq_true, decide_eq_true_eq] at h
        exact sndOf (G.isi2 L q hy h.1.1.1.1 h.1.1.1.2 h.1.1.2 h.1.2 (soundE (m := .v true) L a G h.2))
      · cases h
  | .dgetD a b, sc, fn, X, m, e, W, G, h => by
    rw [chkE] at h
    cases q : asMeth e with
    | none => rw [q] at h; cases h
    | some t =>
      obtain ⟨o, n, x⟩ := t
      rw [q] at h
      obtain ⟨ap, cp, rfl, hl⟩ := asMeth_eq q
      simp only [Bool.and_eq_true, decide_eq_true_eq, Option.isNone_iff_eq_none] at h
      obtain ⟨⟨⟨⟨rfl, h1⟩, h2⟩, h3⟩, h4⟩ := h
      exact sndOf (se_dgetD (fun ta tb ha hb => pe_dget1 (by have := G.room.un; omega) ha hb ⟨plainO_of h1, by rw [starEach_plain h2]; rfl, hl, by rw [starEach_plain h2]; rfl⟩) (soundE (m := .v true) L a G h3) (soundE (m := .v true) L b G h4))
  | .revT a, sc, fn, X, m, e, W, G, h => by
    rw [chkE] at h
    cases q : asRev e with
    | none => rw [q] at h; cases h
    | some x =>
      rw [q] at h
      obtain ⟨kk, p1, p2, p3, pp, rfl⟩ := asRev_eq q
      exact sndOf (se1 (v := fun _ => revTV) (fun ta hta => pe_revT hta) (soundE (m := .v true) L a G h) vr_revT)
  | .isa a t, sc, fn, X, m, e, W, G, h => by
    rw [chkE] at h
    cases q : call2 sc "isinstance" e with
    | none => rw [q] at h; cases h
    | some u =>
      obtain ⟨x, y⟩ := u
      rw [q] at h
      simp only [Bool.and_eq_true, decide_eq_true_eq] at h
      exact sndOf (G.isi L q h.1.1 h.1.2 (soundE L a G h.2))
  | .all a, sc, fn, X, m, e, W, G, h => by
    rw [chkE] at h
    cases q : call1 sc "all" e with
    | none => rw [q] at h; cases h
    | some x =>
      rw [q] at h
      exact sndOf (se1 (v := fun _ => allV) (G.bi1 L q (by decide +kernel) PyProof.Rows.boot_all (cr_all G.calm)) (soundE L a G h) vr_all)
  | .indexOf a b, sc, fn, X, m, e, W, G, h => by
    rw [chkE] at h
    cases q : asMeth e with
    | none => rw [q] at h; cases h
    | some u =>
      obtain ⟨o, n, x⟩ := u
      rw [q] at h
      simp only [Bool.and_eq_true, decide_eq_true_eq, Option.isNone_iff_eq_none] at h
      obtain ⟨⟨⟨⟨rfl, h1⟩, h2⟩, h3⟩, h4⟩ := h
      obtain ⟨ap, cp, rfl, hl⟩ := asMeth_eq q
      exact sndOf (se_index (fun ta tb ha hb => pe_bm PySem.F.plainAttrs_list PySem.F.slot_list_index PySem.F.type_list_index (mt_indexD (by have := G.room.un; omega)) ha (pa_cons hb pa_nil (starEach_plain h2)) (plainO_of h1) (by rw [starEach_plain h2]; rfl) hl (starEach_plain h2)) (soundE (m := .v true) L a G h3) (soundE (m := .v true) L b G h4))
  | .ix a i, sc, fn, X, m, e, W, G, h => by
    rw [chkE] at h
    cases q : asSub e with
    | none => rw [q] at h; cases h
    | some u =>
      obtain ⟨x, y⟩ := u
      rw [q] at h
      obtain ⟨pp, rfl⟩ := asSub_eq q
      simp only [Bool.and_eq_true, Option.isNone_iff_eq_none] at h
      exact sndOf (se2 (v := fun st => ixV st) (fun ta tb ha hb => pe_ix ix_seq ha hb (plainIx_of h.1.1)) (soundE L a G h.1.2) (soundE L i G h.2) vr_ix)
  | .sl a lo hi, sc, fn, X, m, e, W, G, h => by
    rw [chkE] at h
    cases q : asSub e with
    | none => rw [q] at h; cases h
    | some u =>
      obtain ⟨x, y⟩ := u
      rw [q] at h
      obtain ⟨pp, rfl⟩ := asSub_eq q
      dsimp only at h
      split at h
      · rename_i l hh q2
        obtain ⟨p2, rfl⟩ := asSlice_eq q2
        simp only [Bool.and_eq_true] at h
        exact sndOf (se_sl (fun ta tl th ha hl hh => pe_slice (sl_list.or (sl_tupA.or sl_str)) ha hl hh) (soundE L a G h.1.1) (soundO L lo G h.1.2) (soundO L hi G h.2))
      · cases h
  | .comp elt tg it ifs own, sc, fn, X, m, e, W, G, h => sndOf (sF_v (F_comp G h (fun tp x hx => soundE (m := .i true tp) L it G hx) (fun G' hx => soundF L ifs G' hx) (fun G' hx => soundE (m := .v false) L elt G' hx)))
  | .rng1 a, sc, fn, X, m, e, W, G, h => by
    rw [chkE, Bool.and_eq_true] at h
    cases m with
    | v b => cases h.1
    | i b tp =>
      have h2 := h.2
      cases q : call1 sc "range" e with
      | none => rw [q] at h2; cases h2
      | some x =>
        rw [q] at h2
        intro tgt _
        obtain ⟨qn, pp, rfl, g, hs⟩ := call1_of q
        obtain ⟨g1, g2, g3⟩ := G.gl g
        exact si_rng1 (fun ta ha => pi_range1 g1 (by rw [G.hmg]; exact L.bi _ (by decide +kernel)) (pa_cons ha pa_nil (starEach_plain hs)) (starEach_plain hs)) (soundE L a G h2)
  | .rng2 a b, sc, fn, X, m, e, W, G, h => by
    rw [chkE, Bool.and_eq_true] at h
    cases m with
    | v b => cases h.1
    | i bb tp =>
      have h2 := h.2
      cases q : call2 sc "range" e with
      | none => rw [q] at h2; cases h2
      | some u =>
        obtain ⟨x, y⟩ := u
        rw [q] at h2
        simp only [Bool.and_eq_true] at h2
        intro tgt _
        obtain ⟨qn, pp, rfl, g, hs, hs2⟩ := call2_of q
        obtain ⟨g1, g2, g3⟩ := G.gl g
        exact si_rng2 (fun ta tb ha hb => pi_range2 g1 (by rw [G.hmg]; exact L.bi _ (by decide +kernel)) (pa_cons ha (pa_cons hb pa_nil (starEach_plain hs2)) (starEach_plain hs)) (by rw [starEach_plain hs, starEach_plain hs2]; rfl) (starEach_plain hs2)) (soundE L a G h2.1) (soundE L b G h2.2)
  | .zip2 a b, sc, fn, X, m, e, W, G, h => by
    rw [chkE, Bool.and_eq_true, Bool.and_eq_true] at h
    cases m with
    | v b => cases h.1.1
    | i bb tp =>
      have h2 := h.2
      have htp : tp = true := h.1.2
      cases q : call2 sc "zip" e with
      | none => rw [q] at h2; cases h2
      | some u =>
        obtain ⟨x, y⟩ := u
        rw [q] at h2
        simp only [Bool.and_eq_true] at h2
        intro tgt ht
        obtain ⟨es, kk, p2, rfl⟩ := ht htp
        obtain ⟨qn, pp, rfl, g, hs, hs2⟩ := call2_of q
        obtain ⟨g1, g2, g3⟩ := G.gl g
        exact si_zip (fun ta tb ha hb => RZ.pi_zipA g1 (by rw [G.hmg]; exact L.bi _ (by decide +kernel)) (pa_cons ha (pa_cons hb pa_nil (starEach_plain hs2)) (starEach_plain hs)) (starEach_plain hs) (noStars_any (by unfold noStars; simp [hs2]))) (soundE L a G h2.1) (soundE L b G h2.2)
  | .repr a, sc, fn, X, m, e, W, G, h => by
    rw [chkE] at h
    cases q : call1 sc "repr" e with
    | none => rw [q] at h; cases h
    | some x =>
      rw [q] at h
      exact sndOf (se1 (v := fun _ => reprV) (G.bi1 L q (by decide +kernel) PyProof.Rows.boot_repr (cr_repr G.gd G.room.units)) (soundE (m := .v true) L a G h) vr_repr)
  | .dct kvs, sc, fn, X, m, e, W, G, h => by
    rw [chkE] at h
    cases q : asDct e with
    | none => rw [q] at h; cases h
    | some u =>
      obtain ⟨ks, vs, pp⟩ := u
      rw [q] at h
      obtain rfl := asDct_eq q
      simp only [Bool.and_eq_true, decide_eq_true_eq] at h
      exact sndOf (se_dct (soundD L kvs G h.2) h.1.1.1.1 h.1.1.1.2 h.1.1.2 h.1.2)
  | .dget a i, sc, fn, X, m, e, W, G, h => by
    rw [chkE] at h
    cases q : asSub e with
    | none => rw [q] at h; cases h
    | some u =>
      obtain ⟨x, y⟩ := u
      rw [q] at h
      obtain ⟨pp, rfl⟩ := asSub_eq q
      simp only [Bool.and_eq_true, Option.isNone_iff_eq_none] at h
      exact sndOf (se_dget (fun ta tb ha hb => pe_dget (by have := G.room.un; omega) ha hb (plainIx_of h.1.1)) (soundE (m := .v true) L a G h.1.2) (soundE (m := .v true) L i G h.2))
  | .any a, sc, fn, X, m, e, W, G, h => by
    rw [chkE] at h
    cases q : call1 sc "any" e with
    | none => rw [q] at h; cases h
    | some x =>
      rw [q] at h
      exact sndOf (se1 (v := fun _ => anyV) (G.bi1 L q (by decide +kernel) PyProof.Rows.boot_any (cr_any G.calm)) (soundE L a G h) vr_any)
  | .str1 a, sc, fn, X, m, e, W, G, h => by
    rw [chkE] at h
    cases q : call1 sc "str" e with
    | none => rw [q] at h; cases h
    | some x =>
      rw [q] at h
      exact sndOf (se1 (v := fun _ => str1V) (G.ty1 L q (by decide +kernel) PyProof.Rows.boot_str cr_str1) (soundE L a G h) vr_str1)
  | .chain o1 o2 a b c, sc, fn, X, m, e, W, G, h => by
    rw [chkE] at h
    cases q : asCmp2 e with
    | none => rw [q] at h; cases h
    | some t =>
      obtain ⟨l, p1, mm, p2, r⟩ := t
      rw [q] at h
      obtain ⟨pp, rfl⟩ := asCmp2_eq q
      simp only [Bool.and_eq_true, decide_eq_true_eq, Bool.not_eq_true'] at h
      obtain ⟨⟨⟨⟨⟨rfl, rfl⟩, h0⟩, h1⟩, h2⟩, h3⟩ := h
      refine sndOf (wPE (pe_chain (opr_cmp (by have := G.room.un; omega) o1) (opr_cmp (by have := G.room.un; omega) o2) (soundE (m := .v true) (W := W) L a G h1) (soundE (m := .v true) (W := W) L b G h2) (soundE (m := .v true) (W := W) L c G h3) (lastM h0)) ?_)
      intro σ H Q hh
      exact w_chain (fa := ev Φ a) (fb := ev Φ b) (fc := ev Φ c) (o1 := o1) (o2 := o2) σ H Q hh
  | .gc g, sc, fn, X, m, e, W, G, h => by
    rw [chkE] at h
    cases q : asName e with
    | none => rw [q] at h; cases h
    | some x =>
      rw [q] at h
      simp only [Bool.and_eq_true, decide_eq_true_eq] at h
      obtain ⟨⟨rfl, h1⟩, h2⟩ := h
      obtain ⟨u, v, t, m1, m2, m3, m4⟩ := L.gc g h1
      refine sndOf (wPE (G.glob q h2 m1 m2) fun σ H Q ⟨gg, ω, ρ, st, rel, hq⟩ => ?_)
      change postG _ _ _ _ _ _ _ _ ((Φ (1000 + g) [] st).noexc) Q at hq
      rw [m4] at hq
      exact hq v H ω (ExtE.refl _ _) rel.cells (.inl (by rw [G.hK]; exact m3 _ _))
  | .kget g kk, sc, fn, X, m, e, W, G, h => by
    rw [chkE] at h
    cases q : asSub e with
    | none => rw [q] at h; cases h
    | some u =>
      obtain ⟨x, y⟩ := u
      rw [q] at h
      obtain ⟨pp, rfl⟩ := asSub_eq q
      simp only [Bool.and_eq_true, Option.isNone_iff_eq_none, decide_eq_true_eq] at h
      obtain ⟨⟨⟨⟨h0, h1⟩, h2⟩, h3⟩, h4⟩ := h
      obtain ⟨a, es, n, T, m1, m2, m3, m4, m5⟩ := L.tb g h2
      have D : KDict X.K X.w a es n := by rw [G.hK, G.hw]; exact m2
      exact sndOf (wPE (pe_ix ix_kdict (G.glob h1 h3 m1 (v := .ref a) rfl) (soundE (m := .v true) L kk G h4) (plainIx_of h0)) (kget_w D (by rw [G.hK]; exact m3) m4))
  | .kin neg g kk, sc, fn, X, m, e, W, G, h => by
    rw [chkE] at h
    cases q : asCmp e with
    | none => rw [q] at h; cases h
    | some t =>
      obtain ⟨l, o, r⟩ := t
      rw [q] at h
      obtain ⟨pp, rfl⟩ := asCmp_eq q
      simp only [Bool.and_eq_true, decide_eq_true_eq] at h
      obtain ⟨⟨⟨⟨rfl, h1⟩, h2⟩, h3⟩, h4⟩ := h
      obtain ⟨rr, o1, o2, o3⟩ := G.kin L (neg := neg) h1 h2 h3 (soundE (m := .v true) L kk G h4)
      have hs : isSet r = false := by obtain ⟨_, rfl⟩ := asName_eq h1; rfl
      exact sndOf (wPE (pe_cmpR o1 (soundE (m := .v true) L kk G h4) o2 (marks_of hs)) (o3 _))
  | .comp2 elt tg it tg2 it2 ifs own own2, sc, fn, X, m, e, W, G, h => sndOf (sF_v (F_comp2 G h (fun tp x hx => soundE (m := .i true tp) L it G hx) (fun G' hx => soundE (m := .i false _) L it2 G' hx) (fun G' hx => soundF L ifs G' hx) (fun G' hx => soundE (m := .v false) L elt G' hx)))
  | .enum a, sc, fn, X, m, e, W, G, h => by
    rw [chkE, Bool.and_eq_true, Bool.and_eq_true] at h
    cases m with
    | v b => cases h.1.1
    | i bb tp =>
      have h2 := h.2
      have htp : tp = true := h.1.2
      cases q : call1 sc "enumerate" e with
      | none => rw [q] at h2; cases h2
      | some x =>
        rw [q] at h2
        intro tgt ht
        obtain ⟨es, kk, p2, rfl⟩ := ht htp
        obtain ⟨qn, pp, rfl, g, hs⟩ := call1_of q
        obtain ⟨g1, g2, g3⟩ := G.gl g
        have hst : starEach [x] X.env = [(false, eval x X.env)] := by rw [starEach_plain hs]; rfl
        have hm : X.mg "enumerate" = none := by rw [G.hmg]; exact L.bi _ (by decide +kernel)
        exact si_enum (fun ta ha => pi_or (pi_enum g1 hm (pa_cons ha pa_nil (starEach_plain hs)) hst) (pi_enumT g1 hm (pa_cons ha pa_nil (starEach_plain hs)) hst)) (soundE (m := .v false) L a G h2)
  | .join a b, sc, fn, X, m, e, W, G, h => by
    rw [chkE] at h
    cases q : asMeth e with
    | none => rw [q] at h; cases h
    | some u =>
      obtain ⟨o, n, x⟩ := u
      rw [q] at h
      simp only [Bool.and_eq_true, decide_eq_true_eq, Option.isNone_iff_eq_none] at h
      obtain ⟨⟨⟨⟨rfl, h1⟩, h2⟩, h3⟩, h4⟩ := h
      obtain ⟨ap, cp, rfl, hl⟩ := asMeth_eq q
      exact sndOf (se_join (fun ta tb ha hb => pe_join ha hb (by rw [starEach_plain h2]; rfl) (plainO_of h1) hl) (soundE (m := .v true) L a G h3) (soundE (m := .v true) L b G h4))
  | .fstr es, sc, fn, X, m, e, W, G, h => by
    rw [chkE] at h
    split at h
    · rename_i v w r q
      obtain ⟨pp, rfl⟩ := asFstr_eq q
      exact sndOf (se_fstr (fun ts pj => pe_joined pj) (soundJ L es G h))
    · rename_i v q
      obtain ⟨pp, rfl⟩ := asFstr_eq q
      split at h
      · rename_i a x hx
        obtain ⟨pq, rfl⟩ := asFmt_eq hx
        refine sndOf (wPE (pe_joined1 (pe_fmt (soundE (m := .v true) (W := W) L a G h))) fun σ H Q ⟨gg, ω, ρ, st, rel, hq⟩ => tv_fmt (W := W) (bz := m.b) (fa := ev Φ a) σ H Q ⟨gg, ω, ρ, st, rel, ?_⟩)
        change postG _ _ _ _ _ _ _ _ (((ev Φ a ρ st).bind fun x st => match fmtV Str.empty x with
          | some acc' => R.ok acc' st
          | none => .bad).bind fun s st => R.ok (PV.str s) st) Q at hq
        rw [fmt_bind] at hq
        exact hq
      · cases h
    · cases h
  | .rev a, sc, fn, X, m, e, W, G, h => sndOf (sF_v (F_rev h fun x hx => soundE (m := .v true) L a G hx))
  | .tupRng a b, sc, fn, X, m, e, W, G, h => by
    rw [chkE] at h
    cases q : call1 sc "tuple" e with
    | none => rw [q] at h; cases h
    | some x =>
      rw [q] at h
      dsimp only at h
      cases q2 : call2 sc "range" x with
      | none => rw [q2] at h; cases h
      | some u =>
        obtain ⟨y, z⟩ := u
        rw [q2] at h
        simp only [Bool.and_eq_true] at h
        obtain ⟨qn, pp, rfl, g, hs⟩ := call1_of q
        obtain ⟨qn2, pp2, rfl, gg, hs1, hs2⟩ := call2_of q2
        obtain ⟨g1, g2, g3⟩ := G.gl g
        obtain ⟨k1, k2, k3⟩ := G.gl gg
        have m1 : X.mg "tuple" = none := by rw [G.hmg]; exact L.bi _ (by decide +kernel)
        have m2 : X.mg "range" = none := by rw [G.hmg]; exact L.bi _ (by decide +kernel)
        exact sndOf (se_tupRng (fun ta tb ha hb => pe_tupRg G.calm g1 m1 (prg_2 k1 m2 ha hb (starEach_plain hs1) (starEach_plain hs2) (noStars_any (es := [z]) (by unfold noStars; simp [hs2]))) (starEach_plain hs)) (soundE (m := .v true) L a G h.1) (soundE (m := .v true) L b G h.2))
  | .sset a, sc, fn, X, m, e, W, G, h => by
    rw [chkE] at h
    cases q : call1 sc "sorted" e with
    | none => rw [q] at h; cases h
    | some x =>
      rw [q] at h
      dsimp only at h
      cases q2 : call1 sc "set" x with
      | none => rw [q2] at h; cases h
      | some y =>
        rw [q2] at h
        exact sndOf (se1 (v := fun _ => ssetV) (r := rSS X.K X.prog X.w) (fun ta ha => G.bi1 L q (by decide +kernel) PyProof.Rows.boot_sorted (cr_sortS G.calm (by have := G.room.un; omega)) _ (G.ty1 L q2 (by decide +kernel) PyProof.Rows.boot_set (cr_setOfT G.calm (by have := G.room.un; omega)) _ ha)) (soundE (m := .v true) L a G h) vr_sset)
  | .sorted a, sc, fn, X, m, e, W, G, h => by
    rw [chkE] at h
    cases q : call1 sc "sorted" e with
    | none => rw [q] at h; cases h
    | some x =>
      rw [q] at h
      exact sndOf (se1 (v := fun _ => sortedV) (G.bi1 L q (by decide +kernel) PyProof.Rows.boot_sorted (cr_sortD (by have := G.room.un; omega))) (soundE (m := .v true) L a G h) vr_sorted)
theorem soundJ (L : Lib p k S Φ) : ∀ (cs : Cs) {sc : Scope} {fn : Str → Bool} {X : Cx} {es : List Expr} {W : Wx}, Good p k S.N sc fn X → chkJ S sc fn cs es = true → SJ X W es (fun acc => evj Φ cs acc)
  | .nil, sc, fn, X, [], W, G, h => sj_nil
  | .cons a r, sc, fn, X, e :: es, W, G, h => by
    rw [chkJ, Bool.and_eq_true] at h
    have ih := soundJ L r (W := W) G h.2
    cases q : asFmt e with
    | some x =>
      rw [q] at h
      obtain ⟨pq, rfl⟩ := asFmt_eq q
      exact sj_fmt (soundE (m := .v true) L a G h.1) (fun te hte => pe_fmt hte) ih
    | none =>
      rw [q] at h
      have h1 := h.1
      dsimp only at h1
      cases q2 : constS a with
      | none => rw [q2] at h1; cases h1
      | some s =>
        rw [q2] at h1
        obtain rfl := constS_eq q2
        obtain ⟨kk, pp, rfl⟩ := asConst_eq (of_decide_eq_true h1)
        exact sj_str pe_str ih
  | .nil, sc, fn, X, _ :: _, W, G, h => Bool.noConfusion (show false = true from h)
  | .cons a r, sc, fn, X, [], W, G, h => Bool.noConfusion (show false = true from h)
  | .star a r, sc, fn, X, es, W, G, h => Bool.noConfusion (show false = true from h)
theorem soundD (L : Lib p k S Φ) : ∀ (cs : Cs) {sc : Scope} {fn : Str → Bool} {X : Cx} {ks : List (Option Expr)} {vs : List Expr} {pos : Pos} {W : Wx}, Good p k S.N sc fn X → chkD S sc fn cs ks vs = true → SPs X W pos ks vs (evs Φ cs)
  | .nil, sc, fn, X, [], [], pos, W, G, h => sp_nil
  | .cons a (.cons b r), sc, fn, X, some x :: xs, y :: ys, pos, W, G, h => by
    rw [chkD, Bool.and_eq_true, Bool.and_eq_true] at h
    exact sp_cons (soundE (m := .v false) L a G h.1.1) (soundE (m := .v false) L b G h.1.2) (soundD L r G h.2)
  | .nil, sc, fn, X, _ :: _, _, pos, W, G, h => Bool.noConfusion (show false = true from h)
  | .nil, sc, fn, X, [], _ :: _, pos, W, G, h => Bool.noConfusion (show false = true from h)
  | .star a r, sc, fn, X, ks, vs, pos, W, G, h => Bool.noConfusion (show false = true from h)
  | .cons a .nil, sc, fn, X, ks, vs, pos, W, G, h => Bool.noConfusion (show false = true from h)
  | .cons a (.star b r), sc, fn, X, ks, vs, pos, W, G, h => Bool.noConfusion (show false = true from h)
  | .cons a (.cons b r), sc, fn, X, [], vs, pos, W, G, h => Bool.noConfusion (show false = true from h)
  | .cons a (.cons b r), sc, fn, X, none :: xs, vs, pos, W, G, h => Bool.noConfusion (show false = true from h)
  | .cons a (.cons b r), sc, fn, X, some x :: xs, [], pos, W, G, h => Bool.noConfusion (show false = true from h)
theorem soundA (L : Lib p k S Φ) : ∀ (cs : Cs) {sc : Scope} {fn : Str → Bool} {X : Cx} {es : List Expr} {W : Wx}, Good p k S.N sc fn X → chkA S sc fn cs es = true → PA X es (tvs X.K W (evs Φ cs))
  | .nil, sc, fn, X, [], W, G, h => sa_nil
  | .cons a r, sc, fn, X, e :: es, W, G, h => by
    rw [chkA, Bool.and_eq_true, Bool.and_eq_true, Option.isNone_iff_eq_none] at h
    exact sa_cons (fun ta tb ha hb => pa_cons ha hb (starEach_plain h.1.1)) (soundE L a G h.1.2) (soundA L r G h.2)
  | .star a r, sc, fn, X, e :: es, W, G, h => by
    rw [chkA, Bool.and_eq_true] at h
    cases q : asStar e with
    | none => rw [q] at h; cases h.1
    | some x =>
      rw [q] at h
      obtain ⟨pp, rfl⟩ := asStar_eq q
      exact sa_star (fun ta tb ha hb => StX.pa_star ha hb rfl) (soundE L a G h.1) (soundA L r G h.2)
  | .nil, sc, fn, X, _ :: _, W, G, h => Bool.noConfusion (show false = true from h)
  | .cons a r, sc, fn, X, [], W, G, h => Bool.noConfusion (show false = true from h)
  | .star a r, sc, fn, X, [], W, G, h => Bool.noConfusion (show false = true from h)
theorem soundO (L : Lib p k S Φ) : ∀ (cs : Cs) {sc : Scope} {fn : Str → Bool} {X : Cx} {o : Option Expr} {W : Wx}, Good p k S.N sc fn X → chkO S sc fn cs o = true → PO X o (tvo X.K W (evo Φ cs))
  | .nil, sc, fn, X, none, W, G, h => so_nil
  | .cons a .nil, sc, fn, X, some e, W, G, h => by
    rw [chkO] at h
    exact so_one (soundE L a G h)
  | .nil, sc, fn, X, some _, W, G, h => Bool.noConfusion (show false = true from h)
  | .cons a .nil, sc, fn, X, none, W, G, h => Bool.noConfusion (show false = true from h)
  | .cons a (.cons b r), sc, fn, X, o, W, G, h => by cases o <;> exact Bool.noConfusion (show false = true from h)
  | .cons a (.star b r), sc, fn, X, o, W, G, h => by cases o <;> exact Bool.noConfusion (show false = true from h)
  | .star a r, sc, fn, X, o, W, G, h => by cases o <;> exact Bool.noConfusion (show false = true from h)
theorem soundF (L : Lib p k S Φ) : ∀ (cs : Cs) {sc : Scope} {fn : Str → Bool} {X : Cx} {fs : List Expr} {W : Wx}, Good p k S.N sc fn X → chkF S sc fn cs fs = true → PTs X fs (tvbb X.K W (evt Φ cs))
  | .nil, sc, fn, X, [], W, G, h => sts_nil
  | .cons a .nil, sc, fn, X, [e], W, G, h => by
    rw [chkF] at h
    exact sts_one (soundT L a G h)
  | .nil, sc, fn, X, _ :: _, W, G, h => Bool.noConfusion (show false = true from h)
  | .cons a .nil, sc, fn, X, [], W, G, h => Bool.noConfusion (show false = true from h)
  | .cons a .nil, sc, fn, X, _ :: _ :: _, W, G, h => Bool.noConfusion (show false = true from h)
  | .cons a (.cons b r), sc, fn, X, fs, W, G, h => Bool.noConfusion (show false = true from h)
  | .cons a (.star b r), sc, fn, X, fs, W, G, h => Bool.noConfusion (show false = true from h)
  | .star a r, sc, fn, X, fs, W, G, h => Bool.noConfusion (show false = true from h)
theorem soundT (L : Lib p k S Φ) : ∀ (c : C) {sc : Scope} {fn : Str → Bool} {X : Cx} {e : Expr} {W : Wx}, Good p k S.N sc fn X → chkT S sc fn c e = true → PT X e (tvbb X.K W (asB (ev Φ c)))
  | .not a, sc, fn, X, e, W, G, h => by
    rw [chkT] at h
    cases q : asUn e with
    | none => rw [q] at h; cases h
    | some t =>
      obtain ⟨o, x⟩ := t
      rw [q] at h
      obtain ⟨pp, rfl⟩ := asUn_eq q
      simp only [Bool.and_eq_true, decide_eq_true_eq] at h
      obtain ⟨rfl, h1⟩ := h
      exact st_not (fun t ht => pt_not ht) (soundT L a G h1)
  | .and a b, sc, fn, X, e, W, G, h => by
    rw [chkT] at h
    split at h
    · rename_i x y pp q
      obtain rfl := asBool_eq q
      rw [Bool.and_eq_true] at h
      exact (sw_and (fun t u ht hu => pw_and ht hu) (soundT L a G h.1) (pw_and1 (soundT L b G h.2))).pt
    · rename_i x y z r pp q
      obtain rfl := asBool_eq q
      rw [Bool.and_eq_true] at h
      exact (sw_and (fun t u ht hu => pw_and ht hu) (soundT L a G h.1) (pw_bool (soundT L b G h.2))).pt
    · cases h
  | .or a b, sc, fn, X, e, W, G, h => by
    rw [chkT] at h
    split at h
    · rename_i x y pp q
      obtain rfl := asBool_eq q
      rw [Bool.and_eq_true] at h
      exact (sw_or (fun t u ht hu => pw_or ht hu) (soundT L a G h.1) (pw_or1 (soundT L b G h.2))).pt
    · rename_i x y z r pp q
      obtain rfl := asBool_eq q
      rw [Bool.and_eq_true] at h
      exact (sw_or (fun t u ht hu => pw_or ht hu) (soundT L a G h.1) (pw_bool (soundT L b G h.2))).pt
    · cases h
  | .cmp op a b, sc, fn, X, e, W, G, h => by
    rw [chkT] at h
    cases q : asCmp e with
    | none => rw [q] at h; cases h
    | some t =>
      obtain ⟨l, o, r⟩ := t
      rw [q] at h
      obtain ⟨pp, rfl⟩ := asCmp_eq q
      simp only [Bool.and_eq_true, decide_eq_true_eq, Bool.not_eq_true'] at h
      obtain ⟨⟨⟨rfl, h0⟩, h1⟩, h2⟩ := h
      exact st_cmp (pt_cmpR (opr_cmp (by have := G.room.un; omega) op) (soundE (m := .v true) L a G h1) (soundE (m := .v true) L b G h2) (marks_of h0)) (w2 (v := fun _ x y => (cmpV op x y).map .bl) (vr_cmp op))
  | .call f es, sc, fn, X, e, W, G, h => by
    rw [chkT] at h
    cases q : asCall e with
    | none => rw [q] at h; cases h
    | some u =>
      obtain ⟨x, xs⟩ := u
      rw [q] at h
      simp only [Bool.and_eq_true, decide_eq_true_eq, Bool.not_eq_true'] at h
      obtain ⟨⟨⟨⟨⟨h0, h1⟩, h2⟩, h3⟩, h4⟩, h5⟩ := h
      refine asB_ev ?_ ((G.call L q h1 h2 h3 h5 (fun z => by subst z; cases es <;> first | rfl | exact Bool.noConfusion (show false = true from h4)) (soundA L es G h4)).1 h0 _)
      obtain ⟨_, _, rfl⟩ := asCall_eq q
      rfl
  | .isa2 a t u, sc, fn, X, e, W, G, h => by
    rw [chkT] at h
    cases q : call2 sc "isinstance" e with
    | none => rw [q] at h; cases h
    | some r =>
      obtain ⟨x, y⟩ := r
      rw [q] at h
      dsimp only at h
      split at h
      · rename_i y1 y2 hy
        simp only [Bool.and_eq_true, decide_eq_true_eq] at h
        refine asB_ev ?_ (G.isi2 L q hy h.1.1.1.1 h.1.1.1.2 h.1.1.2 h.1.2 (soundE (m := .v true) L a G h.2))
        obtain ⟨_, _, rfl, _⟩ := call2_of q
        rfl
      · cases h
  | .isa a t, sc, fn, X, e, W, G, h => by
    rw [chkT] at h
    cases q : call2 sc "isinstance" e with
    | none => rw [q] at h; cases h
    | some u =>
      obtain ⟨x, y⟩ := u
      rw [q] at h
      simp only [Bool.and_eq_true, decide_eq_true_eq] at h
      refine asB_ev ?_ (G.isi L q h.1.1 h.1.2 (soundE (m := .v true) L a G h.2))
      obtain ⟨_, _, rfl, _⟩ := call2_of q
      rfl
  | .all a, sc, fn, X, e, W, G, h => by
    rw [chkT] at h
    cases q : call1 sc "all" e with
    | none => rw [q] at h; cases h
    | some x =>
      rw [q] at h
      refine asB_ev ?_ (se1 (v := fun _ => allV) (G.bi1 L q (by decide +kernel) PyProof.Rows.boot_all (cr_all G.calm)) (soundE (m := .v true) L a G h) vr_all)
      obtain ⟨_, _, rfl, _⟩ := call1_of q
      rfl
  | .var i, sc, fn, X, e, W, G, h => by
    rw [chkT] at h
    refine asB_ev ?_ (se_var (G.var h))
    obtain ⟨_, _, rfl, _⟩ := isNm_of h
    rfl
  | .ix a i, sc, fn, X, e, W, G, h => by
    rw [chkT] at h
    cases q : asSub e with
    | none => rw [q] at h; cases h
    | some u =>
      obtain ⟨x, y⟩ := u
      rw [q] at h
      obtain ⟨pp, rfl⟩ := asSub_eq q
      simp only [Bool.and_eq_true, Option.isNone_iff_eq_none] at h
      exact asB_ev rfl (se2 (v := fun st => ixV st) (fun ta tb ha hb => pe_ix ix_seq ha hb (plainIx_of h.1.1)) (soundE (m := .v true) L a G h.1.2) (soundE (m := .v true) L i G h.2) vr_ix)
  | .bl b, sc, fn, X, e, W, G, h => by
    rw [chkT, decide_eq_true_eq] at h
    obtain ⟨kk, pp, rfl⟩ := asConst_eq h
    exact asB_ev rfl (se_c (fun _ _ => .bl b) pe_bl)
  | .any a, sc, fn, X, e, W, G, h => by
    rw [chkT] at h
    cases q : call1 sc "any" e with
    | none => rw [q] at h; cases h
    | some x =>
      rw [q] at h
      refine asB_ev ?_ (se1 (v := fun _ => anyV) (G.bi1 L q (by decide +kernel) PyProof.Rows.boot_any (cr_any G.calm)) (soundE (m := .v true) L a G h) vr_any)
      obtain ⟨_, _, rfl, _⟩ := call1_of q
      rfl
  | .chain o1 o2 a b c, sc, fn, X, e, W, G, h => by
    rw [chkT] at h
    cases q : asCmp2 e with
    | none => rw [q] at h; cases h
    | some t =>
      obtain ⟨l, p1, mm, p2, r⟩ := t
      rw [q] at h
      obtain ⟨pp, rfl⟩ := asCmp2_eq q
      simp only [Bool.and_eq_true, decide_eq_true_eq, Bool.not_eq_true'] at h
      obtain ⟨⟨⟨⟨⟨rfl, rfl⟩, h0⟩, h1⟩, h2⟩, h3⟩ := h
      exact st_cmp (pt_chain (opr_cmp (by have := G.room.un; omega) o1) (opr_cmp (by have := G.room.un; omega) o2) (soundE (m := .v true) (W := W) L a G h1) (soundE (m := .v true) (W := W) L b G h2) (soundE (m := .v true) (W := W) L c G h3) (lastM h0)) (fun σ H Q hh => w_chain (fa := ev Φ a) (fb := ev Φ b) (fc := ev Φ c) (o1 := o1) (o2 := o2) σ H Q hh)
  | .kin neg g kk, sc, fn, X, e, W, G, h => by
    rw [chkT] at h
    cases q : asCmp e with
    | none => rw [q] at h; cases h
    | some t =>
      obtain ⟨l, o, r⟩ := t
      rw [q] at h
      obtain ⟨pp, rfl⟩ := asCmp_eq q
      simp only [Bool.and_eq_true, decide_eq_true_eq] at h
      obtain ⟨⟨⟨⟨rfl, h1⟩, h2⟩, h3⟩, h4⟩ := h
      obtain ⟨rr, o1, o2, o3⟩ := G.kin L (neg := neg) h1 h2 h3 (soundE (m := .v true) L kk G h4)
      have hs : isSet r = false := by obtain ⟨_, rfl⟩ := asName_eq h1; rfl
      exact st_cmp (pt_cmpR o1 (soundE (m := .v true) L kk G h4) o2 (marks_of hs)) (o3 _)
  | .cat .., _, _, _, _, _, _, h => Bool.noConfusion (show false = true from h)
  | .dgetD .., _, _, _, _, _, _, h => Bool.noConfusion (show false = true from h)
  | .revT _, _, _, _, _, _, _, h => Bool.noConfusion (show false = true from h)
  | .str1 _, _, _, _, _, _, _, h => Bool.noConfusion (show false = true from h)
  | .gc _, _, _, _, _, _, _, h => Bool.noConfusion (show false = true from h)
  | .kget .., _, _, _, _, _, _, h => Bool.noConfusion (show false = true from h)
  | .comp2 .., _, _, _, _, _, _, h => Bool.noConfusion (show false = true from h)
  | .enum _, _, _, _, _, _, _, h => Bool.noConfusion (show false = true from h)
  | .join .., _, _, _, _, _, _, h => Bool.noConfusion (show false = true from h)
  | .fstr _, _, _, _, _, _, _, h => Bool.noConfusion (show false = true from h)
  | .rev _, _, _, _, _, _, _, h => Bool.noConfusion (show false = true from h)
  | .tupRng .., _, _, _, _, _, _, h => Bool.noConfusion (show false = true from h)
  | .sset _, _, _, _, _, _, _, h => Bool.noConfusion (show false = true from h)
  | .sorted _, _, _, _, _, _, _, h => Bool.noConfusion (show false = true from h)
  | .bor _, _, _, _, _, _, _, h => Bool.noConfusion (show false = true from h)
  | .int _, _, _, _, _, _, _, h => Bool.noConfusion (show false = true from h)
  | .str _, _, _, _, _, _, _, h => Bool.noConfusion (show false = true from h)
  | .non, _, _, _, _, _, _, h => Bool.noConfusion (show false = true from h)
  | .bin .., _, _, _, _, _, _, h => Bool.noConfusion (show false = true from h)
  | .neg _, _, _, _, _, _, _, h => Bool.noConfusion (show false = true from h)
  | .ite .., _, _, _, _, _, _, h => Bool.noConfusion (show false = true from h)
  | .tup _, _, _, _, _, _, _, h => Bool.noConfusion (show false = true from h)
  | .lst _, _, _, _, _, _, _, h => Bool.noConfusion (show false = true from h)
  | .len _, _, _, _, _, _, _, h => Bool.noConfusion (show false = true from h)
  | .toInt _, _, _, _, _, _, _, h => Bool.noConfusion (show false = true from h)
  | .tupleOf _, _, _, _, _, _, _, h => Bool.noConfusion (show false = true from h)
  | .listOf _, _, _, _, _, _, _, h => Bool.noConfusion (show false = true from h)
  | .indexOf .., _, _, _, _, _, _, h => Bool.noConfusion (show false = true from h)
  | .sl .., _, _, _, _, _, _, h => Bool.noConfusion (show false = true from h)
  | .comp .., _, _, _, _, _, _, h => Bool.noConfusion (show false = true from h)
  | .rng1 _, _, _, _, _, _, _, h => Bool.noConfusion (show false = true from h)
  | .rng2 .., _, _, _, _, _, _, h => Bool.noConfusion (show false = true from h)
  | .zip2 .., _, _, _, _, _, _, h => Bool.noConfusion (show false = true from h)
  | .repr _, _, _, _, _, _, _, h => Bool.noConfusion (show false = true from h)
  | .dct _, _, _, _, _, _, _, h => Bool.noConfusion (show false = true from h)
  | .dget .., _, _, _, _, _, _, h => Bool.noConfusion (show false = true from h)
end
/-- what makes a new list -/
theorem soundN (L : Lib p k S Φ) {c : C} {sc : Scope} {fn : Str → Bool} {X : Cx} {m : Md} {e : Expr} {W : Wx} (G : Good p k S.N sc fn X) (h : chkE S sc fn m c e = true) (hc : (match c with
    | .lst _ => true
    | .listOf _ => true
    | .comp .. => true
    | .comp2 .. => true
    | .rev _ => true
    | .cat .. => true
    | _ => false) = true) : PE X e (tvF X.K W (ev Φ c)) := by
  cases c with
  | lst es => exact F_lst h fun xs hx => soundA L es G hx
  | listOf a => exact F_listOf L G h fun x hx => soundE (m := .v true) L a G hx
  | comp elt tg it ifs own => exact F_comp G h (fun tp x hx => soundE (m := .i true tp) L it G hx) (fun G' hx => soundF L ifs G' hx) (fun G' hx => soundE (m := .v false) L elt G' hx)
  | comp2 elt tg it tg2 it2 ifs own own2 => exact F_comp2 G h (fun tp x hx => soundE (m := .i true tp) L it G hx) (fun G' hx => soundE (m := .i false _) L it2 G' hx) (fun G' hx => soundF L ifs G' hx) (fun G' hx => soundE (m := .v false) L elt G' hx)
  | cat a b => exact F_cat h (fun x hx => soundE (m := .v true) L a G hx) (fun x hx => soundE (m := .v true) L b G hx)
  | rev a => exact F_rev h fun x hx => soundE (m := .v true) L a G hx
  | _ => cases hc
end
end Ev
namespace Ev
open PySem L2
/-! ### statements -/
def RetP (K : PySem.W.Frag) (fr : Bool) (g : Gh) (ω : Wd) (H : Hp) (x : V) (t : PV) : Prop := if fr then FreshP K g.H0 ω H x t else Rep K ω H x t
def postS (K : PySem.W.Frag) (fr : Bool) (g : Gh) (ω : Wd) (H : Hp) (W : Wx) (r : RS) (D : Ends) : Prop := match r with
  | .nx ρ' st' => ∀ σ' H' ω', Ext ω H ω' H' → Rel K g ω' ρ' st' σ' H' → D.nx σ' H'
  | .bk ρ' st' => ∀ σ' H' ω', Ext ω H ω' H' → Rel K g ω' ρ' st' σ' H' → D.bk σ' H'
  | .ct ρ' st' => ∀ σ' H' ω', Ext ω H ω' H' → Rel K g ω' ρ' st' σ' H' → D.ct σ' H'
  | .rt v st' => ∀ x ρ' σ' H' ω', Rel K g ω' ρ' st' σ' H' → RetP K fr g ω' H' x v → D.rt x H'
  | .exc e ρ' st' => ∀ σ' H' ω', Ext ω H ω' H' → Rel K g ω' ρ' st' σ' H' → W e g ω' ρ' st' σ' H'
  | .bad => False
def ts (K : PySem.W.Frag) (fr : Bool) (W : Wx) (f : En → Cel → RS) : TS := fun D σ H => ∃ g ω ρ st, Rel K g ω ρ st σ H ∧ postS K fr g ω H W (f ρ st) D
theorem wPS {X : Cx} {s : Stmt} {t t' : TS} (h : PS X s t) (i : ∀ D σ H, t' D σ H → t D σ H) : PS X s t' := ⟨fun pins s σ H D I q => h.run pins s σ H D I (i _ _ _ q)⟩
theorem wPSs {X : Cx} {s : List Stmt} {t t' : TS} (h : PSs X s t) (i : ∀ D σ H, t' D σ H → t D σ H) : PSs X s t' := ⟨fun pins s σ H D I q => h.run pins s σ H D I (i _ _ _ q)⟩
section
variable {K : PySem.W.Frag} {g : Gh} {ω ω' : Wd} {ρ : En} {st st' : Cel} {σ : St} {H H' : Hp} {X : Cx} {fr : Bool}
/-- exceptions within an expression of a statement -/
theorem postS.ext {W : Wx} {r : RS} {D : Ends} (h : postS K fr g ω H W r D) (x : Ext ω H ω' H') : postS K fr g ω' H' W r D := by
  cases r with
  | nx ρ1 st1 => exact fun σ2 H2 ω2 y rel => h σ2 H2 ω2 (x.trans y) rel
  | bk ρ1 st1 => exact fun σ2 H2 ω2 y rel => h σ2 H2 ω2 (x.trans y) rel
  | ct ρ1 st1 => exact fun σ2 H2 ω2 y rel => h σ2 H2 ω2 (x.trans y) rel
  | rt v st1 => exact h
  | exc e ρ1 st1 => exact fun σ2 H2 ω2 y rel => h σ2 H2 ω2 (x.trans y) rel
  | bad => exact h
theorem thenG {α β : Type} {P : RX α β} {W : Wx} {f : En → Cel → R α} {k : α → Cel → RS} {D : Ends} (r : Rel K g ω ρ st σ H) (h : postS K fr g ω H W ((f ρ st).then ρ k) D) :
    tG P K W f σ H (fun x H1 => ∃ ω1 st1 t, ExtE ω H ω1 H1 ∧ Rel K g ω1 ρ st1 σ H1 ∧ P ω1 H1 x t ∧ postS K fr g ω1 H1 W (k t st1) D) := by
  refine ⟨g, ω, ρ, st, r, ?_⟩
  cases e : f ρ st with
  | ok t s =>
    rw [e] at h
    exact fun x H1 ω1 x1 c p => ⟨ω1, s, t, x1, r.extE x1 c, p, postS.ext h (x1.ext r.cells)⟩
  | exc x s =>
    rw [e] at h
    exact fun H1 ω1 x1 c => h σ H1 ω1 (x1.ext r.cells) (r.extE x1 c)
  | bad => rw [e] at h; exact h
theorem thenF {W : Wx} {f : En → Cel → R PV} {k : PV → Cel → RS} {D : Ends} (r : Rel K g ω ρ st σ H) (h : postS K fr g ω H W ((f ρ st).then ρ k) D) :
    tvF K W f σ H (fun x H1 => ∃ ω1 st1 t, ExtE ω H ω1 H1 ∧ Rel K g ω1 ρ st1 σ H1 ∧ FreshP K H ω1 H1 x t ∧ postS K fr g ω1 H1 W (k t st1) D) := by
  refine ⟨g, ω, ρ, st, r, ?_⟩
  cases e : f ρ st with
  | ok t s =>
    rw [e] at h
    exact fun x H1 ω1 x1 c p => ⟨ω1, s, t, x1, r.extE x1 c, p, postS.ext h (x1.ext r.cells)⟩
  | exc x s =>
    rw [e] at h
    exact fun H1 ω1 x1 c => h σ H1 ω1 (x1.ext r.cells) (r.extE x1 c)
  | bad => rw [e] at h; exact h
theorem tvF.mono {W : Wx} {f : En → Cel → R PV} {Q Q' : VK} (h : tvF K W f σ H Q) (i : ∀ x H, Q x H → Q' x H) : tvF K W f σ H Q' := by
  obtain ⟨g, ω, ρ, st, r, h⟩ := h
  refine ⟨g, ω, ρ, st, r, ?_⟩
  cases e : f ρ st with
  | ok t s => rw [e] at h; exact fun x H' ω' y c p => i _ _ (h x H' ω' y c p)
  | exc x s => rw [e] at h; exact h
  | bad => rw [e] at h; exact h
theorem postNx {W : Wx} {D : Ends} {ρ' : En} (h : postS K fr g ω H W (.nx ρ' st') D) {σ' : St} (r : Rel K g ω ρ' st' σ' H) : D.nx σ' H := h σ' H ω (Ext.refl _ _) r
variable {W : Wx} {e a b : Expr} {s : Stmt}
theorem ss_ret {f : En → Cel → R PV} (hps : ∀ t, PE X e t → PS X s (tRet t)) (h : PE X e (tv X.K false W f)) : PS X s (ts X.K false W fun ρ st => (f ρ st).then ρ fun x st => .rt x st) :=
  wPS (hps _ h) fun D σ H ⟨g, ω, ρ, st, rel, q⟩ => (thenG (P := RepM X.K false) rel q).mono fun x H1 ⟨ω1, st1, t, x1, rel1, p, q⟩ => q x ρ σ H1 ω1 rel1 p.rep
theorem ss_retF {f : En → Cel → R PV} (hps : ∀ t, PE X e t → PS X s (tRet t)) (h : PE X e (tvF X.K W f)) : PS X s (ts X.K true W fun ρ st => (f ρ st).then ρ fun x st => .rt x st) :=
  wPS (hps _ h) fun D σ H ⟨g, ω, ρ, st, rel, q⟩ => (thenF rel q).mono fun x H1 ⟨ω1, st1, t, x1, rel1, p, q⟩ => by
    obtain ⟨p0, vs, tt, e1, e2, h1, h2⟩ := p
    exact q x ρ σ H1 ω1 rel1 ⟨p0, vs, tt, e1, e2, rel.none0 h1, h2⟩
theorem ss_expr {f : En → Cel → R PV} (hps : ∀ t, PE X e t → PS X s (tDrop t)) (h : PE X e (tv X.K true W f)) : PS X s (ts X.K fr W fun ρ st => (f ρ st).then ρ fun _ st => .nx ρ st) :=
  wPS (hps _ h) fun D σ H ⟨g, ω, ρ, st, rel, q⟩ => (thenG (P := RepM X.K true) rel q).mono fun x H1 ⟨ω1, st1, t, x1, rel1, p, q⟩ => postNx q rel1
theorem ss_asg {f : En → Cel → R PV} {tg : List Nat} {T : TE} (hps : PS X s (tAsg T (gAsg X.K tg))) (hw : ∀ σ H Q, tv X.K false W f σ H Q → T σ H Q) : PS X s (ts X.K fr W fun ρ st => (f ρ st).then ρ fun x st => match assignT tg x ρ with
    | some ρ1 => .nx ρ1 st
    | none => .bad) :=
  wPS hps fun D σ H ⟨g, ω, ρ, st, rel, q⟩ => hw σ H _ ((thenG (P := RepM X.K false) rel q).mono fun x H1 ⟨ω1, st1, t, x1, rel1, p, q⟩ => by
    cases ea : assignT tg t ρ with
    | none => rw [ea] at q; exact q.elim
    | some ρ1 =>
      rw [ea] at q
      exact gAsg_ok rel1 p.rep ea fun vs r => postNx q r)
/-- a name owns a new list -/
theorem Rel.setOwn (r : Rel K g ω ρ st σ H) (i : Nat) {p : Addr} {vs : List V} {ts : List PV} (hp : H p = some (.lst vs)) (hs : ¬ ω.S p) (hc : p ∉ ω.cs) (h0 : g.H0 p = none) (rl : RepL K ω H vs ts)
    (hn : ∀ (j : Nat) (u : PV), ρ[j]? = some (Slot.own u) → σ[j]? ≠ some (some (V.ref p))) : Rel K g ω (ρ.set i (.own (.lst ts))) st (σ.set i (some (.ref p))) H := by
  refine ⟨by simp [r.len], fun j u hj => ?_, fun j u hj => ?_, fun j k u w a hj hk h1 h2 => ?_, r.cells, r.base, r.sub, r.new, r.csp, r.csn, r.cs0⟩
  · rcases get_set hj with ⟨rfl, e⟩ | ⟨ne, e⟩
    · cases e
    · obtain ⟨v', e1, r1⟩ := r.val j u e
      exact ⟨v', by rw [List.getElem?_set_ne ne]; exact e1, r1⟩
  · rcases get_set hj with ⟨rfl, e⟩ | ⟨ne, e⟩
    · cases e
      exact ⟨p, by rw [List.getElem?_set_self (by rw [r.len]; exact lt_of_set hj)], ⟨vs, ts, rfl, hp, rl⟩, hs, hc, h0⟩
    · obtain ⟨a, e1, r1⟩ := r.own j u e
      exact ⟨a, by rw [List.getElem?_set_ne ne]; exact e1, r1⟩
  · rcases get_set hj with ⟨rfl, e⟩ | ⟨ne, e⟩
    · rcases get_set hk with ⟨rfl, e'⟩ | ⟨ne', e'⟩
      · rfl
      · rw [List.getElem?_set_self (by rw [r.len]; exact lt_of_set hj)] at h1
        cases h1
        rw [List.getElem?_set_ne ne'] at h2
        exact absurd h2 (hn k w e')
    · rcases get_set hk with ⟨rfl, e'⟩ | ⟨ne', e'⟩
      · rw [List.getElem?_set_self (by rw [r.len]; exact lt_of_set hk)] at h2
        cases h2
        rw [List.getElem?_set_ne ne] at h1
        exact absurd h1 (hn j u e)
      · rw [List.getElem?_set_ne ne] at h1
        rw [List.getElem?_set_ne ne'] at h2
        exact r.sep j k u w a e e' h1 h2
theorem fresh_notOwn {p : Addr} (rel : Rel K g ω ρ st σ H) (h : H p = none) : ∀ (j : Nat) (u : PV), ρ[j]? = some (Slot.own u) → σ[j]? ≠ some (some (V.ref p)) := fun j u hj z => by
  obtain ⟨a, e1, ⟨vs, ts, _, e2, _⟩, _⟩ := rel.own j u hj
  rw [z] at e1
  cases e1
  rw [h] at e2; cases e2
theorem ss_asgO {f : En → Cel → R PV} {i : Nat} {T : TE} (hps : PS X s (tAsg T (gName i))) (hw : ∀ σ H Q, tvF X.K W f σ H Q → T σ H Q) : PS X s (ts X.K fr W fun ρ st => (f ρ st).then ρ fun x st => match x with
    | .lst xs => .nx (ρ.set i (.own (.lst xs))) st
    | _ => .bad) :=
  wPS hps fun D σ H ⟨g, ω, ρ, st, rel, q⟩ => hw σ H _ ((thenF rel q).mono fun x H1 ⟨ω1, st1, t, x1, rel1, p, q⟩ => by
    obtain ⟨p0, vs, tt, rfl, rfl, h1, h2, h3, h4, h5⟩ := p
    exact postNx q (rel1.setOwn i h2 h3 h4 (rel.none0 h1) h5 fun j u hj => fresh_notOwn rel h1 j u hj))
/-- a new cell -/
theorem Rel.newCell (r : Rel K g ω ρ st σ H) (i : Nat) {p : Addr} {vs : List V} {ts : List PV} (hp : H p = some (.lst vs)) (hs : ¬ ω.S p) (hc : p ∉ ω.cs) (h0 : g.H0 p = none) (rl : RepL K ω H vs ts)
    (hn : ∀ (j : Nat) (u : PV), ρ[j]? = some (Slot.own u) → σ[j]? ≠ some (some (V.ref p))) : Rel K g ⟨ω.S, ω.cs ++ [p]⟩ (ρ.set i (.val (.cell st.length))) (st ++ [.lst ts]) (σ.set i (some (.ref p))) H := by
  have x : Ext ω H ⟨ω.S, ω.cs ++ [p]⟩ H := ⟨fun _ z => z, ⟨[p], rfl⟩, fun _ _ z _ => z⟩
  have hl := r.cells.len
  have c : CelOk K ⟨ω.S, ω.cs ++ [p]⟩ (st ++ [.lst ts]) H := by
    refine ⟨by simp [hl], ?_, fun a ha => ?_, r.cells.trk, fun k a ha => ?_⟩
    · show (ω.cs ++ [p]).Nodup
      rw [List.nodup_append]
      exact ⟨r.cells.nd, by simp, fun a ha b hb => by
        simp at hb
        rintro rfl
        exact hc (hb ▸ ha)⟩
    · rcases List.mem_append.mp ha with z | z
      · exact r.cells.out a z
      · simp at z; rw [z]; exact hs
    · change (ω.cs ++ [p])[k]? = some a at ha
      by_cases hk : k < ω.cs.length
      · rw [List.getElem?_append_left hk] at ha
        obtain ⟨ws, us, q1, q2, q3⟩ := r.cells.at_ k a ha
        exact ⟨ws, us, prefix_get q1, q2, q3.mono x⟩
      · have hk' : k = ω.cs.length := by
          rcases Nat.lt_or_ge k (ω.cs.length + 1) with z | z
          · omega
          · rw [List.getElem?_eq_none (by simp; omega)] at ha; cases ha
        subst hk'
        rw [List.getElem?_append_right (Nat.le_refl _)] at ha
        simp at ha
        subst ha
        exact ⟨vs, ts, by rw [hl, List.getElem?_append_right (Nat.le_refl _)]; simp, hp, rl.mono x⟩
  refine ⟨by simp [r.len], fun j u hj => ?_, fun j u hj => ?_, fun j k u w a hj hk h1 h2 => ?_, c, r.base, r.sub, r.new, ?_, fun a ha => ?_, r.cs0⟩
  · rcases get_set hj with ⟨rfl, e⟩ | ⟨ne, e⟩
    · cases e
      exact ⟨.ref p, by rw [List.getElem?_set_self (by rw [r.len]; exact lt_of_set hj)], .cell (by show (ω.cs ++ [p])[st.length]? = _; rw [← hl, List.getElem?_append_right (Nat.le_refl _)]; simp)⟩
    · obtain ⟨v', e1, r1⟩ := r.val j u e
      exact ⟨v', by rw [List.getElem?_set_ne ne]; exact e1, r1.mono x⟩
  · rcases get_set hj with ⟨rfl, e⟩ | ⟨ne, e⟩
    · cases e
    · obtain ⟨a, e1, ⟨ws, us, q1, q2, q3⟩, n1, n2, n3⟩ := r.own j u e
      refine ⟨a, by rw [List.getElem?_set_ne ne]; exact e1, ⟨ws, us, q1, q2, q3.mono x⟩, n1, fun z => ?_, n3⟩
      rcases List.mem_append.mp z with z | z
      · exact n2 z
      · simp at z
        subst z
        exact hn j u e e1
  · rcases get_set hj with ⟨rfl, e⟩ | ⟨ne, e⟩
    · cases e
    · rcases get_set hk with ⟨rfl, e'⟩ | ⟨ne', e'⟩
      · cases e'
      · rw [List.getElem?_set_ne ne] at h1
        rw [List.getElem?_set_ne ne'] at h2
        exact r.sep j k u w a e e' h1 h2
  · obtain ⟨m, q⟩ := r.csp
    exact ⟨m ++ [p], by show ω.cs ++ [p] = _; rw [q, List.append_assoc]⟩
  · rcases List.mem_append.mp ha with z | z
    · exact r.csn a z
    · simp at z; rw [z]; exact .inr h0
theorem ss_asgC {f : En → Cel → R PV} {i : Nat} {T : TE} (hps : PS X s (tAsg T (gName i))) (hw : ∀ σ H Q, tvF X.K W f σ H Q → T σ H Q) : PS X s (ts X.K fr W fun ρ st => (f ρ st).then ρ fun x st => match x with
    | .lst xs => .nx (ρ.set i (.val (.cell st.length))) (st ++ [.lst xs])
    | _ => .bad) :=
  wPS hps fun D σ H ⟨g, ω, ρ, st, rel, q⟩ => hw σ H _ ((thenF rel q).mono fun x H1 ⟨ω1, st1, t, x1, rel1, p, q⟩ => by
    obtain ⟨p0, vs, tt, rfl, rfl, h1, h2, h3, h4, h5⟩ := p
    exact q _ H1 ⟨ω1.S, ω1.cs ++ [p0]⟩ ⟨fun _ z => z, ⟨[p0], rfl⟩, fun _ _ z _ => z⟩ (rel1.newCell i h2 h3 h4 (rel.none0 h1) h5 fun j u hj => fresh_notOwn rel h1 j u hj))
end
end Ev
namespace Ev
open PySem L2
section
variable {K : PySem.W.Frag} {g : Gh} {ω ω' : Wd} {ρ : En} {st st' : Cel} {σ : St} {H H' : Hp} {X : Cx} {fr : Bool} {W : Wx} {e a b : Expr} {s : Stmt}
/-- an owned list changes -/
theorem Rel.updOwn (r : Rel K g ω ρ st σ H) {i : Nat} {p : Addr} {u : PV} {vs : List V} {ts : List PV} (hi : ρ[i]? = some (Slot.own u)) (hp : σ[i]? = some (some (V.ref p))) (rl : RepL K ω H vs ts) : Rel K g ω (ρ.set i (.own (.lst ts))) st σ (upd H p (.lst vs)) := by
  obtain ⟨a, e1, ⟨ws, us, q1, q2, q3⟩, n1, n2, n3⟩ := r.own i u hi
  rw [hp] at e1
  cases e1
  have x : Ext ω H ω (upd H p (.lst vs)) := extUpd q2 n1
  have il : i < ρ.length := by
    rcases Nat.lt_or_ge i ρ.length with z | z
    · exact z
    · rw [List.getElem?_eq_none z] at hi; cases hi
  refine ⟨by simp [r.len], fun j w hj => ?_, fun j w hj => ?_, fun j k w z a hj hk h1 h2 => ?_, r.cells.upd q2 n1 n2, fun a o h hc => ?_, r.sub, r.new, r.csp, r.csn, r.cs0⟩
  · rcases get_set hj with ⟨rfl, e⟩ | ⟨ne, e⟩
    · cases e
    · obtain ⟨v', e1, r1⟩ := r.val j w e
      exact ⟨v', e1, r1.mono x⟩
  · rcases get_set hj with ⟨rfl, e⟩ | ⟨ne, e⟩
    · cases e
      exact ⟨p, hp, ⟨vs, ts, rfl, upd_same, rl.mono x⟩, n1, n2, n3⟩
    · obtain ⟨a, e1, ⟨ws', us', q1', q2', q3'⟩, m1, m2, m3⟩ := r.own j w e
      have nea : a ≠ p := fun z => ne (r.sep i j u w p hi e hp (by rw [← z]; exact e1))
      exact ⟨a, e1, ⟨ws', us', q1', by rw [upd_ne nea]; exact q2', q3'.mono x⟩, m1, m2, m3⟩
  · have f : ∀ (j : Nat) (w : PV), (ρ.set i (.own (.lst ts)))[j]? = some (Slot.own w) → ∃ w', ρ[j]? = some (Slot.own w') := fun j w hj => by
      rcases get_set hj with ⟨rfl, e⟩ | ⟨ne, e⟩
      · exact ⟨u, hi⟩
      · exact ⟨w, e⟩
    obtain ⟨w', hw⟩ := f j w hj
    obtain ⟨z', hz⟩ := f k z hk
    exact r.sep j k w' z' a hw hz h1 h2
  · rw [upd_ne (fun z => by rw [z, n3] at h; cases h)]
    exact r.base a o h hc
/-- a cell changes -/
theorem Rel.updCell (r : Rel K g ω ρ st σ H) {k : Nat} {p : Addr} {vs : List V} {ts : List PV} (hk : ω.cs[k]? = some p) (rl : RepL K ω H vs ts) : Rel K g ω ρ (st.set k (.lst ts)) σ (upd H p (.lst vs)) := by
  have hm : p ∈ ω.cs := List.mem_of_getElem? hk
  obtain ⟨ws, us, c1, c2, c3⟩ := r.cells.at_ k p hk
  have n1 := r.cells.out p hm
  have x : Ext ω H ω (upd H p (.lst vs)) := extUpd c2 n1
  have c : CelOk K ω (st.set k (.lst ts)) (upd H p (.lst vs)) := by
    refine ⟨by simp [r.cells.len], r.cells.nd, r.cells.out, fun a z => ?_, fun j a ha => ?_⟩
    · obtain ⟨o, q⟩ := r.cells.trk a z
      exact ⟨o, by rw [upd_ne (fun e => n1 (by rw [← e]; exact z))]; exact q⟩
    · by_cases e : k = j
      · subst e
        rw [hk] at ha
        cases ha
        have kl : k < st.length := by
          rcases Nat.lt_or_ge k st.length with z | z
          · exact z
          · rw [List.getElem?_eq_none z] at c1; cases c1
        exact ⟨vs, ts, by rw [List.getElem?_set_self kl], upd_same, rl.mono x⟩
      · obtain ⟨ws', us', q1, q2, q3⟩ := r.cells.at_ j a ha
        have nea : a ≠ p := fun z => by
          subst z
          have jl : j < ω.cs.length := by
            rcases Nat.lt_or_ge j ω.cs.length with z | z
            · exact z
            · rw [List.getElem?_eq_none z] at ha; cases ha
          exact e ((List.getElem?_inj (by
            rcases Nat.lt_or_ge k ω.cs.length with z | z
            · exact z
            · rw [List.getElem?_eq_none z] at hk; cases hk) r.cells.nd).mp (hk.trans ha.symm))
        exact ⟨ws', us', by rw [List.getElem?_set_ne e]; exact q1, by rw [upd_ne nea]; exact q2, q3.mono x⟩
  refine ⟨r.len, fun j w hj => ?_, fun j w hj => ?_, r.sep, c, fun a o h hc => ?_, r.sub, r.new, r.csp, r.csn, r.cs0⟩
  · obtain ⟨v', e1, r1⟩ := r.val j w hj
    exact ⟨v', e1, r1.mono x⟩
  · obtain ⟨a, e1, ⟨ws', us', q1', q2', q3'⟩, m1, m2, m3⟩ := r.own j w hj
    have nea : a ≠ p := fun z => m2 (by rw [z]; exact hm)
    exact ⟨a, e1, ⟨ws', us', q1', by rw [upd_ne nea]; exact q2', q3'.mono x⟩, m1, m2, m3⟩
  · rw [upd_ne (fun z => ?_)]
    · exact r.base a o h hc
    · subst z
      rcases r.csn a hm with z | z
      · exact hc z
      · rw [h] at z; cases z
theorem ss_setI {f fo fi : En → Cel → R PV} (hps : ∀ te to ti, PE X e te → PE X a to → PE X b ti → PS X s (tAsg te (gSub to ti rSetL))) (he : PE X e (tv X.K false W f)) (ho : PE X a (tv X.K false W fo)) (hi : PE X b (tv X.K false W fi)) :
    PS X s (ts X.K fr W fun ρ st => (f ρ st).then ρ fun x st => (fo ρ st).then ρ fun o st => (fi ρ st).then ρ fun j st => match o, j with
      | .cell k, .int j => (match st[k]? with
        | some (.lst xs) => (match ixP xs.length j with
          | some n => .nx ρ (st.set k (.lst (xs.set n x)))
          | none => .bad)
        | _ => .bad)
      | _, _ => .bad) := by
  refine wPS (hps _ _ _ he ho hi) fun D σ H ⟨g, ω, ρ, st, rel, q⟩ => (thenG (P := RepM X.K false) rel q).mono fun x H1 ⟨ω1, st1, t, x1, rel1, p, q⟩ => ?_
  refine (thenG (P := RepM X.K false) (f := fo) rel1 q).mono fun o H2 ⟨ω2, st2, t2, x2, rel2, p2, q2⟩ => ?_
  refine (thenG (P := RepM X.K false) (f := fi) rel2 q2).mono fun j H3 ⟨ω3, st3, t3, x3, rel3, p3, q3⟩ => ?_
  cases t2 with
  | cell k =>
    cases t3 with
    | int n =>
      dsimp only at q3
      obtain ⟨a0, rfl, ha⟩ := (p2.extE x3 rel2.cells).cell
      obtain ⟨vs, us, c1, c2, c3⟩ := rel3.cells.at_ k a0 ha
      rw [c1] at q3
      dsimp only at q3
      cases en : ixP us.length n with
      | none => rw [en] at q3; exact q3.elim
      | some m =>
        rw [en] at q3
        have px := ((p.extE x2 rel1.cells).extE x3 rel2.cells).rep
        refine ⟨a0, vs, n, m, rfl, p3.int, c2, by rw [c3.length]; exact en, ?_⟩
        refine q3 σ _ ω3 (extUpd c2 (rel3.cells.out a0 (List.mem_of_getElem? ha))) (rel3.updCell ha (c3.set px m))
    | _ => exact q3.elim
  | _ => exact q3.elim
theorem ss_app {f : En → Cel → R PV} {i : Nat} (hps : ∀ te to, PE X e te → PE X a to → PS X s (tDrop (tBM X.K "list" rAppend to (tCons te tNil)))) (ha : PE X a (tVar i)) (he : PE X e (tv X.K false W f)) :
    PS X s (ts X.K fr W fun ρ st => match ρ[i]? with
      | some (.own (.lst xs)) => (f ρ st).then ρ fun x st => if szOk (xs.length + 1) then .nx (ρ.set i (.own (.lst (xs ++ [x])))) st else .bad
      | _ => .bad) := by
  refine wPS (hps _ _ he ha) fun D σ H ⟨g, ω, ρ, st, rel, q⟩ => ?_
  dsimp only at q
  split at q
  · rename_i xs hi
    obtain ⟨p0, hp, ⟨vs, us, e1, e2, e3⟩, n1, n2, n3⟩ := rel.own i _ hi
    cases e1
    refine ⟨.ref p0, hp, .inl ⟨rfl, vs, .inl (.inl e2)⟩, (thenG (P := RepM X.K false) (f := f) rel q).mono fun x H1 ⟨ω1, st1, t, x1, rel1, p, q⟩ => ?_⟩
    have e2' := x1.keep _ _ e2 n2
    have n1' : ¬ ω1.S p0 := fun z => by
      rcases x1.newS p0 z with z | z
      · exact n1 z
      · rw [e2] at z; cases z
    by_cases hz : szOk (xs.length + 1) = true
    · rw [if_pos hz] at q
      have hz' := szOk_le hz
      refine ⟨p0, vs, x, rfl, rfl, e2', by rw [e3.length]; omega, ?_⟩
      exact q σ _ ω1 (extUpd e2' n1') (rel1.updOwn hi hp ((e3.mono (x1.ext rel.cells)).append (.cons p.rep .nil)))
    · rw [if_neg hz] at q; exact q.elim
  · exact q.elim
theorem ss_ext {f : En → Cel → R PV} {i : Nat} (hps : ∀ te to, PE X e te → PE X a to → PS X s (tDrop (tBM X.K "list" rExtend to (tCons te tNil)))) (ha : PE X a (tVar i)) (he : PE X e (tv X.K false W f)) :
    PS X s (ts X.K fr W fun ρ st => match ρ[i]? with
      | some (.own (.lst xs)) => (f ρ st).then ρ fun x st => match x with
        | .lst ys => if szOk (xs.length + ys.length) then .nx (ρ.set i (.own (.lst (xs ++ ys)))) st else .bad
        | _ => .bad
      | _ => .bad) := by
  refine wPS (hps _ _ he ha) fun D σ H ⟨g, ω, ρ, st, rel, q⟩ => ?_
  dsimp only at q
  split at q
  · rename_i xs hi
    obtain ⟨p0, hp, ⟨vs, us, e1, e2, e3⟩, n1, n2, n3⟩ := rel.own i _ hi
    cases e1
    refine ⟨.ref p0, hp, .inl ⟨rfl, vs, .inl (.inl e2)⟩, (thenG (P := RepM X.K false) (f := f) rel q).mono fun x H1 ⟨ω1, st1, t, x1, rel1, p, q⟩ => ?_⟩
    have e2' := x1.keep _ _ e2 n2
    have n1' : ¬ ω1.S p0 := fun z => by
      rcases x1.newS p0 z with z | z
      · exact n1 z
      · rw [e2] at z; cases z
    cases t with
    | lst ys =>
      dsimp only at q
      obtain ⟨b0, ws, rfl, hb, rb⟩ := p.lst
      by_cases hz : szOk (xs.length + ys.length) = true
      · rw [if_pos hz] at q
        have hz' := szOk_le hz
        refine ⟨p0, b0, vs, ws, rfl, rfl, e2', hb, by rw [e3.length, rb.length]; exact hz', ?_⟩
        exact q σ _ ω1 (extUpd e2' n1') (rel1.updOwn hi hp ((e3.mono (x1.ext rel.cells)).append rb))
      · rw [if_neg hz] at q; exact q.elim
    | _ => exact q.elim
  · exact q.elim
theorem then_asB (r : R PV) (ρ : En) (k1 k2 : Cel → RS) : r.then ρ (fun x st => ifB x (k1 st) (k2 st)) = (r.bind fun x st => R.of (blV x) st).then ρ fun b st => if b then k1 st else k2 st := by
  cases r with
  | ok x st => cases x <;> try rfl
               rename_i b; cases b <;> rfl
  | exc e st => rfl
  | bad => rfl
theorem ss_if {ft : En → Cel → R PV} {f f' : En → Cel → RS} {c : Expr} {as bs : List Stmt} (hps : ∀ tt ta tb, PT X c tt → PSs X as ta → PSs X bs tb → PS X s (tIfS tt ta tb)) (hc : PT X c (tvbb X.K W (asB ft))) (ha : PSs X as (ts X.K fr W f)) (hb : PSs X bs (ts X.K fr W f')) :
    PS X s (ts X.K fr W fun ρ st => (ft ρ st).then ρ fun x st => ifB x (f ρ st) (f' ρ st)) := by
  refine wPS (hps _ _ _ hc ha hb) fun D σ H ⟨g, ω, ρ, st, rel, q⟩ => ?_
  dsimp only at q
  rw [then_asB (ft ρ st) ρ (fun st => f ρ st) (fun st => f' ρ st)] at q
  refine (thenG (P := RBB) (f := asB ft) rel q).mono fun x H1 ⟨ω1, st1, t, x1, rel1, p, q⟩ => ?_
  cases (show t = x from p)
  cases x with
  | true => exact ⟨g, ω1, ρ, st1, rel1, q⟩
  | false => exact ⟨g, ω1, ρ, st1, rel1, q⟩
theorem ss_pass (h : PS X s tNext) : PS X s (ts X.K fr W fun ρ st => .nx ρ st) := wPS h fun D σ H ⟨g, ω, ρ, st, rel, q⟩ => postNx q rel
theorem ss_brk (h : PS X s tBreak) : PS X s (ts X.K fr W fun ρ st => .bk ρ st) := wPS h fun D σ H ⟨g, ω, ρ, st, rel, q⟩ => q σ H ω (Ext.refl _ _) rel
theorem ss_cnt (h : PS X s tCont) : PS X s (ts X.K fr W fun ρ st => .ct ρ st) := wPS h fun D σ H ⟨g, ω, ρ, st, rel, q⟩ => q σ H ω (Ext.refl _ _) rel
theorem sss_nil : PSs X [] (ts X.K fr W fun ρ st => .nx ρ st) := wPSs pss_nil fun D σ H ⟨g, ω, ρ, st, rel, q⟩ => postNx q rel
theorem seqS {f : En → Cel → RS} {f' : En → Cel → RS} {D : Ends} (rel : Rel K g ω ρ st σ H) (q : postS K fr g ω H W ((f ρ st).seq f') D) : ts K fr W f { D with nx := fun σ1 H1 => ts K fr W f' D σ1 H1 } σ H := by
  refine ⟨g, ω, ρ, st, rel, ?_⟩
  cases e1 : f ρ st with
  | nx ρ1 st1 =>
    rw [e1] at q
    exact fun σ' H' ω' x r => ⟨g, ω', ρ1, st1, r, postS.ext q x⟩
  | bk ρ1 st1 => rw [e1] at q; exact q
  | ct ρ1 st1 => rw [e1] at q; exact q
  | rt v st1 => rw [e1] at q; exact q
  | exc x ρ1 st1 => rw [e1] at q; exact q
  | bad => rw [e1] at q; exact q
theorem sss_cons {f f' : En → Cel → RS} {ss : List Stmt} (h1 : PS X s (ts X.K fr W f)) (h2 : PSs X ss (ts X.K fr W f')) : PSs X (s :: ss) (ts X.K fr W fun ρ st => (f ρ st).seq fun ρ st => f' ρ st) :=
  wPSs (pss_cons h1 h2) fun D σ H ⟨g, ω, ρ, st, rel, q⟩ => seqS rel q
/-- a list is owned no more -/
theorem Rel.frz (r : Rel K g ω ρ st σ H) {i : Nat} {u : PV} (hi : ρ[i]? = some (Slot.own u)) : ∃ ω', Ext ω H ω' H ∧ Rel K g ω' (ρ.set i (.val u)) st σ H := by
  obtain ⟨p, hp, ⟨vs, us, rfl, q2, q3⟩, n1, n2, n3⟩ := r.own i u hi
  have x : Ext ω H (ω.add p) H := ⟨fun _ z => .inl z, ⟨[], by simp [Wd.add]⟩, fun _ _ z _ => z⟩
  refine ⟨ω.add p, x, ⟨by simp [r.len], fun j w hj => ?_, fun j w hj => ?_, fun j k w z a hj hk h1 h2 => ?_, r.cells.add n2 q2, r.base, fun a h => .inl (r.sub a h), fun a h => ?_, r.csp, r.csn, r.cs0⟩⟩
  · rcases get_set hj with ⟨rfl, e⟩ | ⟨ne, e⟩
    · cases e
      exact ⟨.ref p, hp, .lst (.inr rfl) q2 (q3.mono x)⟩
    · obtain ⟨v', e1, r1⟩ := r.val j w e
      exact ⟨v', e1, r1.mono x⟩
  · rcases get_set hj with ⟨rfl, e⟩ | ⟨ne, e⟩
    · cases e
    · obtain ⟨a, e1, ⟨ws', us', q1', q2', q3'⟩, m1, m2, m3⟩ := r.own j w e
      refine ⟨a, e1, ⟨ws', us', q1', q2', q3'.mono x⟩, fun z => ?_, m2, m3⟩
      rcases z with z | z
      · exact m1 z
      · subst z
        exact ne (r.sep i j _ w a hi e hp e1)
  · rcases get_set hj with ⟨rfl, e⟩ | ⟨ne, e⟩
    · cases e
    · rcases get_set hk with ⟨rfl, e'⟩ | ⟨ne', e'⟩
      · cases e'
      · exact r.sep j k w z a e e' h1 h2
  · rcases h with h | h
    · exact r.new a h
    · rw [h]; exact .inr n3
theorem sss_frz {f : En → Cel → RS} {i : Nat} {ss : List Stmt} (h : PSs X ss (ts X.K fr W f)) : PSs X ss (ts X.K fr W fun ρ st => (match ρ[i]? with
    | some (.own v) => RS.nx (ρ.set i (.val v)) st
    | _ => .nx ρ st).seq fun ρ st => f ρ st) := by
  refine wPSs h fun D σ H ⟨g, ω, ρ, st, rel, q⟩ => ?_
  dsimp only at q
  split at q
  · rename_i v hi
    obtain ⟨ω', x, r'⟩ := rel.frz hi
    exact ⟨g, ω', _, st, r', postS.ext q x⟩
  · exact ⟨g, ω, ρ, st, rel, q⟩
theorem gPar_ok : ∀ (is : List Nat) {vs : List V} {ts : List PV} {ρ : En} {σ : St}, Rel K g ω ρ st σ H → RepL K ω H vs ts → vs.length = is.length → Rel K g ω (setAll ρ (is.zip ts)) st (setS σ is vs) H
  | [], _, _, _, _, r, .nil, _ => r
  | i :: is, _, _, ρ, σ, r, .cons h hs, hl => gPar_ok is (r.set i h) hs (by simpa using hl)
theorem ss_par {f : En → Cel → R (List PV)} {is : List Nat} {es : List Expr} (hps : PS X s (fun D σ H => tvs X.K W f σ H fun vs H1 => vs.length = is.length ∧ D.nx (setS σ is vs) H1)) :
    PS X s (ts X.K fr W fun ρ st => (f ρ st).then ρ fun xs st => if xs.length = is.length then .nx ((is.zip xs).foldl (fun ρ p => set1 ρ p.1 p.2) ρ) st else .bad) :=
  wPS hps fun D σ H ⟨g, ω, ρ, st, rel, q⟩ => (thenG (P := RepL X.K) rel q).mono fun vs H1 ⟨ω1, st1, t, x1, rel1, p, q⟩ => by
    by_cases hl : t.length = is.length
    · rw [if_pos hl] at q
      exact ⟨by rw [p.length]; exact hl, postNx q (gPar_ok is rel1 p (by rw [p.length]; exact hl))⟩
    · rw [if_neg hl] at q; exact q.elim
theorem ss_ustar {f : En → Cel → R PV} {is : List Nat} {j : Nat} (hps : PS X s (tAsg (tv X.K false W f) (gStar X.K is.length (gNames (is ++ [j]))))) : PS X s (ts X.K fr W fun ρ st => (f ρ st).then ρ fun x st => match x with
    | .tup xs => if is.length ≤ xs.length ∧ xs.length ≤ 16384 then .nx (set1 ((is.zip (xs.take is.length)).foldl (fun ρ p => set1 ρ p.1 p.2) ρ) j (.lst (xs.drop is.length))) st else .bad
    | _ => .bad) :=
  wPS hps fun D σ H ⟨g, ω, ρ, st, rel, q⟩ => (thenG (P := RepM X.K false) rel q).mono fun x H1 ⟨ω1, st1, t, x1, rel1, p, q⟩ => by
    cases t with
    | tup xs =>
      obtain ⟨a, vs, rfl, hT, rv⟩ := p.tup
      dsimp only at q
      by_cases hl : is.length ≤ xs.length ∧ xs.length ≤ 16384
      · rw [if_pos hl] at q
        refine ⟨a, vs, rfl, hT, by rw [rv.length]; exact hl.1, by rw [rv.length]; exact hl.2, fun d hd => ?_⟩
        have gr : Grow ω1 H1 (ω1.add d) (upd H1 d (.lst (vs.drop is.length))) := Grow.add hd
        have rl : RepL X.K (ω1.add d) (upd H1 d (.lst (vs.drop is.length))) (vs.take is.length ++ [.ref d]) (xs.take is.length ++ [.lst (xs.drop is.length)]) :=
          ((rv.take _).mono gr.ext).append (.cons (.lst (.inr rfl) upd_same ((rv.drop _).mono gr.ext)) .nil)
        refine gNames_ok (is ++ [j]) (rel1.grow gr) rl (by rw [List.length_append, List.length_take, rv.length, Nat.min_eq_left hl.1]; simp) fun r' => ?_
        have ez : setAll ρ ((is ++ [j]).zip (xs.take is.length ++ [.lst (xs.drop is.length)])) = set1 ((is.zip (xs.take is.length)).foldl (fun ρ p => set1 ρ p.1 p.2) ρ) j (.lst (xs.drop is.length)) := by
          unfold setAll
          rw [List.zip_append (by rw [List.length_take, Nat.min_eq_left hl.1]), List.foldl_append]
          rfl
        rw [ez] at r'
        exact q _ _ _ gr.ext r'
      · rw [if_neg hl] at q; exact q.elim
    | _ => exact q.elim
end
end Ev
namespace Ev
open PySem L2
section
variable {K : PySem.W.Frag} {g : Gh} {ω ω' : Wd} {ρ : En} {st st' : Cel} {σ : St} {H H' : Hp} {X : Cx} {fr : Bool} {W : Wx} {e a b : Expr} {s : Stmt}
def bodyF (f : En → Cel → RS) (tg : List Nat) : PV → En → Cel → RS := fun x ρ st => match assignT tg x ρ with
  | some ρ1 => f ρ1 st
  | none => .bad
theorem ss_for {fi : En → Cel → R PV} {f : En → Cel → RS} {tg : List Nat} {t it : Expr} {body : List Stmt} (hps : ∀ wi gt tb, PI X t it wi → PG X t gt → PSs X body tb → PS X s (tFor wi gt tb)) (hi : PI X t it (ti X.K false W fi)) (hg : PG X t (gAsg X.K tg)) (hb : PSs X body (ts X.K fr W f)) :
    PS X s (ts X.K fr W fun ρ st => (fi ρ st).then ρ fun iv st => match itemsOf iv with
      | some xs => forL (bodyF f tg) xs ρ st
      | none => .bad) := by
  refine wPS (hps _ _ _ hi hg hb) fun D σ H ⟨g, ω, ρ, st, rel, q⟩ => ?_
  refine ⟨g, ω, ρ, st, rel, ?_⟩
  dsimp only at q
  cases e1 : fi ρ st with
  | bad => rw [e1] at q; exact q
  | exc x s1 =>
    rw [e1] at q
    exact fun H1 ω1 x1 c => q σ H1 ω1 (x1.ext rel.cells) (rel.extE x1 c)
  | ok iv s1 =>
    rw [e1] at q
    simp only [R.then_ok] at q
    cases e2 : itemsOf iv with
    | none => rw [e2] at q; exact q.elim
    | some xs =>
      rw [e2] at q
      refine ⟨xs, e2, fun J H1 ω1 x1 c1 hJ => ?_⟩
      refine ⟨fun i m σ' H' => m = xs.length - i ∧ i ≤ xs.length ∧ ∃ ω' ρ' st', Ext ω1 H1 ω' H' ∧ Rel X.K g ω' ρ' st' σ' H' ∧ postS X.K fr g ω' H' W (forL (bodyF f tg) (xs.drop i) ρ' st') D,
        ⟨xs.length, by simp, Nat.zero_le _, ω1, ρ, s1, Ext.refl _ _, rel.extE x1 c1, postS.ext q (x1.ext rel.cells)⟩, ?_⟩
      rintro i m σ2 H2 ⟨rfl, hi, ω2, ρ2, st2, x2, rel2, q2⟩
      obtain ⟨go, stop, yld⟩ := hJ ω2 H2 x2 (fun z => by cases z)
      rcases Nat.lt_or_ge i xs.length with hlt | hge
      rotate_left
      · have ei : i = xs.length := by omega
        subst ei
        rw [List.drop_length] at q2
        exact .inl ⟨stop, postNx q2 rel2⟩
      · refine .inr ⟨go i hlt, fun σ' H' => i + 1 ≤ xs.length ∧ ∃ ω' ρ' st', Ext ω1 H1 ω' H' ∧ Rel X.K g ω' ρ' st' σ' H' ∧ postS X.K fr g ω' H' W (forL (bodyF f tg) (xs.drop (i + 1)) ρ' st') D,
          fun σ' H' hN => ⟨xs.length - (i + 1), by omega, rfl, hN.1, hN.2⟩, fun x H3 hy => ?_⟩
        obtain ⟨ω3, t3, w3, ex, rx⟩ := yld i x H3 hlt hy
        have rel3 := rel2.grow w3
        have x3 : Ext ω1 H1 ω3 H3 := x2.trans w3.ext
        have q3 := postS.ext q2 w3.ext
        rw [drop_cons ex] at q3
        unfold forL at q3
        cases ea : assignT tg t3 ρ2 with
        | none =>
          unfold bodyF at q3
          rw [ea] at q3
          exact q3.elim
        | some ρ3 =>
          have ef : bodyF f tg t3 ρ2 st2 = f ρ3 st2 := by
            unfold bodyF
            rw [ea]
          rw [ef] at q3
          refine gAsg_ok rel3 rx ea fun ws relT => ⟨g, ω3, ρ3, st2, relT, ?_⟩
          cases eb : f ρ3 st2 with
          | nx ρ4 st4 =>
            rw [eb] at q3
            exact fun σ4 H4 ω4 x4 rel4 => ⟨hlt, ω4, ρ4, st4, x3.trans x4, rel4, postS.ext q3 x4⟩
          | ct ρ4 st4 =>
            rw [eb] at q3
            exact fun σ4 H4 ω4 x4 rel4 => ⟨hlt, ω4, ρ4, st4, x3.trans x4, rel4, postS.ext q3 x4⟩
          | bk ρ4 st4 => rw [eb] at q3; exact q3
          | rt v st4 => rw [eb] at q3; exact q3
          | exc x4 ρ4 st4 => rw [eb] at q3; exact q3
          | bad => rw [eb] at q3; exact q3
theorem ss_while {ft : En → Cel → R PV} {f : En → Cel → RS} {n : Nat} {c : Expr} {body : List Stmt} (hps : ∀ tt tb, PT X c tt → PSs X body tb → PS X s (tWhile tt tb)) (hc : PT X c (tvbb X.K W (asB ft))) (hb : PSs X body (ts X.K fr W f)) :
    PS X s (ts X.K fr W fun ρ st => whileL ft f n ρ st) := by
  refine wPS (hps _ _ hc hb) fun D σ H ⟨g, ω, ρ, st, rel, q⟩ => ?_
  refine ⟨fun m σ' H' => ∃ ω' ρ' st', Ext ω H ω' H' ∧ Rel X.K g ω' ρ' st' σ' H' ∧ postS X.K fr g ω' H' W (whileL ft f m ρ' st') D, ⟨n, ω, ρ, st, Ext.refl _ _, rel, q⟩, ?_⟩
  rintro m σ2 H2 ⟨ω2, ρ2, st2, x2, rel2, q2⟩
  cases m with
  | zero => exact q2.elim
  | succ m =>
    unfold whileL at q2
    rw [then_asB (ft ρ2 st2) ρ2 (fun st => nextL (f ρ2 st) fun ρ1 st1 => whileL ft f m ρ1 st1) (fun st => .nx ρ2 st)] at q2
    refine (thenG (P := RBB) (f := asB ft) rel2 q2).mono fun x H3 ⟨ω3, st3, t, x3, rel3, p, q3⟩ => ?_
    cases (show t = x from p)
    have x23 : Ext ω H ω3 H3 := x2.trans (x3.ext rel2.cells)
    cases x with
    | false => exact postNx q3 rel3
    | true =>
      rw [if_pos rfl]
      rw [if_pos rfl] at q3
      refine ⟨fun σ' H' => ∃ ω' ρ' st', Ext ω H ω' H' ∧ Rel X.K g ω' ρ' st' σ' H' ∧ postS X.K fr g ω' H' W (whileL ft f m ρ' st') D, fun σ' H' hN => ⟨m, Nat.lt_succ_self m, hN⟩, ⟨g, ω3, ρ2, st3, rel3, ?_⟩⟩
      cases eb : f ρ2 st3 with
      | nx ρ4 st4 =>
        rw [eb] at q3
        exact fun σ4 H4 ω4 x4 rel4 => ⟨ω4, ρ4, st4, x23.trans x4, rel4, postS.ext q3 x4⟩
      | ct ρ4 st4 =>
        rw [eb] at q3
        exact fun σ4 H4 ω4 x4 rel4 => ⟨ω4, ρ4, st4, x23.trans x4, rel4, postS.ext q3 x4⟩
      | bk ρ4 st4 => rw [eb] at q3; exact q3
      | rt v st4 => rw [eb] at q3; exact q3
      | exc x4 ρ4 st4 => rw [eb] at q3; exact q3
      | bad => rw [eb] at q3; exact q3
end
end Ev
namespace Ev
open PySem L2
section
variable {X : Cx} {W : Wx} {e a b : Expr} {s : Stmt} {K : PySem.W.Frag} {fr : Bool} {g : Gh} {ω ω' : Wd} {ρ : En} {st st' : Cel} {σ : St} {H H' : Hp}
/-! ### an owned list that changes -/
theorem RepL.eraseIdx : ∀ {vs : List V} {ts : List PV} (n : Nat), RepL K ω H vs ts → RepL K ω H (vs.eraseIdx n) (ts.eraseIdx n)
  | _, _, _, .nil => .nil
  | _, _, 0, .cons _ r => r
  | _, _, n + 1, .cons h r => .cons h (RepL.eraseIdx n r)
theorem RepL.dropLast {vs : List V} {ts : List PV} (r : RepL K ω H vs ts) : RepL K ω H vs.dropLast ts.dropLast := by
  rw [List.dropLast_eq_take, List.dropLast_eq_take, r.length]
  exact r.take _
/-- the owned list stands while something is worked out -/
theorem own_keep {p0 : Addr} {vs : List V} {ts : List PV} (x1 : ExtE ω H ω' H') (c : CelOk K ω st H) (e2 : H p0 = some (.lst vs)) (n1 : ¬ ω.S p0) (n2 : p0 ∉ ω.cs) (r : RepL K ω H vs ts) : H' p0 = some (.lst vs) ∧ ¬ ω'.S p0 ∧ p0 ∉ ω'.cs ∧ RepL K ω' H' vs ts := by
  refine ⟨x1.keep _ _ e2 n2, fun z => ?_, fun z => ?_, r.mono (x1.ext c)⟩
  · rcases x1.newS p0 z with z | z
    · exact n1 z
    · rw [e2] at z; cases z
  · rcases x1.newC p0 z with z | z
    · exact n2 z
    · rw [e2] at z; cases z
theorem ss_popA {i : Nat} {tg : List Nat} (hps : ∀ to, PE X a to → PS X s (tAsg (tBM0 X.K "list" rPop to) (gAsg X.K tg))) (ha : PE X a (tVar i)) :
    PS X s (ts X.K fr W fun ρ st => match ρ[i]? with
    | some (.own (.lst xs)) => (match xs[xs.length - 1]? with
      | some y => (match assignT tg y (ρ.set i (.own (.lst xs.dropLast))) with
        | some ρ1 => .nx ρ1 st
        | none => .bad)
      | none => .bad)
    | _ => .bad) := by
  refine wPS (hps _ ha) fun D σ H ⟨g, ω, ρ, st, rel, q⟩ => ?_
  dsimp only at q
  split at q
  · rename_i xs hi
    obtain ⟨p0, hp, ⟨vs, us, e1, e2, e3⟩, n1, n2, n3⟩ := rel.own i _ hi
    cases e1
    split at q
    · rename_i y hy
      split at q
      · rename_i ρ1 ha1
        obtain ⟨v, hv, rv⟩ := e3.get hy
        rw [← e3.length] at hv
        refine ⟨.ref p0, hp, .inl ⟨rfl, vs, .inl (.inl e2)⟩, ⟨p0, vs, v, rfl, rfl, e2, hv, ?_⟩⟩
        have up := extUpd (ω := ω) (o := .lst vs.dropLast) e2 n1
        refine gAsg_ok (rel.updOwn hi hp e3.dropLast) (rv.mono up) ha1 fun ws r2 => ?_
        exact q _ _ ω up r2
      · exact q.elim
    · exact q.elim
  · exact q.elim
theorem ss_popK {f : En → Cel → R PV} {i : Nat} (hps : ∀ te to, PE X e te → PE X a to → PS X s (tDrop (tBM X.K "list" rPopAt to (tCons te tNil)))) (ha : PE X a (tVar i)) (he : PE X e (tv X.K false W f)) :
    PS X s (ts X.K fr W fun ρ st => match ρ[i]? with
      | some (.own (.lst xs)) => (f ρ st).then ρ fun z st => (match popI xs z with
        | some ys => .nx (ρ.set i (.own (.lst ys))) st
        | none => .bad)
      | _ => .bad) := by
  refine wPS (hps _ _ he ha) fun D σ H ⟨g, ω, ρ, st, rel, q⟩ => ?_
  dsimp only at q
  split at q
  · rename_i xs hi
    obtain ⟨p0, hp, ⟨vs, us, e1, e2, e3⟩, n1, n2, n3⟩ := rel.own i _ hi
    cases e1
    refine ⟨.ref p0, hp, .inl ⟨rfl, vs, .inl (.inl e2)⟩, (thenG (P := RepM X.K false) (f := f) rel q).mono fun x H1 ⟨ω1, st1, t, x1, rel1, p, q⟩ => ?_⟩
    obtain ⟨k1, k2, k3, k4⟩ := own_keep x1 rel.cells e2 n1 n2 e3
    cases e4 : popI xs t with
    | none => rw [e4] at q; exact q.elim
    | some ys =>
      rw [e4] at q
      cases t with
      | int n =>
        change (if rOk n then (ixP xs.length n).map (fun m => xs.eraseIdx m) else none) = some ys at e4
        split at e4
        · rename_i hr
          obtain ⟨b1, b2⟩ := rOk_le hr
          cases e5 : ixP xs.length n with
          | none => rw [e5] at e4; cases e4
          | some m =>
            rw [e5] at e4
            cases e4
            obtain ⟨z1, z2, z3, z4⟩ := ixN_seq (show ixN xs.length n = some m from e5)
            obtain ⟨v, hv, _⟩ := k4.get (List.getElem?_eq_getElem z2)
            refine ⟨p0, vs, n, m, v, rfl, by rw [p.int], k1, by omega, by omega, by rw [k4.length]; exact z1, hv, ?_⟩
            exact q σ _ ω1 (extUpd k1 k2) (rel1.updOwn hi hp (k4.eraseIdx m))
        · cases e4
      | _ => cases e4
  · exact q.elim
abbrev rIns : V → List V → Hp → VK → Prop := fun x vs H Q => ∃ (l : Addr) (xs : List V) (i : Int) (y : V), x = .ref l ∧ vs = [.int i, y] ∧ H l = some (.lst xs) ∧ xs.length < sizeLine ∧ 0 ≤ i ∧ i < 2 ^ 63 ∧ Q .non (upd H l (.lst (xs.take i.toNat ++ [y] ++ xs.drop i.toNat)))
theorem ss_insO {f f' : En → Cel → R PV} {i : Nat} (hps : ∀ ta te to, PE X b ta → PE X e te → PE X a to → PS X s (tDrop (tBM X.K "list" rIns to (tCons ta (tCons te tNil))))) (ha : PE X a (tVar i)) (hb : PE X b (tv X.K false W f)) (he : PE X e (tv X.K false W f')) :
    PS X s (ts X.K fr W fun ρ st => match ρ[i]? with
      | some (.own (.lst xs)) => (f ρ st).then ρ fun z st => (f' ρ st).then ρ fun x st => (match insI xs z x with
        | some ys => .nx (ρ.set i (.own (.lst ys))) st
        | none => .bad)
      | _ => .bad) := by
  refine wPS (hps _ _ _ hb he ha) fun D σ H ⟨g, ω, ρ, st, rel, q⟩ => ?_
  dsimp only at q
  split at q
  · rename_i xs hi
    obtain ⟨p0, hp, ⟨vs, us, e1, e2, e3⟩, n1, n2, n3⟩ := rel.own i _ hi
    cases e1
    refine ⟨.ref p0, hp, .inl ⟨rfl, vs, .inl (.inl e2)⟩, (thenG (P := RepM X.K false) (f := f) rel q).mono fun x H1 ⟨ω1, st1, t, x1, rel1, p, q⟩ => ?_⟩
    obtain ⟨k1, k2, k3, k4⟩ := own_keep x1 rel.cells e2 n1 n2 e3
    refine (thenG (P := RepM X.K false) (f := f') rel1 q).mono fun y H2 ⟨ω2, st2, u, x2, rel2, p2, q2⟩ => ?_
    obtain ⟨l1, l2, l3, l4⟩ := own_keep x2 rel1.cells k1 k2 k3 k4
    cases e4 : insI xs t u with
    | none => rw [e4] at q2; exact q2.elim
    | some ys =>
      rw [e4] at q2
      cases t with
      | int n =>
        change (if 0 ≤ n && n < 2 ^ 62 && szOk (xs.length + 1) then some (xs.take n.toNat ++ [u] ++ xs.drop n.toNat) else none) = some ys at e4
        split at e4
        · rename_i hz
          cases e4
          simp only [Bool.and_eq_true, decide_eq_true_eq] at hz
          have hz' := szOk_le hz.2
          refine ⟨p0, vs, n, y, rfl, by rw [p.int], l1, by rw [l4.length]; omega, hz.1.1, by omega, ?_⟩
          exact q2 σ _ ω2 (extUpd l1 l2) (rel2.updOwn hi hp (((l4.take _).append (.cons p2.rep .nil)).append (l4.drop _)))
        · cases e4
      | _ => cases e4
  · exact q.elim
theorem ss_setO {f f' : En → Cel → R PV} {i : Nat} (hps : ∀ te ta to, PE X e te → PE X b ta → PE X a to → PS X s (tAsg te (gSub to ta rSetL))) (ha : PE X a (tVar i)) (he : PE X e (tv X.K false W f)) (hb : PE X b (tv X.K false W f')) :
    PS X s (ts X.K fr W fun ρ st => match ρ[i]? with
      | some (.own (.lst xs)) => (f ρ st).then ρ fun x st => (f' ρ st).then ρ fun z st => (match setI' xs z x with
        | some ys => .nx (ρ.set i (.own (.lst ys))) st
        | none => .bad)
      | _ => .bad) := by
  refine wPS (hps _ _ _ he hb ha) fun D σ H ⟨g, ω, ρ, st, rel, q⟩ => ?_
  dsimp only at q
  split at q
  · rename_i xs hi
    obtain ⟨p0, hp, ⟨vs, us, e1, e2, e3⟩, n1, n2, n3⟩ := rel.own i _ hi
    cases e1
    refine (thenG (P := RepM X.K false) (f := f) rel q).mono fun x H1 ⟨ω1, st1, t, x1, rel1, p, q⟩ => ?_
    obtain ⟨k1, k2, k3, k4⟩ := own_keep x1 rel.cells e2 n1 n2 e3
    refine ⟨.ref p0, hp, (thenG (P := RepM X.K false) (f := f') rel1 q).mono fun y H2 ⟨ω2, st2, u, x2, rel2, p2, q2⟩ => ?_⟩
    obtain ⟨l1, l2, l3, l4⟩ := own_keep x2 rel1.cells k1 k2 k3 k4
    have pp := p.extE x2 rel1.cells
    cases e4 : setI' xs u t with
    | none => rw [e4] at q2; exact q2.elim
    | some ys =>
      rw [e4] at q2
      cases u with
      | int n =>
        change (ixP xs.length n).map (fun m => xs.set m t) = some ys at e4
        cases e5 : ixP xs.length n with
        | none => rw [e5] at e4; cases e4
        | some m =>
          rw [e5] at e4
          cases e4
          refine ⟨p0, vs, n, m, rfl, p2.int, l1, by rw [l4.length]; exact e5, ?_⟩
          exact q2 σ _ ω2 (extUpd l1 l2) (rel2.updOwn hi hp (l4.set pp.rep m))
      | _ => cases e4
  · exact q.elim
/-- two values for two names, at once or by a tuple -/
abbrev tP1 (i j : Nat) (ta tb : TE) : TS := fun D σ H => tCons ta (tCons tb tNil) σ H fun vs H1 => ∃ v w, vs = [v, w] ∧ D.nx ((σ.set i (some v)).set j (some w)) H1
abbrev tP2 (K : PySem.W.Frag) (i j : Nat) (ta tb : TE) : TS := tAsg (tTup (tCons ta (tCons tb tNil))) (gAsg K [i, j])
def PrS (X : Cx) (s : Stmt) (i j : Nat) (a b : Expr) : Prop := (∀ ta tb, PE X a ta → PE X b tb → PS X s (tP1 i j ta tb)) ∨ (∀ ta tb, PE X a ta → PE X b tb → PS X s (tP2 X.K i j ta tb))
theorem p2_end {K : PySem.W.Frag} {D : Ends} {σ : St} {H1 : Hp} {i j : Nat} {v w : V} (q : ∀ p, H1 p = none → D.nx ((σ.set i (some v)).set j (some w)) (upd H1 p (.tup [v, w]))) : ([v, w] : List V).length ≤ sizeLine ∧ ∀ p, H1 p = none → gAsg K [i, j] (.ref p) σ (upd H1 p (.tup [v, w])) D.nx :=
  ⟨by rw [sizeLine_eq]; simp, fun p hp => .inl ⟨p, [v, w], rfl, .inl (.inl upd_same), rfl, _, _, rfl, _, _, rfl, rfl, q p hp⟩⟩
theorem postNx2 {W : Wx} {D : Ends} {ρ' : En} {σ' : St} {vs : List V} (h : postS K fr g ω H W (.nx ρ' st') D) (r : Rel K g ω ρ' st' σ' H) : D.nx σ' H ∧ ∀ p, H p = none → D.nx σ' (upd H p (.tup vs)) :=
  ⟨postNx h r, fun p hp => h σ' _ ω (Grow.upd hp).ext (r.grow (Grow.upd hp))⟩
theorem set_notOwn {i j : Nat} {p : Addr} {t : PV} {v : V} (rel : Rel K g ω ρ st σ H) (hn : ∀ (j : Nat) (u : PV), ρ[j]? = some (Slot.own u) → σ[j]? ≠ some (some (V.ref p))) : ∀ (j : Nat) (u : PV), (ρ.set i (.val t))[j]? = some (Slot.own u) → (σ.set i (some v))[j]? ≠ some (some (V.ref p)) := fun j u hj z => by
  rcases get_set hj with ⟨rfl, e⟩ | ⟨ne, e⟩
  · cases e
  · rw [List.getElem?_set_ne ne] at z
    exact hn j u e z
theorem ss_parVO {f f' : En → Cel → R PV} {i j : Nat} (hps : PrS X s i j a b) (ha : PE X a (tv X.K false W f)) (hb : PE X b (tvF X.K W f')) :
    PS X s (ts X.K fr W fun ρ st => (f ρ st).then ρ fun x st => (f' ρ st).then ρ fun y st => (match lstOf y with
      | some ys => if i = j then .bad else .nx ((ρ.set i (.val x)).set j (.own (.lst ys))) st
      | none => .bad)) := by
  have key : ∀ {D : Ends} {σ : St} {g : Gh} {ω : Wd} {ρ : En} {st : Cel} {H H1 H2 : Hp} {ω1 ω2 : Wd} {st1 st2 : Cel} {t u : PV} {x y : V}, Rel X.K g ω ρ st σ H → ExtE ω H ω1 H1 → Rel X.K g ω1 ρ st1 σ H1 → RepM X.K false ω1 H1 x t → ExtE ω1 H1 ω2 H2 → Rel X.K g ω2 ρ st2 σ H2 → FreshP X.K H1 ω2 H2 y u →
      postS X.K fr g ω2 H2 W (match lstOf u with
        | some ys => if i = j then .bad else .nx ((ρ.set i (.val t)).set j (.own (.lst ys))) st2
        | none => .bad) D → D.nx ((σ.set i (some x)).set j (some y)) H2 ∧ ∀ p, H2 p = none → D.nx ((σ.set i (some x)).set j (some y)) (upd H2 p (.tup [x, y])) := by
    intro D σ g ω ρ st H H1 H2 ω1 ω2 st1 st2 t u x y rel x1 rel1 p x2 rel2 p2 q2
    obtain ⟨p0, vs, us, rfl, rfl, h1, h2, h3, h4, h5⟩ := p2
    have pp := (p.extE x2 rel1.cells).rep
    by_cases hij : i = j
    · change postS _ _ _ _ _ _ (if i = j then .bad else _) _ at q2
      rw [if_pos hij] at q2; exact q2.elim
    · change postS _ _ _ _ _ _ (if i = j then .bad else _) _ at q2
      rw [if_neg hij] at q2
      refine postNx2 q2 ?_
      exact (rel2.set i pp).setOwn j h2 h3 h4 (rel1.none0 h1) h5 (set_notOwn (j := j) rel2 fun k w hk => fresh_notOwn rel1 h1 k w hk)
  rcases hps with hps | hps
  · refine wPS (hps _ _ ha hb) fun D σ H ⟨g, ω, ρ, st, rel, q⟩ => ?_
    refine (thenG (P := RepM X.K false) (f := f) rel q).mono fun x H1 ⟨ω1, st1, t, x1, rel1, p, q⟩ => ?_
    refine (thenF (f := f') rel1 q).mono fun y H2 ⟨ω2, st2, u, x2, rel2, p2, q2⟩ => ?_
    exact ⟨x, y, rfl, (key rel x1 rel1 p x2 rel2 p2 q2).1⟩
  · refine wPS (hps _ _ ha hb) fun D σ H ⟨g, ω, ρ, st, rel, q⟩ => ?_
    refine (thenG (P := RepM X.K false) (f := f) rel q).mono fun x H1 ⟨ω1, st1, t, x1, rel1, p, q⟩ => ?_
    refine (thenF (f := f') rel1 q).mono fun y H2 ⟨ω2, st2, u, x2, rel2, p2, q2⟩ => ?_
    exact p2_end (key rel x1 rel1 p x2 rel2 p2 q2).2
theorem ss_parOV {f f' : En → Cel → R PV} {i j : Nat} (hps : PrS X s i j a b) (ha : PE X a (tvF X.K W f)) (hb : PE X b (tv X.K false W f')) :
    PS X s (ts X.K fr W fun ρ st => (f ρ st).then ρ fun x st => (match lstOf x with
      | some xs => (f' ρ st).then ρ fun y st => if i = j then .bad else .nx ((ρ.set i (.own (.lst xs))).set j (.val y)) st
      | none => .bad)) := by
  have key : ∀ {D : Ends} {σ : St} {g : Gh} {ω : Wd} {ρ : En} {st : Cel} {H H1 H2 : Hp} {ω1 ω2 : Wd} {st1 st2 : Cel} {xs : List PV} {u : PV} {x y : V}, Rel X.K g ω ρ st σ H → Rel X.K g ω1 ρ st1 σ H1 → FreshP X.K H ω1 H1 x (.lst xs) → ExtE ω1 H1 ω2 H2 → Rel X.K g ω2 ρ st2 σ H2 → RepM X.K false ω2 H2 y u →
      postS X.K fr g ω2 H2 W (if i = j then .bad else .nx ((ρ.set i (.own (.lst xs))).set j (.val u)) st2) D → D.nx ((σ.set i (some x)).set j (some y)) H2 ∧ ∀ p, H2 p = none → D.nx ((σ.set i (some x)).set j (some y)) (upd H2 p (.tup [x, y])) := by
    intro D σ g ω ρ st H H1 H2 ω1 ω2 st1 st2 xs u x y rel rel1 p x2 rel2 p2 q2
    obtain ⟨p0, vs, us, rfl, e0, h1, h2, h3, h4, h5⟩ := p
    cases e0
    obtain ⟨l1, l2, l3, l4⟩ := own_keep x2 rel1.cells h2 h3 h4 h5
    by_cases hij : i = j
    · rw [if_pos hij] at q2; exact q2.elim
    · rw [if_neg hij] at q2
      refine postNx2 q2 ?_
      exact (rel2.setOwn i l1 l2 l3 (rel.none0 h1) l4 fun k w hk => fresh_notOwn rel h1 k w hk).set j p2.rep
  rcases hps with hps | hps
  · refine wPS (hps _ _ ha hb) fun D σ H ⟨g, ω, ρ, st, rel, q⟩ => ?_
    refine (thenF (f := f) rel q).mono fun x H1 ⟨ω1, st1, t, x1, rel1, p, q⟩ => ?_
    obtain ⟨p0, vs, us, rfl, rfl, hh⟩ := p
    refine (thenG (P := RepM X.K false) (f := f') rel1 q).mono fun y H2 ⟨ω2, st2, u, x2, rel2, p2, q2⟩ => ?_
    exact ⟨.ref p0, y, rfl, (key rel rel1 ⟨p0, vs, us, rfl, rfl, hh⟩ x2 rel2 p2 q2).1⟩
  · refine wPS (hps _ _ ha hb) fun D σ H ⟨g, ω, ρ, st, rel, q⟩ => ?_
    refine (thenF (f := f) rel q).mono fun x H1 ⟨ω1, st1, t, x1, rel1, p, q⟩ => ?_
    obtain ⟨p0, vs, us, rfl, rfl, hh⟩ := p
    refine (thenG (P := RepM X.K false) (f := f') rel1 q).mono fun y H2 ⟨ω2, st2, u, x2, rel2, p2, q2⟩ => ?_
    exact p2_end (key rel rel1 ⟨p0, vs, us, rfl, rfl, hh⟩ x2 rel2 p2 q2).2
end
end Ev
namespace Ev
open PySem L2
/-! ### views of statements -/
def asAsg : Stmt → Option (Expr × Expr × Pos)
  | .Assign [t] v p => some (t, v, p)
  | _ => none
def asExp : Stmt → Option (Expr × Pos)
  | .Expr v p => some (v, p)
  | _ => none
def asIfS : Stmt → Option (Expr × List Stmt × List Stmt)
  | .If c a b _ => some (c, a, b)
  | _ => none
def asForS : Stmt → Option (Expr × Expr × List Stmt)
  | .For t i b [] _ => some (t, i, b)
  | _ => none
def asWhl : Stmt → Option (Expr × List Stmt)
  | .While c b [] _ => some (c, b)
  | _ => none
def asRet : Stmt → Option Expr
  | .Return (some v) _ => some v
  | _ => none
def kindS : Stmt → Nat
  | .Pass _ => 1
  | .Break _ => 2
  | .Continue _ => 3
  | .Return none _ => 4
  | _ => 0
section
variable {s : Stmt}
theorem asAsg_eq {t v : Expr} {p : Pos} (h : asAsg s = some (t, v, p)) : s = .Assign [t] v p := by
  unfold asAsg at h
  split at h
  · cases h; rfl
  · cases h
theorem asExp_eq {v : Expr} {p : Pos} (h : asExp s = some (v, p)) : s = .Expr v p := by
  unfold asExp at h
  split at h
  · cases h; rfl
  · cases h
theorem asIfS_eq {c : Expr} {a b : List Stmt} (h : asIfS s = some (c, a, b)) : ∃ p, s = .If c a b p := by
  unfold asIfS at h
  split at h
  · cases h; exact ⟨_, rfl⟩
  · cases h
theorem asForS_eq {t i : Expr} {b : List Stmt} (h : asForS s = some (t, i, b)) : ∃ p, s = .For t i b [] p := by
  unfold asForS at h
  split at h
  · cases h; exact ⟨_, rfl⟩
  · cases h
theorem asWhl_eq {c : Expr} {b : List Stmt} (h : asWhl s = some (c, b)) : ∃ p, s = .While c b [] p := by
  unfold asWhl at h
  split at h
  · cases h; exact ⟨_, rfl⟩
  · cases h
theorem asRet_eq {v : Expr} (h : asRet s = some v) : ∃ p, s = .Return (some v) p := by
  unfold asRet at h
  split at h
  · cases h; exact ⟨_, rfl⟩
  · cases h
theorem kindS_1 (h : kindS s = 1) : ∃ p, s = .Pass p := by
  unfold kindS at h
  split at h <;> first | exact ⟨_, rfl⟩ | cases h
theorem kindS_2 (h : kindS s = 2) : ∃ p, s = .Break p := by
  unfold kindS at h
  split at h <;> first | exact ⟨_, rfl⟩ | cases h
theorem kindS_3 (h : kindS s = 3) : ∃ p, s = .Continue p := by
  unfold kindS at h
  split at h <;> first | exact ⟨_, rfl⟩ | cases h
theorem kindS_4 (h : kindS s = 4) : ∃ p, s = .Return none p := by
  unfold kindS at h
  split at h <;> first | exact ⟨_, rfl⟩ | cases h
end
/-- x.name() and x.name(a, b), on one line -/
def asMeth0 : Expr → Option (Expr × Str)
  | .Call (.Attribute o n ap) [] [] cp => if ap.endLine == cp.line then some (o, n) else none
  | _ => none
def asMeth2 : Expr → Option (Expr × Str × Expr × Expr)
  | .Call (.Attribute o n ap) [x, y] [] cp => if ap.endLine == cp.line then some (o, n, x, y) else none
  | _ => none
theorem asMeth0_eq {e o : Expr} {n : Str} (h : asMeth0 e = some (o, n)) : ∃ ap cp, e = .Call (.Attribute o n ap) [] [] cp ∧ (ap.endLine == cp.line) = true := by
  unfold asMeth0 at h
  split at h
  · split at h
    · rename_i hz; cases h; exact ⟨_, _, rfl, hz⟩
    · cases h
  · cases h
theorem asMeth2_eq {e o x y : Expr} {n : Str} (h : asMeth2 e = some (o, n, x, y)) : ∃ ap cp, e = .Call (.Attribute o n ap) [x, y] [] cp ∧ (ap.endLine == cp.line) = true := by
  unfold asMeth2 at h
  split at h
  · split at h
    · rename_i hz; cases h; exact ⟨_, _, rfl, hz⟩
    · cases h
  · cases h
/-! ### what an assignment asks -/
def compScope : Expr → Option Scope
  | .ListComp _ _ s _ => some s
  | .SetComp _ _ s _ => some s
  | .DictComp _ _ _ s _ => some s
  | _ => none
/-- name = [..]: the name is stored within the comprehension's frame -/
def swCond (sc : Scope) (t v : Expr) : Bool := match compScope v, t with
  | some s, .Name x p => sc.kind == .function && sc.names.lookup x == some .local && p.line == v.pos.line && !(s.names.any fun (n, k) => n == x && (k == .local || k == .cell))
  | _, _ => false
def isFnS (sc : Scope) : Bool := decide (sc.kind = .function)
theorem blockKind_of {env : Env} (h : isFnS env.scope = true) : env.blockKind = .function := by
  unfold isFnS at h
  rw [decide_eq_true_eq] at h
  unfold Env.blockKind
  rw [h]
  rfl
theorem sw_eq {t v : Expr} {l : Nat} {env : Env} (h : isFnS env.scope = true) : swapsWithSole [t] v l env = pure (swCond env.scope t v) := by
  have hb := blockKind_of h
  have hk : (env.scope.kind == ScopeKind.function) = true := by
    unfold isFnS at h
    rw [decide_eq_true_eq] at h
    rw [h]; rfl
  unfold swapsWithSole swapsWith swCond
  cases v <;> first
    | rfl
    | (cases t <;> first
        | rfl
        | (simp only [compScope, hb, hk, Bool.true_and]; rfl))
/-- the targets' names of a, b = x, y, where the stores are swapped -/
def swNames (sc : Scope) (ts vs : List Expr) : Option (List Str) :=
  if (!(ts.length == 2 || ts.length == 3) || vs.length != ts.length || sc.kind != .function) = true then none
  else if (vs.any fun | .Starred .. => true | _ => false) = true then none
  else
    let line := (ts.head?.map (·.pos.line)).getD 0
    let names := ts.filterMap fun
      | .Name id pos => if sc.names.lookup id == some .local && pos.line == line then some id else none
      | _ => none
    if (names.length != ts.length || names.eraseDups.length != names.length) = true then none
    else if (vs.all (foldedForSure 8)) = true then none
    else some names
def swOk (vs : List Expr) : Bool := vs.all (foldedForSure 8) || !vs.all (constantsAlone 8)
theorem sws_eq {ts vs : List Expr} {k k2 : Nat} {p p2 : Pos} {env : Env} (h : isFnS env.scope = true) (hv : swOk vs = true) : swappedStores [.Tuple ts k p] (.Tuple vs k2 p2) env = pure (swNames env.scope ts vs) := by
  have hb := blockKind_of h
  have hk : env.scope.kind = .function := by unfold isFnS at h; rw [decide_eq_true_eq] at h; exact h
  unfold swappedStores swNames
  simp only [hb, hk]
  split
  · rfl
  · split
    · rename_i h2
      exact congrArg pure (if_pos h2).symm
    · rename_i h2
      refine Eq.trans ?_ (congrArg pure (if_neg h2).symm)
      split
      · rename_i h3
        exact congrArg pure (if_pos h3).symm
      · rename_i h3
        refine Eq.trans ?_ (congrArg pure (if_neg h3).symm)
        split
        · rfl
        · rename_i h4
          have h5 : vs.all (constantsAlone 8) = false := by
            unfold swOk at hv
            rw [Bool.or_eq_true] at hv
            rcases hv with hv | hv
            · exact absurd hv h4
            · simpa using hv
          rw [h5]
          rfl
theorem sws_none {t v : Expr} {env : Env} (h : asTup t = none ∨ asTup v = none) (ht : asLst t = none) : swappedStores [t] v env = pure none := by
  unfold swappedStores
  cases t <;> first
    | rfl
    | (simp [asLst] at ht; done)
    | (rcases h with h | h
       · simp [asTup] at h
       · cases v <;> first | rfl | (simp [asTup] at h; done))
/-- how an assignment goes: none; the comprehension's way; or it isn't told -/
inductive AsW where
  | plain | lc | no
def asgWay (sc : Scope) (t v : Expr) : AsW :=
  if !isFnS sc || (asLst t).isSome then .no
  else if swCond sc t v then .lc
  else match asTup t, asTup v with
    | some ts, some vs => if swOk vs && (swNames sc ts vs).isNone then .plain else .no
    | _, _ => .plain
end Ev
namespace Ev
open PySem L2
def isNew : C → Bool
  | .lst _ => true
  | .listOf _ => true
  | .comp .. => true
  | .comp2 .. => true
  | .rev _ => true
  | .cat .. => true
  | _ => false
def asgLc : AsW → Bool
  | .lc => true
  | _ => false
def asgPl : AsW → Bool
  | .plain => true
  | _ => false
section
variable (S : Sx)
/-- a new list: made here, or handed back by a def that makes one -/
def chkN (sc : Scope) (fn : Str → Bool) (c : C) (e : Expr) : Bool := match c with
  | .call f es => (match asCall e with
    | some (x, xs) => S.fr f && decide (x = S.nm f) && S.kn f && glB sc x && chkA S sc fn es xs && starOk xs
    | none => false)
  | c => isNew c && chkE S sc fn (.v false) c e
/-- all names, local, in one line -/
def chkPar (N : List Str) (sc : Scope) : List Nat → List Expr → Bool
  | [], [] => true
  | i :: is, e :: es => (match asName e with
    | some x => decide (N[i]? = some x) && decide (sc.names.lookup x = some .local)
    | none => false) && chkPar N sc is es
  | _, _ => false
/-- names, then a starred one -/
def chkUs (N : List Str) (sc : Scope) (fn : Str → Bool) : List Nat → Nat → List Expr → Bool
  | [], j, [e] => (match asStar e with
    | some x => chkTg1 N sc fn j x
    | none => false)
  | i :: is, j, e :: es => chkTg1 N sc fn i e && chkUs N sc fn is j es
  | _, _, _ => false
/-- how a pair is stored -/
def chkPr (N : List Str) (sc : Scope) (fn : Str → Bool) (i j : Nat) (t v : Expr) : Bool := (chkTg N sc fn [i, j] t && asgPl (asgWay sc t v)) || (match asTup t, asTup v with
  | some ts, some vs => isFnS sc && swOk vs && chkPar N sc [i, j] ts && decide (swNames sc ts vs = some (ts.filterMap asName))
  | _, _ => false)
mutual
def chkS (fr : Bool) (sc : Scope) (fn : Str → Bool) : Ev.S → Stmt → Bool
  | .asg tg e, s => match asAsg s with
    | some (t, v, _) => chkTg S.N sc fn tg t && chkE S sc fn (.v false) e v && (asgPl (asgWay sc t v) || (asgLc (asgWay sc t v) && isNew e && ((asLc v).isSome || (asLc2 v).isSome) && decide (tg.length = 1)))
    | none => false
  | .par is es, s => match asAsg s with
    | some (t, v, _) => (match asTup t, asTup v with
      | some ts, some vs => isFnS sc && swOk vs && decide (is.Nodup) && chkPar S.N sc is ts && chkA S sc fn es vs && decide (swNames sc ts vs = some (ts.filterMap asName)) && decide (is.length = 2 ∨ is.length = 3) && decide (vs.length = is.length) && noStars vs
      | _, _ => false)
    | none => false
  | .asgO i e, s => match asAsg s with
    | some (t, v, _) => chkTg1 S.N sc fn i t && chkN S sc fn e v && (asgPl (asgWay sc t v) || (asgLc (asgWay sc t v) && isNew e && ((asLc v).isSome || (asLc2 v).isSome)))
    | none => false
  | .asgC i e, s => match asAsg s with
    | some (t, v, _) => chkTg1 S.N sc fn i t && chkN S sc fn e v && asgPl (asgWay sc t v)
    | none => false
  | .setI a i e, s => match asAsg s with
    | some (t, v, _) => (match asSub t with
      | some (o, j) => (asSlice j).isNone && chkE S sc fn (.v false) e v && chkE S sc fn (.v false) a o && chkE S sc fn (.v false) i j && asgPl (asgWay sc t v)
      | none => false)
    | none => false
  | .app i e, s => match asExp s with
    | some (v, _) => (match asMeth v with
      | some (o, n, x) => decide (n = ("append" : Str)) && isNm S.N sc i o && (asStar x).isNone && chkE S sc fn (.v false) e x
      | none => false)
    | none => false
  | .ext i e, s => match asExp s with
    | some (v, _) => (match asMeth v with
      | some (o, n, x) => decide (n = ("extend" : Str)) && isNm S.N sc i o && (asStar x).isNone && chkE S sc fn (.v false) e x
      | none => false)
    | none => false
  | .if_ t a b, s => match asIfS s with
    | some (c, x, y) => chkT S sc fn t c && chkSs fr sc fn a x && chkSs fr sc fn b y
    | none => false
  | .for_ tg it b, s => match asForS s with
    | some (t, i, x) => chkTg S.N sc fn tg t && chkE S sc fn (.i false (asTup t).isSome) it i && !isSet i && chkSs fr sc fn b x
    | none => false
  | .while_ t b, s => match asWhl s with
    | some (c, x) => chkT S sc fn t c && chkSs fr sc fn b x
    | none => false
  | .ret e, s => match asRet s with
    | some v => if fr then chkN S sc fn e v else chkE S sc fn (.v false) e v
    | none => false
  | .expr e, s => match asExp s with
    | some (v, _) => chkE S sc fn (.v true) e v && (compScope v).isNone
    | none => false
  | .pass, s => decide (kindS s = 1)
  | .brk, s => decide (kindS s = 2)
  | .cnt, s => decide (kindS s = 3)
  | .frz _, _ => false
  | .ustar is j e, s => match asAsg s with
    | some (t, v, _) => (match asTup t with
      | some es => chkUs S.N sc fn is j es && chkE S sc fn (.v false) e v && asgPl (asgWay sc t v)
      | none => false)
    | none => false
  | .popA tg i, s => match asAsg s with
    | some (t, v, _) => (match asMeth0 v with
      | some (o, n) => decide (n = ("pop" : Str)) && isNm S.N sc i o && chkTg S.N sc fn tg t && asgPl (asgWay sc t v)
      | none => false)
    | none => false
  | .popK i k, s => match asExp s with
    | some (v, _) => (match asMeth v with
      | some (o, n, x) => decide (n = ("pop" : Str)) && isNm S.N sc i o && (asStar x).isNone && chkE S sc fn (.v false) k x
      | none => false)
    | none => false
  | .insO i a e, s => match asExp s with
    | some (v, _) => (match asMeth2 v with
      | some (o, n, x, y) => decide (n = ("insert" : Str)) && isNm S.N sc i o && (asStar x).isNone && (asStar y).isNone && chkE S sc fn (.v false) a x && chkE S sc fn (.v false) e y
      | none => false)
    | none => false
  | .setO i a e, s => match asAsg s with
    | some (t, v, _) => (match asSub t with
      | some (o, j) => (asSlice j).isNone && isNm S.N sc i o && chkE S sc fn (.v false) e v && chkE S sc fn (.v false) a j && asgPl (asgWay sc t v)
      | none => false)
    | none => false
  | .never, _ => true
  | .parOV i j a b, s => match asAsg s with
    | some (t, v, _) => (match asTup t, asTup v with
      | some _, some [x, y] => chkN S sc fn a x && chkE S sc fn (.v false) b y && noStars [x, y] && decide (i ≠ j) && chkPr S.N sc fn i j t v
      | _, _ => false)
    | none => false
  | .parVO i j a b, s => match asAsg s with
    | some (t, v, _) => (match asTup t, asTup v with
      | some _, some [x, y] => chkE S sc fn (.v false) a x && chkN S sc fn b y && noStars [x, y] && decide (i ≠ j) && chkPr S.N sc fn i j t v
      | _, _ => false)
    | none => false
def chkSs (fr : Bool) (sc : Scope) (fn : Str → Bool) : Ss → List Stmt → Bool
  | .nil, [] => true
  | .cons (.frz _) r, ss => chkSs fr sc fn r ss
  | .cons c r, s :: ss => chkS fr sc fn c s && chkSs fr sc fn r ss
  | _, _ => false
end
end
section
variable {p : Pr} {k : Nat} {S : Sx} {Φ : Nat → List PV → Cel → R PV} {sc : Scope} {fn : Str → Bool} {X : Cx} {W : Wx}
theorem soundNN (L : Lib p k S Φ) (G : Good p k S.N sc fn X) {c : C} {e : Expr} (h : chkN S sc fn c e = true) : PE X e (tvF X.K W (ev Φ c)) := by
  have other : isNew c = true → chkE S sc fn (.v false) c e = true → PE X e (tvF X.K W (ev Φ c)) := fun h1 h2 => soundN L G h2 (by cases c <;> first | rfl | cases h1)
  cases c with
  | call f es =>
    have h' : (match asCall e with
      | some (x, xs) => S.fr f && decide (x = S.nm f) && S.kn f && glB sc x && chkA S sc fn es xs && starOk xs
      | none => false) = true := h
    cases q : asCall e with
    | none => rw [q] at h'; cases h'
    | some u =>
      obtain ⟨x, xs⟩ := u
      rw [q] at h'
      simp only [Bool.and_eq_true, decide_eq_true_eq] at h'
      obtain ⟨⟨⟨⟨⟨h0, h1⟩, h2⟩, h3⟩, h4⟩, h5⟩ := h'
      exact (G.call L q h1 h2 h3 h5 (fun z => by subst z; cases es <;> first | rfl | exact Bool.noConfusion (show false = true from h4)) (soundA L es G h4)).2 h0
  | _ =>
    first
    | (unfold chkN at h
       rw [Bool.and_eq_true] at h
       exact other h.1 h.2)
theorem chkN_E {c : C} {e : Expr} (hn : isNew c = true) (h : chkN S sc fn c e = true) : chkE S sc fn (.v false) c e = true := by
  cases c <;> first
    | (cases hn; done)
    | (unfold chkN at h; rw [Bool.and_eq_true] at h; exact h.2)
theorem Good.pl (G : Good p k S.N sc fn X) {t v : Expr} {pos : Pos} (hw : asgPl (asgWay sc t v) = true) : swapsWithSole [t] v pos.line X.env = pure false ∧ swappedStores [t] v X.env = pure none := by
  unfold asgWay at hw
  split at hw
  · cases hw
  · rename_i h1
    simp only [Bool.or_eq_true, Bool.not_eq_true', not_or, Bool.not_eq_false, Option.isSome_eq_false_iff, Bool.not_eq_true] at h1
    have hf : isFnS X.env.scope = true := by rw [G.sc]; exact h1.1
    split at hw
    · cases hw
    · rename_i h2
      refine ⟨by rw [sw_eq hf, G.sc]; simp only [Bool.not_eq_true] at h2; rw [h2], ?_⟩
      have hl : asLst t = none := by simpa using h1.2
      split at hw
      · rename_i ts vs q1 q2
        obtain ⟨_, _, rfl⟩ := asTup_eq q1
        obtain ⟨_, _, rfl⟩ := asTup_eq q2
        split at hw
        · rename_i h3
          rw [Bool.and_eq_true, Option.isNone_iff_eq_none] at h3
          rw [sws_eq hf h3.1, G.sc, h3.2]
        · cases hw
      · rename_i q
        refine sws_none ?_ hl
        cases q1 : asTup t with
        | none => exact .inl rfl
        | some ts =>
          cases q2 : asTup v with
          | none => exact .inr rfl
          | some vs => exact absurd q2 (q ts vs q1)
theorem tgE_plain {tg : List Nat} {t : Expr} {env : Env} (h : chkTg S.N sc fn tg t = true) : asStar t = none := by
  unfold chkTg at h
  split at h
  · exact tg1_star h
  · cases q : asTup t with
    | none => rw [q] at h; cases h
    | some es => obtain ⟨_, _, rfl⟩ := asTup_eq q; rfl
theorem ae1 {t : Expr} {env : Env} (h : asStar t = none) : (assignEach [t] env).map (·.2) = [assign t env] := by
  rw [assignEach_plain h]; rfl
/-- name = [..] -/
theorem Good.lc (L : Lib p k S Φ) (G : Good p k S.N sc fn X) {i : Nat} {t v : Expr} {pos : Pos} {c : C} {m : Md} (hl : asgLc (asgWay sc t v) = true) (hn : isNew c = true) (hv : (asLc v).isSome = true) (ht : chkTg1 S.N sc fn i t = true) (hc : chkE S sc fn m c v = true) :
    ∃ T : TE, PS X (.Assign [t] v pos) (tAsg T (gName i)) ∧ ∀ σ H Q, tvF X.K W (ev Φ c) σ H Q → T σ H Q := by
  obtain ⟨⟨x, tg, it, fs, s⟩, q⟩ := Option.isSome_iff_exists.mp hv
  obtain ⟨pp, rfl⟩ := asLc_eq q
  unfold asgWay at hl
  split at hl
  · cases hl
  · rename_i h1
    simp only [Bool.or_eq_true, Bool.not_eq_true', not_or, Bool.not_eq_false, Bool.not_eq_true] at h1
    have hf : isFnS X.env.scope = true := by rw [G.sc]; exact h1.1
    split at hl
    · rename_i h2
      cases c with
      | comp elt tgs itc ifs own =>
        unfold chkTg1 at ht
        cases qn : asName t with
        | none => rw [qn] at ht; cases ht
        | some y =>
          rw [qn] at ht
          obtain ⟨yp, rfl⟩ := asName_eq qn
          simp only [Bool.and_eq_true, decide_eq_true_eq] at ht
          have hyl : sc.names.lookup y = some .local := by
            unfold swCond compScope at h2
            simp only [Bool.and_eq_true, beq_iff_eq] at h2
            exact h2.1.1.2
          have hsw : swapsWith (.ListComp x [⟨tg, it, fs, 0⟩] s pp) (some (.Name y yp)) pos.line X.env = pure true := by
            have := sw_eq (t := .Name y yp) (v := .ListComp x [⟨tg, it, fs, 0⟩] s pp) (l := pos.line) hf
            rw [G.sc, h2] at this
            exact this
          rw [chkE, q] at hc
          simp only [Bool.and_eq_true, Bool.not_eq_true'] at hc
          obtain ⟨⟨⟨⟨⟨⟨q1, q2⟩, q3⟩, q4⟩, q5⟩, q6⟩, q7⟩ := hc
          have base := ps_setLc (X := X) (i := i) (y := y) (py := yp) (spos := pos) (elt := x) (tg := tg) (iter := it) (ifs := fs) (scope := s) (pos := pp) (own := own.map fun i => (S.N.getD i "", i)) (wi := ti X.K true W (ev Φ itc)) (g := gAsg X.K tgs) (tt := tvbb X.K W0 (evt Φ ifs)) (te := tv X.K false W0 (ev Φ elt)) G.calm (by rw [G.hN]; exact G.nd)
            (by rw [G.hN]; exact ht.1) (by rw [G.sc]; exact hyl) hsw
            (soundE (m := .i true (asTup tg).isSome) L itc G q4 tg (fun z => by
              cases q2 : asTup tg with
              | none => rw [q2] at z; cases z
              | some es => obtain ⟨kk, p2, rfl⟩ := asTup_eq q2; exact ⟨es, kk, p2, rfl⟩))
            (by rw [G.hN, G.sc]; exact blkOk_by q1)
            (fun s' H' C cl fp => (G.blk s' H' s C cl fp).tg q5)
            (fun s' H' C cl fp => soundF L ifs (G.blk s' H' s C cl fp) q6)
            (fun s' H' C cl fp => soundE (m := .v false) L elt (G.blk s' H' s C cl fp) q7)
            (fsi_of q3)
          rw [sub_own] at base
          exact ⟨_, base, comp_w fun j hj => by simpa using List.all_eq_true.mp q2 j hj⟩
      | lst es => rw [chkE] at hc; cases hc
      | listOf a => rw [chkE] at hc; cases hc
      | comp2 _ _ _ _ _ _ _ _ => rw [chkE] at hc; cases fs <;> exact Bool.noConfusion (show false = true from hc)
      | rev a => rw [chkE] at hc; cases hc
      | cat a b => rw [chkE] at hc; cases hc
      | _ => cases hn
    · split at hl
      · split at hl <;> cases hl
      · cases hl
theorem filterMap_asName : ∀ {is : List Nat} {es : List Expr} {N : List Str}, chkPar N sc is es = true → es.length = is.length
  | [], [], _, _ => rfl
  | i :: is, e :: es, N, h => by
    unfold chkPar at h
    rw [Bool.and_eq_true] at h
    simp [filterMap_asName h.2]
  | [], _ :: _, _, h => by cases h
  | _ :: _, [], _, h => by cases h
theorem chkPar_cons {i : Nat} {is : List Nat} {e : Expr} {es : List Expr} {N : List Str} (h : chkPar N sc (i :: is) (e :: es) = true) : (∃ x pp, e = .Name x pp ∧ N[i]? = some x ∧ sc.names.lookup x = some .local) ∧ chkPar N sc is es = true := by
  unfold chkPar at h
  rw [Bool.and_eq_true] at h
  refine ⟨?_, h.2⟩
  cases q : asName e with
  | none => rw [q] at h; cases h.1
  | some x =>
    rw [q] at h
    obtain ⟨pp, rfl⟩ := asName_eq q
    simp only [Bool.and_eq_true, decide_eq_true_eq] at h
    exact ⟨x, pp, rfl, h.1.1, h.1.2⟩
theorem Good.par (G : Good p k S.N sc fn X) {is : List Nat} {ts vs : List Expr} {kt kv : Nat} {pt pv pos : Pos} {f : En → Cel → R (List PV)} (hf : isFnS sc = true) (ho : swOk vs = true) (nd : is.Nodup) (hp : chkPar S.N sc is ts = true) (hsw : swNames sc ts vs = some (ts.filterMap asName)) (hl : is.length = 2 ∨ is.length = 3) (hv : vs.length = is.length) (ha : PA X vs (tvs X.K W f)) :
    PS X (.Assign [.Tuple ts kt pt] (.Tuple vs kv pv) pos) (fun D σ H => tvs X.K W f σ H fun ws H1 => ws.length = is.length ∧ D.nx (setS σ is ws) H1) := by
  have hf' : isFnS X.env.scope = true := by rw [G.sc]; exact hf
  have hw : swappedStores [.Tuple ts kt pt] (.Tuple vs kv pv) X.env = pure (some (ts.filterMap asName)) := by rw [sws_eq hf' ho, G.sc, hsw]
  have tl := filterMap_asName hp
  rcases hl with hl | hl
  · match is, ts, vs, hl, tl, hv with
    | [i, j], [a, b], [x, y], _, _, _ =>
      obtain ⟨⟨n1, p1, rfl, a1, b1⟩, hp2⟩ := chkPar_cons hp
      obtain ⟨⟨n2, p2, rfl, a2, b2⟩, _⟩ := chkPar_cons hp2
      refine wPS (ps_par G.calm (by rw [G.hN]; exact G.nd) (by rw [G.hN]; exact a1) (by rw [G.hN]; exact a2) (by simpa using nd) (by rw [G.sc]; exact b1) (by rw [G.sc]; exact b2) ha hw) fun D σ H h => ?_
      refine h.mono fun ws H1 ⟨hl, q⟩ => ?_
      match ws, hl, q with
      | [v, w], _, q => exact ⟨v, w, rfl, q⟩
  · match is, ts, vs, hl, tl, hv with
    | [i, j, l], [a, b, c], [x, y, z], _, _, _ =>
      obtain ⟨⟨n1, p1, rfl, a1, b1⟩, hp2⟩ := chkPar_cons hp
      obtain ⟨⟨n2, p2, rfl, a2, b2⟩, hp3⟩ := chkPar_cons hp2
      obtain ⟨⟨n3, p3, rfl, a3, b3⟩, _⟩ := chkPar_cons hp3
      simp only [List.nodup_cons, List.mem_cons, List.not_mem_nil, or_false, not_or] at nd
      refine wPS (ps_par3 G.calm (by rw [G.hN]; exact G.nd) (by rw [G.hN]; exact a1) (by rw [G.hN]; exact a2) (by rw [G.hN]; exact a3) nd.1.1 nd.1.2 nd.2.1 (by rw [G.sc]; exact b1) (by rw [G.sc]; exact b2) (by rw [G.sc]; exact b3) ha hw) fun D σ H h => ?_
      refine h.mono fun ws H1 ⟨hl, q⟩ => ?_
      match ws, hl, q with
      | [u, v, w], _, q => exact ⟨u, v, w, rfl, q⟩
theorem Good.lc2 (L : Lib p k S Φ) (G : Good p k S.N sc fn X) {i : Nat} {t v : Expr} {pos : Pos} {c : C} {m : Md} (hl : asgLc (asgWay sc t v) = true) (hn : isNew c = true) (hv : (asLc2 v).isSome = true) (ht : chkTg1 S.N sc fn i t = true) (hc : chkE S sc fn m c v = true) :
    ∃ T : TE, PS X (.Assign [t] v pos) (tAsg T (gName i)) ∧ ∀ σ H Q, tvF X.K W (ev Φ c) σ H Q → T σ H Q := by
  obtain ⟨⟨x, ⟨tg, it⟩, ⟨tg2, it2, fs⟩, s⟩, q⟩ := Option.isSome_iff_exists.mp hv
  obtain ⟨pp, rfl⟩ := asLc2_eq q
  unfold asgWay at hl
  split at hl
  · cases hl
  · rename_i h1
    simp only [Bool.or_eq_true, Bool.not_eq_true', not_or, Bool.not_eq_false, Bool.not_eq_true] at h1
    have hf : isFnS X.env.scope = true := by rw [G.sc]; exact h1.1
    split at hl
    · rename_i h2
      cases c with
      | comp2 elt tgs itc tgs2 itc2 ifs own own2 =>
        unfold chkTg1 at ht
        cases qn : asName t with
        | none => rw [qn] at ht; cases ht
        | some y =>
          rw [qn] at ht
          obtain ⟨yp, rfl⟩ := asName_eq qn
          simp only [Bool.and_eq_true, decide_eq_true_eq] at ht
          have hyl : sc.names.lookup y = some .local := by
            unfold swCond compScope at h2
            simp only [Bool.and_eq_true, beq_iff_eq] at h2
            exact h2.1.1.2
          have hsw : swapsWith (.ListComp x [⟨tg, it, [], 0⟩, ⟨tg2, it2, fs, 0⟩] s pp) (some (.Name y yp)) pos.line X.env = pure true := by
            have := sw_eq (t := .Name y yp) (v := .ListComp x [⟨tg, it, [], 0⟩, ⟨tg2, it2, fs, 0⟩] s pp) (l := pos.line) hf
            rw [G.sc, h2] at this
            exact this
          rw [chkE, q] at hc
          simp only [Bool.and_eq_true, Bool.not_eq_true'] at hc
          obtain ⟨⟨⟨⟨⟨⟨⟨⟨⟨⟨⟨q1, q2⟩, q2b⟩, q2c⟩, q3⟩, q3b⟩, q4⟩, q5⟩, q4b⟩, q5b⟩, q6⟩, q7⟩ := hc
          have tup : ∀ {t : Expr}, (asTup t).isSome = true → ∃ es kk p2, t = Expr.Tuple es kk p2 := fun {t} z => by
            cases q2 : asTup t with
            | none => rw [q2] at z; cases z
            | some es => obtain ⟨kk, p2, rfl⟩ := asTup_eq q2; exact ⟨es, kk, p2, rfl⟩
          have base := ps_setLc2 (X := X) (i := i) (y := y) (py := yp) (spos := pos) (elt := x) (tg := tg) (iter := it) (ifs := []) (tg1 := tg2) (iter1 := it2) (ifs1 := fs) (scope := s) (pos := pp) (own := own.map fun i => (S.N.getD i "", i)) (vs1 := own2) (wi := ti X.K true W (ev Φ itc)) (g := gAsg X.K tgs) (tt := tYes) (wi1 := ti X.K false W0 (ev Φ itc2)) (g1 := gAsg X.K tgs2) (tt1 := tvbb X.K W0 (evt Φ ifs)) (te := tv X.K false W0 (ev Φ elt)) G.calm (by rw [G.hN]; exact G.nd)
            (by rw [G.hN]; exact ht.1) (by rw [G.sc]; exact hyl) hsw
            (soundE (m := .i true (asTup tg).isSome) L itc G q4 tg tup)
            (by rw [G.hN, G.sc]; exact blkOk_by q1)
            (fun j hj => by rw [sub_own]; simpa using List.all_eq_true.mp q2c j hj)
            (fun s' H' C cl fp => (G.blk s' H' s C cl fp).tg q5)
            (fun s' H' C cl fp => pts_nil)
            (fun s' H' C cl fp => soundE (m := .i false (asTup tg2).isSome) L itc2 (G.blk s' H' s C cl fp) q4b tg2 tup)
            (fun s' H' C cl fp => (G.blk s' H' s C cl fp).tg q5b)
            (fun s' H' C cl fp => soundF L ifs (G.blk s' H' s C cl fp) q6)
            (fun s' H' C cl fp => soundE (m := .v false) L elt (G.blk s' H' s C cl fp) q7)
            (fsi_of q3) (fun env => fsi_of q3b)
          rw [sub_own] at base
          exact ⟨_, base, comp2_w (fun j hj => by simpa using List.all_eq_true.mp q2 j hj) (fun j hj => by simpa using List.all_eq_true.mp q2b j hj)⟩
      | lst es => rw [chkE] at hc; cases hc
      | listOf a => rw [chkE] at hc; cases hc
      | comp _ _ _ _ _ => rw [chkE] at hc; exact Bool.noConfusion (show false = true from hc)
      | rev a => rw [chkE] at hc; cases hc
      | cat a b => rw [chkE] at hc; cases hc
      | _ => cases hn
    · split at hl
      · split at hl <;> cases hl
      · cases hl
theorem Good.lcB (L : Lib p k S Φ) (G : Good p k S.N sc fn X) {i : Nat} {t v : Expr} {pos : Pos} {c : C} {m : Md} (hl : asgLc (asgWay sc t v) = true) (hn : isNew c = true) (hv : ((asLc v).isSome || (asLc2 v).isSome) = true) (ht : chkTg1 S.N sc fn i t = true) (hc : chkE S sc fn m c v = true) :
    ∃ T : TE, PS X (.Assign [t] v pos) (tAsg T (gName i)) ∧ ∀ σ H Q, tvF X.K W (ev Φ c) σ H Q → T σ H Q := by
  rw [Bool.or_eq_true] at hv
  exact hv.elim (fun z => G.lc L hl hn z ht hc) (fun z => G.lc2 L hl hn z ht hc)
/-- two names, two values -/
theorem Good.pair (G : Good p k S.N sc fn X) {i j : Nat} {ts : List Expr} {x y : Expr} {kt kv : Nat} {pt pv pos : Pos} (hn : noStars [x, y] = true) (nd : i ≠ j) (hpr : chkPr S.N sc fn i j (.Tuple ts kt pt) (.Tuple [x, y] kv pv) = true) :
    PrS X (.Assign [.Tuple ts kt pt] (.Tuple [x, y] kv pv) pos) i j x y := by
  simp only [noStars, List.all_cons, List.all_nil, Bool.and_true, Bool.and_eq_true, Option.isNone_iff_eq_none] at hn
  have pa : ∀ {ta tb : TE}, PE X x ta → PE X y tb → PA X [x, y] (tCons ta (tCons tb tNil)) := fun ha hb => pa_cons ha (pa_cons hb pa_nil (starEach_plain hn.2)) (starEach_plain hn.1)
  unfold chkPr at hpr
  rw [Bool.or_eq_true] at hpr
  rcases hpr with hpr | hpr
  · rw [Bool.and_eq_true] at hpr
    obtain ⟨w1, w2⟩ := G.pl (pos := pos) hpr.2
    exact .inr fun ta tb ha hb => ps_asg (pe_tup (pa ha hb)) (G.tg hpr.1) w1 w2 (ae1 rfl)
  · simp only [asTup, Bool.and_eq_true, decide_eq_true_eq] at hpr
    obtain ⟨⟨⟨hf, ho⟩, hp⟩, hsw⟩ := hpr
    have hf' : isFnS X.env.scope = true := by rw [G.sc]; exact hf
    have hw : swappedStores [.Tuple ts kt pt] (.Tuple [x, y] kv pv) X.env = pure (some (ts.filterMap asName)) := by rw [sws_eq hf' ho, G.sc, hsw]
    have tl := filterMap_asName hp
    match ts, tl with
    | [a, b], _ =>
      obtain ⟨⟨n1, p1, rfl, a1, b1⟩, hp2⟩ := chkPar_cons hp
      obtain ⟨⟨n2, p2, rfl, a2, b2⟩, _⟩ := chkPar_cons hp2
      exact .inl fun ta tb ha hb => ps_par G.calm (by rw [G.hN]; exact G.nd) (by rw [G.hN]; exact a1) (by rw [G.hN]; exact a2) nd (by rw [G.sc]; exact b1) (by rw [G.sc]; exact b2) (pa ha hb) hw
/-- x.append(e), x.extend(e) -/
theorem few_of {x : Expr} {cp : Pos} {env : Env} (h : asStar x = none) : ((backTo cp (starEach [x] env)).all (fun x => !x.1) && (backToKw cp (keywordEach [] env)).all (fun x => x.1.isSome)
      && decide (([x] : List Expr).length + ([] : List Keyword).length + (if ([] : List Keyword).isEmpty then 0 else 1) < 30)) = true := by
  rw [starEach_plain h]; rfl
theorem few_of2 {x y : Expr} {cp : Pos} {env : Env} (h : asStar x = none) (h2 : asStar y = none) : ((backTo cp (starEach [x, y] env)).all (fun x => !x.1) && (backToKw cp (keywordEach [] env)).all (fun x => x.1.isSome)
      && decide (([x, y] : List Expr).length + ([] : List Keyword).length + (if ([] : List Keyword).isEmpty then 0 else 1) < 30)) = true := by
  rw [starEach_plain h, starEach_plain h2]; rfl
theorem sws_expr {v : Expr} {l : Nat} {env : Env} (h : (compScope v).isNone = true) : swapsWith v none l env = pure false := by
  cases v <;> first | rfl | (simp [compScope] at h)
theorem base_of {o : Expr} {n : Str} {env : Env} {i : Nat} {sc : Scope} {N : List Str} (h : isNm N sc i o = true) : attributeBase o n env (eval o env) = eval o env := by
  obtain ⟨x, q, rfl, _⟩ := isNm_of (S := { nm := fun _ => "", fr := fun _ => false, kn := fun _ => false, N := N }) h
  rfl
theorem Good.ust (G : Good p k S.N sc fn X) {j : Nat} : ∀ {is : List Nat} {es : List Expr}, chkUs S.N sc fn is j es = true → PGs X es (gNames (is ++ [j])) ∧ (assignEach es X.env).length = is.length + 1 ∧ (assignEach es X.env).findIdx? (·.1) = some is.length
  | [], [e], h => by
    unfold chkUs at h
    cases q : asStar e with
    | none => rw [q] at h; cases h
    | some x =>
      rw [q] at h
      obtain ⟨pp, rfl⟩ := asStar_eq q
      have h1 : PGs X [x] (gNames [j]) := pgs_cons (G.tg1 h) pgs_nil (by rw [assignEach_plain (tg1_star h)]; rfl)
      refine ⟨⟨fun pins s σ H vs us Q I r w => ?_⟩, rfl, rfl⟩
      have := h1.run pins s σ H vs us Q I r w
      rw [assignEach_plain (tg1_star h)] at this
      exact this
  | i :: is, e :: es, h => by
    unfold chkUs at h
    rw [Bool.and_eq_true] at h
    obtain ⟨h1, h2, h3⟩ := Good.ust G h.2
    have hs := assignEach_plain (es := es) (env := X.env) (tg1_star h.1)
    refine ⟨pgs_cons (G.tg1 h.1) h1 (by rw [hs]; rfl), by rw [hs]; simp [h2], ?_⟩
    rw [hs, List.findIdx?_cons, h3]
    rfl
  | [], [], h => by cases h
  | [], _ :: _ :: _, h => by cases h
  | _ :: _, [], h => by cases h
mutual
theorem soundS (L : Lib p k S Φ) (F : Nat) (fr : Bool) : ∀ (c : Ev.S) {sc : Scope} {fn : Str → Bool} {X : Cx} {s : Stmt} {W : Wx}, Good p k S.N sc fn X → chkS S fr sc fn c s = true → PS X s (ts X.K fr W (evS Φ F c))
  | .asg tg e, sc, fn, X, s, W, G, h => by
    rw [chkS] at h
    cases q : asAsg s with
    | none => rw [q] at h; cases h
    | some u =>
      obtain ⟨t, v, pos⟩ := u
      rw [q] at h
      obtain rfl := asAsg_eq q
      rw [Bool.and_eq_true, Bool.and_eq_true, Bool.or_eq_true] at h
      rcases h.2 with h2 | h2
      · obtain ⟨w1, w2⟩ := G.pl (pos := pos) h2
        exact ss_asg (T := tv X.K false W (ev Φ e)) (ps_asg (soundE (m := .v false) L e G h.1.2) (G.tg h.1.1) w1 w2 (ae1 (tgE_plain (env := X.env) h.1.1))) (fun _ _ _ z => z)
      · rw [Bool.and_eq_true, Bool.and_eq_true, Bool.and_eq_true, decide_eq_true_eq] at h2
        match tg, h, h2 with
        | [i], h, h2 =>
          obtain ⟨T, pT, wT⟩ := G.lcB (W := W) (pos := pos) L h2.1.1.1 h2.1.1.2 h2.1.2 (show chkTg1 S.N sc fn i t = true from h.1.1) h.1.2
          exact ss_asg (tg := [i]) (T := T) pT (fun σ H Q z => wT σ H Q (v_of_F σ H Q z))
  | .par is es, sc, fn, X, s, W, G, h => by
    rw [chkS] at h
    cases q : asAsg s with
    | none => rw [q] at h; cases h
    | some u =>
      obtain ⟨t, v, pos⟩ := u
      rw [q] at h
      obtain rfl := asAsg_eq q
      dsimp only at h
      split at h
      · rename_i ts' vs q1 q2
        obtain ⟨kt, pt, rfl⟩ := asTup_eq q1
        obtain ⟨kv, pv, rfl⟩ := asTup_eq q2
        simp only [Bool.and_eq_true, decide_eq_true_eq] at h
        obtain ⟨⟨⟨⟨⟨⟨⟨⟨h1, h2⟩, h3⟩, h4⟩, h5⟩, h6⟩, h7⟩, h8⟩, h9⟩ := h
        exact ss_par (es := vs) (G.par h1 h2 h3 h4 h6 h7 h8 (soundA L es G h5))
      · cases h
  | .asgO i e, sc, fn, X, s, W, G, h => by
    rw [chkS] at h
    cases q : asAsg s with
    | none => rw [q] at h; cases h
    | some u =>
      obtain ⟨t, v, pos⟩ := u
      rw [q] at h
      obtain rfl := asAsg_eq q
      rw [Bool.and_eq_true, Bool.and_eq_true, Bool.or_eq_true] at h
      rcases h.2 with h2 | h2
      · obtain ⟨w1, w2⟩ := G.pl (pos := pos) h2
        exact ss_asgO (T := tvF X.K W (ev Φ e)) (ps_asg (soundNN L G h.1.2) (G.tg1 h.1.1) w1 w2 (ae1 (tg1_star h.1.1))) (fun _ _ _ z => z)
      · rw [Bool.and_eq_true, Bool.and_eq_true] at h2
        have hc : chkE S sc fn (.v false) e v = true := by
          exact chkN_E h2.1.2 h.1.2
        obtain ⟨T, pT, wT⟩ := G.lcB (W := W) (pos := pos) L h2.1.1 h2.1.2 h2.2 h.1.1 hc
        exact ss_asgO (T := T) pT wT
  | .asgC i e, sc, fn, X, s, W, G, h => by
    rw [chkS] at h
    cases q : asAsg s with
    | none => rw [q] at h; cases h
    | some u =>
      obtain ⟨t, v, pos⟩ := u
      rw [q] at h
      obtain rfl := asAsg_eq q
      rw [Bool.and_eq_true, Bool.and_eq_true] at h
      obtain ⟨w1, w2⟩ := G.pl (pos := pos) h.2
      exact ss_asgC (T := tvF X.K W (ev Φ e)) (ps_asg (soundNN L G h.1.2) (G.tg1 h.1.1) w1 w2 (ae1 (tg1_star h.1.1))) (fun _ _ _ z => z)
  | .setI a i e, sc, fn, X, s, W, G, h => by
    rw [chkS] at h
    cases q : asAsg s with
    | none => rw [q] at h; cases h
    | some u =>
      obtain ⟨t, v, pos⟩ := u
      rw [q] at h
      obtain rfl := asAsg_eq q
      dsimp only at h
      cases q2 : asSub t with
      | none => rw [q2] at h; cases h
      | some u2 =>
        obtain ⟨o, j⟩ := u2
        rw [q2] at h
        obtain ⟨pt, rfl⟩ := asSub_eq q2
        simp only [Bool.and_eq_true, Option.isNone_iff_eq_none] at h
        obtain ⟨⟨⟨⟨h0, h1⟩, h2⟩, h3⟩, h4⟩ := h
        obtain ⟨w1, w2⟩ := G.pl (pos := pos) h4
        refine ss_setI (fun te to ti he ho hi => ps_asg he (pg_sub ho hi set_list ?_) w1 w2 rfl) (soundE (m := .v false) L e G h1) (soundE (m := .v false) L a G h2) (soundE (m := .v false) L i G h3)
        intro v
        cases j <;> first | rfl | (simp [asSlice] at h0)
  | .app i e, sc, fn, X, s, W, G, h => by
    rw [chkS] at h
    cases q : asExp s with
    | none => rw [q] at h; cases h
    | some u =>
      obtain ⟨v, pos⟩ := u
      rw [q] at h
      obtain rfl := asExp_eq q
      dsimp only at h
      cases q2 : asMeth v with
      | none => rw [q2] at h; cases h
      | some u2 =>
        obtain ⟨o, n, x⟩ := u2
        rw [q2] at h
        obtain ⟨ap, cp, rfl, hl⟩ := asMeth_eq q2
        simp only [Bool.and_eq_true, decide_eq_true_eq, Option.isNone_iff_eq_none] at h
        obtain ⟨⟨⟨rfl, h1⟩, h2⟩, h3⟩ := h
        exact ss_app (fun te to he ho => ps_expr (pe_bm PySem.F.plainAttrs_list PySem.F.slot_list_append PySem.F.type_list_append mt_append ho (pa_cons he pa_nil (starEach_plain h2)) (base_of h1) (few_of h2) hl (starEach_plain h2) rfl) rfl) (G.var h1) (soundE (m := .v false) L e G h3)
  | .ext i e, sc, fn, X, s, W, G, h => by
    rw [chkS] at h
    cases q : asExp s with
    | none => rw [q] at h; cases h
    | some u =>
      obtain ⟨v, pos⟩ := u
      rw [q] at h
      obtain rfl := asExp_eq q
      dsimp only at h
      cases q2 : asMeth v with
      | none => rw [q2] at h; cases h
      | some u2 =>
        obtain ⟨o, n, x⟩ := u2
        rw [q2] at h
        obtain ⟨ap, cp, rfl, hl⟩ := asMeth_eq q2
        simp only [Bool.and_eq_true, decide_eq_true_eq, Option.isNone_iff_eq_none] at h
        obtain ⟨⟨⟨rfl, h1⟩, h2⟩, h3⟩ := h
        exact ss_ext (fun te to he ho => ps_expr (pe_bm PySem.F.plainAttrs_list PySem.F.slot_list_extend PySem.F.type_list_extend mt_extend ho (pa_cons he pa_nil (starEach_plain h2)) (base_of h1) (few_of h2) hl (starEach_plain h2) rfl) rfl) (G.var h1) (soundE (m := .v false) L e G h3)
  | .if_ t a b, sc, fn, X, s, W, G, h => by
    rw [chkS] at h
    cases q : asIfS s with
    | none => rw [q] at h; cases h
    | some u =>
      obtain ⟨c, x, y⟩ := u
      rw [q] at h
      obtain ⟨pos, rfl⟩ := asIfS_eq q
      simp only [Bool.and_eq_true] at h
      exact ss_if (fun tt ta tb hc ha hb => ps_if hc ha hb) (soundT L t G h.1.1) (soundSs L F fr a G h.1.2) (soundSs L F fr b G h.2)
  | .for_ tg it b, sc, fn, X, s, W, G, h => by
    rw [chkS] at h
    cases q : asForS s with
    | none => rw [q] at h; cases h
    | some u =>
      obtain ⟨t, i, x⟩ := u
      rw [q] at h
      obtain ⟨pos, rfl⟩ := asForS_eq q
      simp only [Bool.and_eq_true, Bool.not_eq_true'] at h
      exact ss_for (f := evSs Φ F b) (fun wi gt tb hi hg hb => ps_for G.pass G.calm hi hg hb (fsi_of h.1.2)) (soundE (m := .i false (asTup t).isSome) L it G h.1.1.2 t (fun z => by
        cases q2 : asTup t with
        | none => rw [q2] at z; cases z
        | some es => obtain ⟨kk, p2, rfl⟩ := asTup_eq q2; exact ⟨es, kk, p2, rfl⟩)) (G.tg h.1.1.1) (soundSs L F fr b G h.2)
  | .while_ t b, sc, fn, X, s, W, G, h => by
    rw [chkS] at h
    cases q : asWhl s with
    | none => rw [q] at h; cases h
    | some u =>
      obtain ⟨c, x⟩ := u
      rw [q] at h
      obtain ⟨pos, rfl⟩ := asWhl_eq q
      simp only [Bool.and_eq_true] at h
      exact ss_while (fun tt tb hc hb => ps_while G.pass hc hb) (soundT L t G h.1) (soundSs L F fr b G h.2)
  | .ret e, sc, fn, X, s, W, G, h => by
    rw [chkS] at h
    cases q : asRet s with
    | none => rw [q] at h; cases h
    | some v =>
      rw [q] at h
      obtain ⟨pos, rfl⟩ := asRet_eq q
      cases fr with
      | true => exact ss_retF (fun t ht => ps_ret ht) (soundNN L G h)
      | false => exact ss_ret (fun t ht => ps_ret ht) (soundE (m := .v false) L e G h)
  | .expr e, sc, fn, X, s, W, G, h => by
    rw [chkS] at h
    cases q : asExp s with
    | none => rw [q] at h; cases h
    | some u =>
      obtain ⟨v, pos⟩ := u
      rw [q] at h
      obtain rfl := asExp_eq q
      simp only [Bool.and_eq_true] at h
      exact ss_expr (fun t ht => ps_expr ht (sws_expr h.2)) (soundE (m := .v true) L e G h.1)
  | .pass, sc, fn, X, s, W, G, h => by
    rw [chkS, decide_eq_true_eq] at h
    obtain ⟨pos, rfl⟩ := kindS_1 h
    exact ss_pass ps_pass
  | .brk, sc, fn, X, s, W, G, h => by
    rw [chkS, decide_eq_true_eq] at h
    obtain ⟨pos, rfl⟩ := kindS_2 h
    exact ss_brk ps_break
  | .cnt, sc, fn, X, s, W, G, h => by
    rw [chkS, decide_eq_true_eq] at h
    obtain ⟨pos, rfl⟩ := kindS_3 h
    exact ss_cnt ps_continue
  | .frz _, sc, fn, X, s, W, G, h => Bool.noConfusion (show false = true from h)
  | .ustar is j e, sc, fn, X, s, W, G, h => by
    rw [chkS] at h
    cases q : asAsg s with
    | none => rw [q] at h; cases h
    | some u =>
      obtain ⟨t, v, pos⟩ := u
      rw [q] at h
      obtain rfl := asAsg_eq q
      dsimp only at h
      cases q2 : asTup t with
      | none => rw [q2] at h; cases h
      | some es =>
        rw [q2] at h
        dsimp only at h
        rw [Bool.and_eq_true, Bool.and_eq_true] at h
        obtain ⟨w1, w2⟩ := G.pl (pos := pos) h.2
        obtain ⟨kk, pp, rfl⟩ := asTup_eq q2
        obtain ⟨u1, u2, u3⟩ := G.ust h.1.1
        exact ss_ustar (ps_asg (soundE (m := .v false) L e G h.1.2) (pg_star G.calm u1 u2 u3) w1 w2 (ae1 rfl))
  | .popA tg i, sc, fn, X, s, W, G, h => by
    rw [chkS] at h
    cases q : asAsg s with
    | none => rw [q] at h; cases h
    | some u =>
      obtain ⟨t, v, pos⟩ := u
      rw [q] at h
      obtain rfl := asAsg_eq q
      dsimp only at h
      cases q2 : asMeth0 v with
      | none => rw [q2] at h; cases h
      | some u2 =>
        obtain ⟨o, n⟩ := u2
        rw [q2] at h
        obtain ⟨ap, cp, rfl, hl⟩ := asMeth0_eq q2
        simp only [Bool.and_eq_true, decide_eq_true_eq] at h
        obtain ⟨⟨⟨rfl, h1⟩, h2⟩, h3⟩ := h
        obtain ⟨w1, w2⟩ := G.pl (pos := pos) h3
        exact ss_popA (fun to ho => ps_asg (pe_bm0 PySem.F.plainAttrs_list PySem.F.slot_list_pop PySem.F.type_list_pop mt_pop ho (base_of h1) hl) (G.tg h2) w1 w2 (ae1 (tgE_plain (env := X.env) h2))) (G.var h1)
  | .popK i k, sc, fn, X, s, W, G, h => by
    rw [chkS] at h
    cases q : asExp s with
    | none => rw [q] at h; cases h
    | some u =>
      obtain ⟨v, pos⟩ := u
      rw [q] at h
      obtain rfl := asExp_eq q
      dsimp only at h
      cases q2 : asMeth v with
      | none => rw [q2] at h; cases h
      | some u2 =>
        obtain ⟨o, n, x⟩ := u2
        rw [q2] at h
        obtain ⟨ap, cp, rfl, hl⟩ := asMeth_eq q2
        simp only [Bool.and_eq_true, decide_eq_true_eq, Option.isNone_iff_eq_none] at h
        obtain ⟨⟨⟨rfl, h1⟩, h2⟩, h3⟩ := h
        exact ss_popK (fun te to he ho => ps_expr (pe_bm PySem.F.plainAttrs_list PySem.F.slot_list_pop PySem.F.type_list_pop mt_popAt ho (pa_cons he pa_nil (starEach_plain h2)) (base_of h1) (few_of h2) hl (starEach_plain h2) rfl) rfl) (G.var h1) (soundE (m := .v false) L k G h3)
  | .insO i a e, sc, fn, X, s, W, G, h => by
    rw [chkS] at h
    cases q : asExp s with
    | none => rw [q] at h; cases h
    | some u =>
      obtain ⟨v, pos⟩ := u
      rw [q] at h
      obtain rfl := asExp_eq q
      dsimp only at h
      cases q2 : asMeth2 v with
      | none => rw [q2] at h; cases h
      | some u2 =>
        obtain ⟨o, n, x, y⟩ := u2
        rw [q2] at h
        obtain ⟨ap, cp, rfl, hl⟩ := asMeth2_eq q2
        simp only [Bool.and_eq_true, decide_eq_true_eq, Option.isNone_iff_eq_none] at h
        obtain ⟨⟨⟨⟨⟨rfl, h1⟩, h2⟩, h3⟩, h4⟩, h5⟩ := h
        exact ss_insO (fun ta te to ha he ho => ps_expr (pe_bm PySem.F.plainAttrs_list PySem.F.slot_list_insert PySem.F.type_list_insert mt_insert ho (pa_cons ha (pa_cons he pa_nil (starEach_plain h3)) (starEach_plain h2)) (base_of h1) (few_of2 h2 h3) hl (starEach_plain h2) (by rw [starEach_plain h3]; rfl)) rfl) (G.var h1) (soundE (m := .v false) L a G h4) (soundE (m := .v false) L e G h5)
  | .setO i a e, sc, fn, X, s, W, G, h => by
    rw [chkS] at h
    cases q : asAsg s with
    | none => rw [q] at h; cases h
    | some u =>
      obtain ⟨t, v, pos⟩ := u
      rw [q] at h
      obtain rfl := asAsg_eq q
      dsimp only at h
      cases q2 : asSub t with
      | none => rw [q2] at h; cases h
      | some u2 =>
        obtain ⟨o, j⟩ := u2
        rw [q2] at h
        obtain ⟨pt, rfl⟩ := asSub_eq q2
        simp only [Bool.and_eq_true, Option.isNone_iff_eq_none] at h
        obtain ⟨⟨⟨⟨h0, h1⟩, h2⟩, h3⟩, h4⟩ := h
        obtain ⟨w1, w2⟩ := G.pl (pos := pos) h4
        refine ss_setO (fun te ti to he hi ho => ps_asg he (pg_sub ho hi set_list ?_) w1 w2 rfl) (G.var h1) (soundE (m := .v false) L e G h2) (soundE (m := .v false) L a G h3)
        intro v
        cases j <;> first | rfl | (simp [asSlice] at h0)
  | .never, sc, fn, X, s, W, G, h => wPS ps_never fun D σ H ⟨g, ω, ρ, st, rel, q⟩ => q
  | .parOV i j a b, sc, fn, X, s, W, G, h => by
    rw [chkS] at h
    cases q : asAsg s with
    | none => rw [q] at h; cases h
    | some u =>
      obtain ⟨t, v, pos⟩ := u
      rw [q] at h
      obtain rfl := asAsg_eq q
      dsimp only at h
      split at h
      · rename_i ts' x y q1 q2
        obtain ⟨kt, pt, rfl⟩ := asTup_eq q1
        obtain ⟨kv, pv, rfl⟩ := asTup_eq q2
        simp only [Bool.and_eq_true, decide_eq_true_eq] at h
        obtain ⟨⟨⟨⟨h5, h6⟩, h7⟩, h8⟩, h9⟩ := h
        exact ss_parOV (G.pair h7 h8 h9) (soundNN L G h5) (soundE (m := .v false) L b G h6)
      · cases h
  | .parVO i j a b, sc, fn, X, s, W, G, h => by
    rw [chkS] at h
    cases q : asAsg s with
    | none => rw [q] at h; cases h
    | some u =>
      obtain ⟨t, v, pos⟩ := u
      rw [q] at h
      obtain rfl := asAsg_eq q
      dsimp only at h
      split at h
      · rename_i ts' x y q1 q2
        obtain ⟨kt, pt, rfl⟩ := asTup_eq q1
        obtain ⟨kv, pv, rfl⟩ := asTup_eq q2
        simp only [Bool.and_eq_true, decide_eq_true_eq] at h
        obtain ⟨⟨⟨⟨h5, h6⟩, h7⟩, h8⟩, h9⟩ := h
        exact ss_parVO (G.pair h7 h8 h9) (soundE (m := .v false) L a G h5) (soundNN L G h6)
      · cases h
theorem soundSs (L : Lib p k S Φ) (F : Nat) (fr : Bool) : ∀ (c : Ss) {sc : Scope} {fn : Str → Bool} {X : Cx} {ss : List Stmt} {W : Wx}, Good p k S.N sc fn X → chkSs S fr sc fn c ss = true → PSs X ss (ts X.K fr W (evSs Φ F c))
  | .nil, sc, fn, X, [], W, G, h => sss_nil
  | .nil, sc, fn, X, _ :: _, W, G, h => Bool.noConfusion (show false = true from h)
  | .cons c r, sc, fn, X, ss, W, G, h => by
    cases hc : c with
    | frz i =>
      subst hc
      rw [chkSs] at h
      exact sss_frz (soundSs L F fr r G h)
    | _ =>
      rw [← hc]
      cases ss with
      | nil => subst hc; exact Bool.noConfusion (show false = true from h)
      | cons s ss =>
        have h' : (chkS S fr sc fn c s && chkSs S fr sc fn r ss) = true := by subst hc; exact h
        rw [Bool.and_eq_true] at h'
        exact sss_cons (soundS L F fr c G h'.1) (soundSs L F fr r G h'.2)
end
end
end Ev
namespace Ev
open PySem L2
/-- a def that hands back a new list does only that -/
def retOnly : Ss → Bool
  | .cons (.ret _) .nil => true
  | .cons _ r => retOnly r
  | .nil => false
theorem retOnly_ok {Φ : Nat → List PV → Cel → R PV} {F : Nat} : ∀ {b : Ss}, retOnly b = true → ∀ {ρ ρ' : En} {st st' : Cel}, evSs Φ F b ρ st ≠ .nx ρ' st'
  | .nil, h, _, _, _, _ => by cases h
  | .cons s .nil, h, ρ, ρ', st, st' => by
    cases s <;> first
      | (unfold retOnly retOnly at h; cases h; done)
      | (rename_i e1
         intro e
         rw [evSs, evS] at e
         cases q : ev Φ e1 ρ st with
         | ok x s => rw [q] at e; cases e
         | exc x s => rw [q] at e; cases e
         | bad => rw [q] at e; cases e)
  | .cons s (.cons t r), h, ρ, ρ', st, st' => by
    have h' : retOnly (.cons t r) = true := by cases s <;> exact h
    intro e
    rw [evSs] at e
    cases q : evS Φ F s ρ st with
    | nx ρ1 st1 => rw [q] at e; exact retOnly_ok h' e
    | _ => rw [q] at e; cases e
section
variable {p : Pr} {k : Nat} {S : Sx} {Φ : Nat → List PV → Cel → R PV} {K : PySem.W.Frag} {ω : Wd} {st : Cel} {H : Hp}
theorem init_get {n : Nat} {ts : List PV} {i : Nat} {s : Slot} (h : (initE n ts)[i]? = some s) : (∃ t, s = .val t ∧ ts[i]? = some t) ∨ s = .emp := by
  unfold initE at h
  by_cases hi : i < ts.length
  · rw [List.getElem?_append_left (by simpa using hi), List.getElem?_map] at h
    cases e : ts[i]? with
    | none => rw [e] at h; cases h
    | some t => rw [e] at h; cases h; exact .inl ⟨t, rfl, rfl⟩
  · rw [List.getElem?_append_right (by simpa using hi), List.getElem?_replicate] at h
    split at h
    · cases h; exact .inr rfl
    · cases h
theorem rel_start {N : List Str} {vs : List V} {ts : List PV} (r : RepL K ω H vs ts) (c : CelOk K ω st H) (hl : ts.length ≤ N.length) : Rel K ⟨ω.S, H, ω.cs⟩ ω (initE N.length ts) st (start N vs) H := by
  have e := r.length
  refine ⟨?_, fun i t h => ?_, fun i t h => ?_, fun i j t u a h _ _ _ => ?_, c, fun a o h _ => h, fun _ h => h, fun _ h => .inl h, ⟨[], by simp⟩, fun _ h => .inl h, fun a h => ?_⟩
  · unfold L2.start initE
    simp [e]
  · rcases init_get h with ⟨t', e1, e2⟩ | e1
    · cases e1
      obtain ⟨v, h1, h2⟩ := r.get e2
      refine ⟨v, ?_, h2⟩
      unfold L2.start
      have hi : i < vs.length := by
        rcases Nat.lt_or_ge i vs.length with z | z
        · exact z
        · rw [List.getElem?_eq_none z] at h1; cases h1
      rw [List.getElem?_append_left (by simpa using hi), List.getElem?_map, h1]
      rfl
    · cases e1
  · rcases init_get h with ⟨t', e1, e2⟩ | e1 <;> cases e1
  · rcases init_get h with ⟨t', e1, e2⟩ | e1 <;> cases e1
  · obtain ⟨vs, q⟩ := c.lstAt h
    exact ⟨_, q⟩
theorem Rel.out {ρ : En} {st' : Cel} {σ : L2.St} {ω' : Wd} {H' : Hp} (r : Rel K ⟨ω.S, H, ω.cs⟩ ω' ρ st' σ H') : ExtE ω H ω' H' := by
  refine ⟨r.sub, r.csp, fun a o h n => r.base a o h n, r.new, r.csn, fun a o h => ?_⟩
  by_cases hc : a ∈ ω.cs
  · obtain ⟨m, e⟩ := r.csp
    obtain ⟨vs, q⟩ := r.cells.lstAt (a := a) (by rw [e]; exact List.mem_append_left _ hc)
    exact ⟨_, q⟩
  · exact ⟨o, r.base a o h hc⟩
/-- the body keeps the promise of its run -/
theorem body_ok (L : Lib p k S Φ) (F : Nat) (fr : Bool) {sc : Scope} {body : Ss} {stmts : List Stmt} {X : Cx} {vs : List V} {ts : List PV} {Q : VK} (G : Good p k S.N sc (fun _ => true) X) (hc : chkSs S fr sc (fun _ => true) body stmts = true) (hr : fr = true → retOnly body = true)
    (r : RepL X.K ω H vs ts) (c : CelOk X.K ω st H) (hl : ts.length ≤ S.N.length)
    (h : match fin (evSs Φ F body (initE S.N.length ts) st) with
      | .ok t st' => ∀ v H' ω', ExtE ω H ω' H' → CelOk X.K ω' st' H' → (if fr then FreshP X.K H ω' H' v t else Rep X.K ω' H' v t) → Q v H'
      | _ => False) :
    PSs X stmts (Ev.ts X.K fr (fun _ _ _ _ _ _ _ => True) (evSs Φ F body)) ∧ Ev.ts X.K fr (fun _ _ _ _ _ _ _ => True) (evSs Φ F body) { nx := fun _ H' => Q .non H', rt := Q } (start S.N vs) H := by
  refine ⟨soundSs L F fr body G hc, ⟨⟨ω.S, H, ω.cs⟩, ω, _, st, rel_start r c hl, ?_⟩⟩
  cases e : evSs Φ F body (initE S.N.length ts) st with
  | nx ρ' st' =>
    rw [e] at h
    cases fr with
    | true =>
      exfalso
      exact retOnly_ok (hr rfl) e
    | false =>
      exact fun σ' H' ω' _ rel => h .non H' ω' rel.out rel.cells .non
  | rt v st' =>
    rw [e] at h
    intro x ρ' σ' H' ω' rel rp
    refine h x H' ω' rel.out rel.cells ?_
    unfold RetP at rp
    exact rp
  | bk ρ' st' => rw [e] at h; exact h.elim
  | ct ρ' st' => rw [e] at h; exact h.elim
  | exc x ρ' st' => rw [e] at h; exact h.elim
  | bad => rw [e] at h; exact h.elim
theorem spOf_mono {fr : Bool} {φ ψ : List PV → Cel → R PV} (h : ∀ ts st t st', φ ts st = .ok t st' → ψ ts st = .ok t st') : ∀ vs H Q E, spOf K fr φ vs H Q E → spOf K fr ψ vs H Q E := by
  rintro vs H Q E ⟨ω, st, ts, r, c, q⟩
  refine ⟨ω, st, ts, r, c, ?_⟩
  cases e : φ ts st with
  | ok t st' => rw [e] at q; rw [h _ _ _ _ e]; exact q
  | exc x s => rw [e] at q; exact q.elim
  | bad => rw [e] at q; exact q.elim
/-- the body at a call: the values as they are bound -/
theorem run_body (L : Lib p k S Φ) {F : Nat} {fr : Bool} {x qual : Str} {s : Stmt} {f : Addr} {oc kV doc pm cdv ct : Value} {an od : Option Addr} {osl : Array (Option Value)} {ps : List Str} {body : Ss} {A : Around} {outer : List Env} {sh : Shared} {args : Args} {Q : VK} {E : XK} {Gx : List V → Hp → Prop}
    (lk : p.K.lookup f = some ⟨oc, od, .func (PySem.W.fnOf x qual (defArgs s) (defBody s) (defScope s) .none kV doc pm an cdv ct), osl⟩) (hcd : PySem.W.codeIn p.K cdv qual = true) (Sc : FnScope S.N ps (defScope s)) (hr : Room (k + 1) A) (hg : A.guards = some [])
    (e0 : Env0 p.P p.w p.K p.mg p.base A outer sh H) (hb : StX.Bnd CX0 p.P p.w p.K p.mg p.base (PySem.W.fnOf x qual (defArgs s) (defBody s) (defScope s) .none kV doc pm an cdv ct) args ps A outer sh H E Gx)
    (hc : chkSs S fr (defScope s) (fun _ => true) body (defBody s) = true) (hrt : fr = true → retOnly body = true)
    (h : ∀ H2 vs, Gx vs H2 → ∃ ω st ts, RepL p.K ω H2 vs ts ∧ CelOk p.K ω st H2 ∧ ts.length ≤ S.N.length ∧ (match fin (evSs Φ F body (initE S.N.length ts) st) with
      | .ok t st' => ∀ v H' ω', ExtE ω H2 ω' H' → CelOk p.K ω' st' H' → (if fr then FreshP p.K H2 ω' H' v t else Rep p.K ω' H' v t) → Q v H'
      | _ => False)) :
    codeAny (model p.P p.w) A (.call (.ref f) args) (CR CX0 outer p.P p.w H sh Q E) sh := by
  refine StX.run_bnd (N := S.N) (ps := ps) lk hcd Sc hr e0 hb fun s2 H2 vs gx hroom => ?_
  obtain ⟨ω, st, ts, r, c, hl, q⟩ := h H2 vs gx
  have G : Good p k S.N (defScope s) (fun _ => true) (cxOf CX0 p.P p.w p.K p.mg p.base S.N qual (defScope s) f cdv A outer s2 H2 E).nox :=
    ⟨rfl, rfl, rfl, rfl, rfl, rfl, Sc.nd, rfl, rfl, rfl, hroom, PassesOwn.never, hg⟩
  obtain ⟨a, b⟩ := body_ok L F fr G hc hrt r c hl q
  exact ⟨_, a.nox, b⟩
/-- a def: its check, its mirror φ -/
theorem def_ok (L : Lib p k S Φ) (F : Nat) {fr : Bool} {x qual : Str} {s : Stmt} {f : Addr} {fd : FuncData} {ps : List Str} {d : Fn} {φ : List PV → Cel → R PV} (Fu : Fun p.K x qual s f fd) (Sc : FnScope S.N ps (defScope s))
    (hb : ∀ (kV doc pm : Value) (an : Option Addr) (cdv ct : Value) (us : List Value), us.length = ps.length → bindArgs (PySem.W.fnOf x qual (defArgs s) (defBody s) (defScope s) .none kV doc pm an cdv ct) ⟨us, []⟩ = pure (ps.zip us))
    (hc : chkSs S fr (defScope s) (fun _ => true) d.body (defBody s) = true) (hr : fr = true → retOnly d.body = true) (h1 : d.star = false) (h2 : d.ar = ps.length) (h3 : d.n = S.N.length) (h4 : ps.length ≤ S.N.length)
    (hφ : ∀ ts st t st', φ ts st = .ok t st' → run Φ F d ts st = .ok t st') : FnG p (k + 1) f (spOf p.K fr φ) := by
  intro A outer sh H us vs Q E hroom hg e0 rv h
  obtain ⟨oc, od, kV, doc, pm, an, cdv, ct, osl, rfl, lk, hcd⟩ := Fu.ex
  obtain ⟨ω, st, ts, r, c, q⟩ := spOf_mono hφ vs H Q E h
  have hl : ts.length = d.ar := by
    cases e : decide (ts.length = d.ar) with
    | true => exact of_decide_eq_true e
    | false =>
      exfalso
      unfold run at q
      rw [h1, if_neg Bool.false_ne_true, if_neg (of_decide_eq_false e)] at q
      exact q
  have hu : us.length = ps.length := by rw [← rv.length, r.length, hl, h2]
  refine run_body L (F := F) lk hcd Sc hroom hg e0 (ps := ps) (Gx := fun ws H2 => ws = vs ∧ H2 = H) ?_ hc hr fun H2 ws z => ?_
  · intro A' Ex Q' kk
    rw [hb kV doc pm an cdv ct us hu]
    exact wpAny_pure (kk sh H vs us e0 Un.refl rfl (fun _ _ z => z) rv (by rw [rv.length, hu]) ⟨rfl, rfl⟩)
  · obtain ⟨rfl, rfl⟩ := z
    refine ⟨ω, st, ts, r, c, by rw [hl, h2]; exact h4, ?_⟩
    have e : run Φ F d ts st = fin (evSs Φ F d.body (initE S.N.length ts) st) := by
      unfold run
      rw [h1, if_neg Bool.false_ne_true, if_pos hl, h3]
    rw [e] at q
    exact q
/-- a def with a star parameter -/
theorem def_star (L : Lib p k S Φ) (F : Nat) {x qual : Str} {s : Stmt} {f : Addr} {fd : FuncData} {ps : List Str} {pv : Str} {d : Fn} {φ : List PV → Cel → R PV} (Fu : Fun p.K x qual s f fd) (Sc : FnScope S.N (ps ++ [pv]) (defScope s))
    (hb : ∀ (kV doc pm : Value) (an : Option Addr) (cdv ct : Value) (us rest : List Value), us.length = ps.length → bindArgs (PySem.W.fnOf x qual (defArgs s) (defBody s) (defScope s) .none kV doc pm an cdv ct) ⟨us ++ rest, []⟩ = (newTuple rest >>= fun t => pure (ps.zip us ++ [(pv, t)])))
    (hc : chkSs S false (defScope s) (fun _ => true) d.body (defBody s) = true) (h1 : d.star = true) (h2 : d.ar = ps.length) (h3 : d.n = S.N.length) (h4 : ps.length + 1 ≤ S.N.length)
    (hφ : ∀ ts st t st', φ ts st = .ok t st' → run Φ F d ts st = .ok t st') : FnG p (k + 1) f (spOf p.K false φ) := by
  intro A outer sh H us vs Q E hroom hg e0 rv h
  obtain ⟨oc, od, kV, doc, pm, an, cdv, ct, osl, rfl, lk, hcd⟩ := Fu.ex
  obtain ⟨ω, st, ts, r, c, q⟩ := spOf_mono hφ vs H Q E h
  unfold run at q
  rw [h1, if_pos rfl] at q
  by_cases hz : (decide (d.ar ≤ ts.length) && szOk (ts.length - d.ar)) = true
  rotate_left
  · rw [if_neg hz] at q; exact q.elim
  rw [if_pos hz, h3] at q
  rw [Bool.and_eq_true, decide_eq_true_eq] at hz
  have hle := hz.1
  have hsz := szOk_le hz.2
  have vl := r.length
  have ul := rv.length
  refine run_body L (F := F) (fr := false) lk hcd Sc hroom hg e0 (ps := ps ++ [pv]) (Gx := fun ws H2 => ∃ a, H a = none ∧ ws = vs.take d.ar ++ [.ref a] ∧ H2 = upd H a (.tup (vs.drop d.ar))) ?_ hc (fun z => by cases z) fun H2 ws z => ?_
  · intro A' Ex Q' kk
    have e1 : (us.take d.ar).length = ps.length := by rw [List.length_take, ← h2]; omega
    have e2 : (us.drop d.ar).length ≤ sizeLine := by rw [List.length_drop]; omega
    have bs := hb kV doc pm an cdv ct (us.take d.ar) (us.drop d.ar) e1
    rw [List.take_append_drop] at bs
    rw [bs]
    have hn : H sh.heap.objs.size = none := e0.hok.fresh (Nat.le_refl _)
    have tt : ObjOk p.P p.w (upd H sh.heap.objs.size (.tup (vs.drop d.ar))) (sh.heap.push { cls := .type "tuple", data := .seq (us.drop d.ar).toArray }) sh.heap.objs.size (.tup (vs.drop d.ar)) :=
      ⟨by rw [List.length_drop]; omega, us.drop d.ar, rv.drop d.ar, ⟨_, Heap.get?_push_size _ rfl, rfl, _, rfl⟩⟩
    refine wpAny_bind (wpAny_newTuple (wpAny_pure ?_) e2)
    have fin := kk _ _ (vs.take d.ar ++ [.ref sh.heap.objs.size]) (us.take d.ar ++ [.ref sh.heap.objs.size]) (StX.env0_laid e0 tt) (StX.un_laid hn) rfl (fun _ _ z => z) ((rv.take d.ar).append (.cons (show RelV (.ref sh.heap.objs.size) (.ref sh.heap.objs.size) from rfl) .nil))
      (by rw [List.length_append, List.length_append, List.length_take, ← h2]; simp only [List.length_cons, List.length_nil]; omega) ⟨_, hn, rfl, rfl⟩
    rw [List.zip_append e1.symm] at fin
    exact fin
  · obtain ⟨a, ha, rfl, rfl⟩ := z
    refine ⟨ω, st, ts.take d.ar ++ [.tup (ts.drop d.ar)], ((r.take _).mono (Grow.upd ha).ext).append (.cons (.tup (.inl (.inl upd_same)) ((r.drop _).mono (Grow.upd ha).ext)) .nil), c.grow (Grow.upd ha), ?_, ?_⟩
    · rw [List.length_append, List.length_take]
      simp only [List.length_cons, List.length_nil]
      omega
    · revert q
      cases fin (evSs Φ F d.body (initE S.N.length (ts.take d.ar ++ [.tup (ts.drop d.ar)])) st) with
      | ok t st' => exact fun q v H' ω' x c' rp => q v H' ω' ((Grow.upd ha).toE.trans x) c' rp
      | exc x s => exact fun q => q
      | bad => exact fun q => q
end
end Ev
namespace Ev
open PySem PySem.Spec PyProof.Rows L2
/-! ### a law's end -/
/-- the abstract heap at the law's call: the script at most -/
def scriptH (a : Addr) (t : Option HO) : Hp := fun b => if b = a then t else none
theorem scriptH_at {a : Addr} {t : Option HO} : scriptH a t a = t := if_pos rfl
theorem scriptH_off {a b : Addr} {t : Option HO} (h : b ≠ a) : scriptH a t b = none := if_neg h
section
variable {P : Program} {w : World} {K : PySem.W.Frag} {mg mb : Str → Option Value} {k : Nat} {fa a : Addr} {s : Shared} {vs : List Value} {ns : List Int} {φ : List PV → Cel → R PV}
theorem repl_ints {ω : Wd} {H : Hp} : ∀ ns : List Int, RepL K ω H (ns.map V.int) (ns.map PV.int)
  | [] => .nil
  | n :: ns => .cons (.int n) (repl_ints ns)
theorem law_end (KX : K.In s.heap) (hns : s.heap.Ns mainGlobals mg) (hbn : s.heap.Ns builtinsNs mb) (hbb : ∀ x : Str, x ≠ "__name__" → mb x = bootBuiltins x) (hlim : s.heap.NoLimit) (hgen : s.gens = #[])
    (hobj : s.heap.get? a = some { cls := .type "list", data := .seq vs.toArray }) (hi : IntsAre vs ns) (hl : ns.length ≤ sizeLine) (hr : Room k callerA)
    (F : ∀ base : Heap, K.In base → base.Ns mainGlobals mg → FnG ⟨P, w, K, mg, base⟩ k fa (spOf K false φ)) (hφ : ∃ st', φ [.rol (ns.map .int)] [] = .ok (.bl true) st') :
    codeAny (model P w) callerA (.call (.ref fa) ⟨[.ref a], []⟩) (fun r s' => r = .ok (.ret (.bool true)) ∧ OldK s.heap s'.heap ∧ s'.os = s.os ∧ AllBare s'.gens) s := by
  obtain ⟨stF, hφ⟩ := hφ
  have rints := vals_ints hi
  have il := hi.length
  -- what is tracked
  obtain ⟨t, ht1, ht2, ht3⟩ : ∃ t : Option HO, (t = none ∨ ∃ ob us, t = some (.frz ob (.lst us))) ∧ (HOk P w (scriptH a t) s.heap ∧ RoL K ⟨fun _ => False, []⟩ (scriptH a t) a (ns.map V.int)) ∧ (t ≠ none → K.lookup a = none) := by
    cases hk : K.lookup a with
    | some o =>
      have e := (KX a o hk).symm.trans hobj
      cases e
      refine ⟨none, .inl rfl, ⟨fun b u z => ?_, .inr (.inr ⟨_, vs.toArray, _, hk, rfl, rfl, rfl, by rw [List.size_toArray, il]; exact hl, by simpa using rints⟩)⟩, fun z => absurd rfl z⟩
      unfold scriptH at z
      split at z <;> cases z
    | none =>
      refine ⟨some (.frz { cls := .type "list", data := .seq vs.toArray } (.lst (ns.map V.int))), .inr ⟨_, _, rfl⟩, ⟨fun b u z => ?_, .inr (.inl ⟨_, scriptH_at⟩)⟩, fun _ => rfl⟩
      unfold scriptH at z
      split at z
      · rename_i eb
        cases z
        rw [eb]
        exact ⟨hobj, by simpa using hl, vs, 0, rints, hobj⟩
      · cases z
  obtain ⟨hok, hro⟩ := ht2
  let H := scriptH a t
  have only : ∀ b u, H b = some u → b = a := fun b u z => by
    by_cases e : b = a
    · exact e
    · have : H b = none := scriptH_off e
      rw [this] at z; cases z
  have dicts : ∀ {b : Addr} {o : Obj} {es : Array DictEntry} {ep : Nat}, s.heap.get? b = some o → o.data = .dict es ep → H b = none := fun {b o es ep} e d => by
    cases q : H b with
    | none => rfl
    | some u =>
      have eb := only b u q
      rw [eb, hobj] at e
      cases e
      cases d
  have nss : ∀ {b : Addr} {m : Str → Option Value}, s.heap.Ns b m → (hidT s.heap H).Ns b m := fun z => by
    obtain ⟨o, es, ep, e, d, rest⟩ := z
    exact ⟨o, es, ep, hidT_get e (dicts e d), d, rest⟩
  have kin : K.In (hidT s.heap H) := fun b o e => hidT_get (KX b o e) (by
    cases q : H b with
    | none => rfl
    | some u =>
      have eb := only b u q
      subst eb
      rw [ht3 (by intro z; have : H b = t := scriptH_at; rw [z, q] at this; cases this)] at e
      cases e)
  obtain ⟨mc, lim1, lim2⟩ := hlim
  have md : Mod K mg (hidT s.heap H) := ⟨kin, nss hns, ⟨mb, nss hbn, hbb⟩, ⟨mc, nss lim1, lim2⟩⟩
  have e0 : Env0 P w K mg (hidT s.heap H) callerA [] s H := ⟨rfl, md, fun _ _ e => of_hidT e, Nat.le_of_eq (hidT_size _ _), trivial, fun b z => (by cases z), hok, .of_eq hgen⟩
  have prom : spOf K false φ [.ref a] H (fun v _ => v = .bl true) E0 := by
    refine ⟨⟨fun _ => False, []⟩, [], [.rol (ns.map .int)], .cons (.rol hro (repl_ints ns)) .nil, ⟨rfl, List.nodup_nil, fun b z => (by cases z), fun b z => z.elim, fun k b z => (by simp at z)⟩, ?_⟩
    rw [hφ]
    intro v H' ω' _ _ rp
    simp only [Bool.false_eq_true, if_false] at rp
    cases rp
    rfl
  refine codeAny_mono (F _ kin (nss hns) callerA [] s H [.ref a] [.ref a] _ _ hr rfl e0 (.cons rfl .nil) prom) fun r s' z => ?_
  match r, z with
  | .error _, z => exact z.elim
  | .ok .next, z => exact z.elim
  | .ok .brk, z => exact z.elim
  | .ok .cont, z => exact z.elim
  | .ok (.ret u), z =>
    obtain ⟨v, H', os, bare, un, hok', rv, ev⟩ := z
    cases (show v = .bl true from ev)
    cases (show u = Value.bool true from rv)
    refine ⟨rfl, OldK.of_keep fun b o e => ?_, os, bare⟩
    cases q : H b with
    | none => exact un.keep b o e q (fun m => by cases m) (fun m => by cases m)
    | some x =>
      have eb := only b x q
      rcases ht1 with rfl | ⟨ob, us, rfl⟩
      · have : H b = none := by rw [eb]; exact scriptH_at
        rw [q] at this; cases this
      · have hb : H b = some (.frz ob (.lst us)) := by rw [eb]; exact scriptH_at
        have e1 := (hok b _ hb).1
        have e2 := (hok' b _ (un.frzs b ob _ hb)).1
        rw [e] at e1
        cases e1
        exact e2
end
theorem walkG {l : PySem.W.OpenLaw} {n k : Nat} {q : Program} {loose : List Str} {XP : (Str → Option Value) → Heap → Prop} {YP : World → Heap → Prop} {d : DefRec} {K : Params → PySem.W.Frag} {φ : List PV → Cel → R PV}
    (hn : l.most = some n) (hn2 : n ≤ sizeLine) (hdf : d.params.defaults = []) (hr : Room k callerA) (hY : ∀ (w : World) (h : Heap), YP w h → (K w.params).In h)
    (F : ∀ (w : World) (mg : Str → Option Value) (fa : Addr) (h : Heap), (K w.params).In h → h.Ns mainGlobals mg → mg d.name = some (.ref fa) → ∀ base : Heap, (K w.params).In base → base.Ns mainGlobals mg → FnG ⟨l.prog, w, K w.params, mg, base⟩ k fa (spOf (K w.params) false φ))
    (hφ : ∀ ns : List Int, ns.length ≤ n → ∃ st', φ [.rol (ns.map .int)] [] = .ok (.bl true) st') : PySem.W.WalkO q loose XP YP l.row.toRowW d [] (fun f vs => PySem.call f vs) := by
  refine Att.attach_call hn hdf fun w s₀ s₁ mg mb fa o pm cd doc a vs ns G Y ho hd hcd hmg hobj hints hlen hg => ?_
  exact law_end (hY w _ Y) G.T.g G.T.b G.T.builtins G.T.nolimit hg hobj hints (Nat.le_trans hlen hn2) hr (F w mg fa _ (hY w _ Y) G.T.g hmg) (hφ ns hlen)
end Ev
namespace Ev
open PySem L2
/-! ### a whole program: its defs, run with a call depth -/
structure DefD where
  nm : Str
  ps : List Str
  pv : Option Str := none
  N : List Str
  fr : Bool := false
  st : Stmt
  body : Ss
def DefD.fn (D : DefD) : Fn := ⟨D.ps.length, D.pv.isSome, D.N.length, D.body⟩
def DefD.all (D : DefD) : List Str := D.ps ++ D.pv.toList
/-- what the top has written beside the defs: a constant, or a table with text keys -/
structure GD where
  nm : Str
  v : Option PV := none
  tb : List (Str × PV) := []
def gphi (gs : List GD) (i : Nat) (args : List PV) (st : Cel) : R PV :=
  if i < 2000 then (match gs[i - 1000]?, args with
    | some ⟨_, some t, _⟩, [] => .ok t st
    | _, _ => .bad)
  else if i < 3000 then (match gs[i - 2000]?, args with
    | some ⟨_, none, T⟩, [.str x] => (match T.lookup x with
      | some t => .ok t st
      | none => .bad)
    | _, _ => .bad)
  else (match gs[i - 3000]?, args with
    | some ⟨_, none, T⟩, [.str x] => .ok (.bl (T.lookup x).isSome) st
    | _, _ => .bad)
def gkOf : Option GD → Bool
  | some ⟨_, some _, _⟩ => true
  | _ => false
def tkOf : Option GD → Bool
  | some ⟨_, none, _⟩ => true
  | _ => false
def sxOf (ds : List DefD) (gs : List GD) (N : List Str) : Sx := { nm := fun i => ((ds[i]?).map (·.nm)).getD "", fr := fun i => ((ds[i]?).map (·.fr)).getD false, kn := fun i => decide (i < 1000) && (ds[i]?).isSome, N := N, gn := fun g => ((gs[g]?).map (·.nm)).getD "", gk := fun g => decide (g < 1000) && gkOf gs[g]?, tk := fun g => decide (g < 1000) && tkOf gs[g]? }
def Phi (ds : List DefD) (gs : List GD) (F : Nat) : Nat → Nat → List PV → Cel → R PV
  | 0 => fun i args st => if i < 1000 then .bad else gphi gs i args st
  | n + 1 => fun i args st => if i < 1000 then (match ds[i]? with
    | some D => run (Phi ds gs F n) F D.fn args st
    | none => .bad) else gphi gs i args st
theorem Phi_g {ds : List DefD} {gs : List GD} {F n i : Nat} {args : List PV} {st : Cel} (h : ¬ i < 1000) : Phi ds gs F n i args st = gphi gs i args st := by
  cases n with
  | zero => exact if_neg h
  | succ n => exact if_neg h
theorem Phi_d {ds : List DefD} {gs : List GD} {F n i : Nat} {D : DefD} {args : List PV} {st : Cel} (h : ds[i]? = some D) (hi : i < 1000) : Phi ds gs F (n + 1) i args st = run (Phi ds gs F n) F D.fn args st := by
  show (if i < 1000 then (match ds[i]? with
    | some D => run (Phi ds gs F n) F D.fn args st
    | none => .bad) else _) = _
  rw [if_pos hi, h]
def okD (ds : List DefD) (gs : List GD) (D : DefD) : Bool :=
  chkSs (sxOf ds gs D.N) D.fr (defScope D.st) (fun _ => true) D.body (defBody D.st) && (!D.fr || (retOnly D.body && D.pv.isNone)) && decide (D.all.length ≤ D.N.length) &&
  decide ((defScope D.st).kind = .function) && !(defScope D.st).isCoroutine && !(defScope D.st).isGenerator && decide (D.N.Nodup) && decide (D.N.take D.all.length = D.all) &&
  D.all.all (fun x => decide ((defScope D.st).names.lookup x = some .local) || decide ((defScope D.st).names.lookup x = some .cell)) && (defScope D.st).names.all (fun y => decide (y.2 ≠ .free))
def BindOk (D : DefD) : Prop := match D.pv with
  | none => ∀ (kV doc pm : Value) (an : Option Addr) (cdv ct : Value) (us : List Value), us.length = D.ps.length → bindArgs (PySem.W.fnOf D.nm D.nm (defArgs D.st) (defBody D.st) (defScope D.st) .none kV doc pm an cdv ct) ⟨us, []⟩ = pure (D.ps.zip us)
  | some pv => ∀ (kV doc pm : Value) (an : Option Addr) (cdv ct : Value) (us rest : List Value), us.length = D.ps.length → bindArgs (PySem.W.fnOf D.nm D.nm (defArgs D.st) (defBody D.st) (defScope D.st) .none kV doc pm an cdv ct) ⟨us ++ rest, []⟩ = (newTuple rest >>= fun t => pure (D.ps.zip us ++ [(pv, t)]))
/-- what the top has written of a def -/
def Told (K : PySem.W.Frag) (mg : Str → Option Value) (D : DefD) : Prop := ∃ f fd, mg D.nm = some (.ref f) ∧ PySem.W.keepIn K (.ref f) = true ∧ Fun K D.nm D.nm D.st f fd
def AllP (P : DefD → Prop) : List DefD → Prop
  | [] => True
  | D :: r => P D ∧ AllP P r
theorem AllP.get {P : DefD → Prop} : ∀ {ds : List DefD}, AllP P ds → ∀ {i : Nat} {D : DefD}, ds[i]? = some D → P D
  | [], _, _, _, e => by cases e
  | D :: r, h, 0, _, e => by simp at e; subst e; exact h.1
  | D :: r, h, i + 1, _, e => AllP.get h.2 (i := i) (by simpa using e)
theorem scope_of {ds : List DefD} {gs : List GD} {D : DefD} (h : okD ds gs D = true) : FnScope D.N D.all (defScope D.st) := by
  unfold okD at h
  simp only [Bool.and_eq_true, decide_eq_true_eq, Bool.not_eq_true', List.all_eq_true, Bool.or_eq_true] at h
  obtain ⟨⟨⟨⟨⟨⟨⟨⟨⟨h0, h1⟩, h2⟩, h3⟩, h4⟩, h5⟩, h6⟩, h7⟩, h8⟩, h9⟩ := h
  exact ⟨h3, h4, h5, h6, h7, h8, h9⟩
theorem told_fn {p : Pr} {k F : Nat} {ds : List DefD} {gs : List GD} {Φ : Nat → List PV → Cel → R PV} {D : DefD} {f : Addr} {fd : FuncData} (L : ∀ N, Lib p k (sxOf ds gs N) Φ) (Fu : Fun p.K D.nm D.nm D.st f fd) (h : okD ds gs D = true) (hb : BindOk D) : FnG p (k + 1) f (spOf p.K D.fr (run Φ F D.fn)) := by
  have Sc := scope_of h
  unfold okD at h
  simp only [Bool.and_eq_true, decide_eq_true_eq, Bool.or_eq_true, Bool.not_eq_true'] at h
  obtain ⟨⟨⟨⟨⟨⟨⟨⟨⟨h0, h1⟩, h2⟩, h3⟩, h4⟩, h5⟩, h6⟩, h7⟩, h8⟩, h9⟩ := h
  unfold BindOk at hb
  cases e : D.pv with
  | none =>
    rw [e] at hb
    have ea : D.all = D.ps := by unfold DefD.all; rw [e]; simp
    rw [ea] at Sc h2
    refine def_ok (L D.N) F Fu Sc hb h0 (fun z => ?_) (by unfold DefD.fn; rw [e]; rfl) rfl rfl h2 (fun _ _ _ _ z => z)
    rcases h1 with h1 | h1
    · rw [z] at h1; cases h1
    · exact h1.1
  | some pv =>
    rw [e] at hb
    have ea : D.all = D.ps ++ [pv] := by unfold DefD.all; rw [e]; rfl
    rw [ea] at Sc h2
    have ef : D.fr = false := by
      rcases h1 with h1 | h1
      · exact h1
      · rw [e] at h1; cases h1.2
    rw [ef] at h0 ⊢
    exact def_star (L D.N) F Fu Sc hb h0 (by unfold DefD.fn; rw [e]; rfl) rfl rfl (by show D.ps.length + 1 ≤ D.N.length; simpa using h2) (fun _ _ _ _ z => z)
/-! ### constants and tables of the top -/
def TbOk (K : PySem.W.Frag) (a : Addr) (T : List (Str × PV)) : Prop := ∀ x, ∃ r, PySem.W.nsIn K a x = some r ∧ r.isSome = (T.lookup x).isSome ∧ ∀ t, T.lookup x = some t → ∃ u v, r = some u ∧ RelV v u ∧ ∀ ω H, Rep K ω H v t
def CoOk (K : PySem.W.Frag) (u : Value) (t : PV) : Prop := ∃ v, RelV v u ∧ ∀ ω H, Rep K ω H v t
def ToldG (K : PySem.W.Frag) (w : World) (mg : Str → Option Value) : GD → Prop
  | ⟨nm, some t, _⟩ => ∃ u, mg nm = some u ∧ CoOk K u t
  | ⟨nm, none, T⟩ => ∃ a es n, mg nm = some (.ref a) ∧ KDict K w a es n ∧ TbOk K a T
def AllG (P : GD → Prop) : List GD → Prop
  | [] => True
  | D :: r => P D ∧ AllG P r
theorem AllG.get {P : GD → Prop} : ∀ {gs : List GD}, AllG P gs → ∀ {i : Nat} {D : GD}, gs[i]? = some D → P D
  | [], _, _, _, e => by cases e
  | D :: r, h, 0, _, e => by simp at e; subst e; exact h.1
  | D :: r, h, i + 1, _, e => AllG.get h.2 (i := i) (by simpa using e)
section
variable {K : PySem.W.Frag} {w : World}
theorem co_str {s : Str} {n : Nat} : CoOk K (.str s n) (.str s) := ⟨.str s, ⟨n, rfl⟩, fun _ _ => .str s⟩
theorem co_int {i : Int} {n : Nat} : CoOk K (.int i n) (.int i) := ⟨.int i, ⟨n, rfl⟩, fun _ _ => .int i⟩
theorem co_none : CoOk K .none .non := ⟨.non, rfl, fun _ _ => .non⟩
def CosOk (K : PySem.W.Frag) : List Value → List PV → Prop
  | [], [] => True
  | u :: us, t :: ts => CoOk K u t ∧ CosOk K us ts
  | _, _ => False
theorem cos_ok : ∀ {us : List Value} {ts : List PV}, CosOk K us ts → ∃ vs, Vals vs us ∧ ∀ ω H, RepL K ω H vs ts
  | [], [], _ => ⟨[], .nil, fun _ _ => .nil⟩
  | u :: us, t :: ts, h => by
    obtain ⟨v, r, p⟩ := h.1
    obtain ⟨vs, rs, ps⟩ := cos_ok h.2
    exact ⟨v :: vs, .cons r rs, fun ω H => .cons (p ω H) (ps ω H)⟩
  | [], _ :: _, h => h.elim
  | _ :: _, [], h => h.elim
theorem co_tup {a : Addr} {od : Option Addr} {its : Array Value} {n : Nat} {sl : Array (Option Value)} {ts : List PV} (l : K.lookup a = some ⟨.type "tuple", od, .seq its n, sl⟩) (hs : its.size ≤ sizeLine) (h : CosOk K its.toList ts) : CoOk K (.ref a) (.tup ts) := by
  obtain ⟨vs, rs, ps⟩ := cos_ok h
  exact ⟨.ref a, rfl, fun ω H => .tup (.inr ⟨_, its, n, l, rfl, rfl, hs, rs⟩) (ps ω H)⟩
def RowsOk (K : PySem.W.Frag) : List DictEntry → List (Str × PV) → Prop
  | [], [] => True
  | e :: es, t :: ts => (∃ n, e.key = .str t.1 n) ∧ CoOk K e.val t.2 ∧ RowsOk K es ts
  | _, _ => False
theorem rows_find {x : Str} : ∀ {es : List DictEntry} {T : List (Str × PV)}, RowsOk K es T →
    (es.any (·.refKey) = false) ∧ (∀ e, es.find? (·.key.isStr x) = some e → ∃ t, T.lookup x = some t ∧ CoOk K e.val t) ∧ (es.find? (·.key.isStr x) = none → T.lookup x = none)
  | [], [], _ => ⟨rfl, (fun e h => by cases h), fun _ => rfl⟩
  | e :: es, (k, v) :: T, h => by
    obtain ⟨⟨n, hk⟩, hv, hr⟩ := h
    obtain ⟨i1, i2, i3⟩ := rows_find (x := x) hr
    have hs : e.key.isStr x = (x == k) := by
      rw [hk]
      show (k == x) = (x == k)
      exact BEq.comm
    refine ⟨?_, fun e' h' => ?_, fun h' => ?_⟩
    · rw [List.any_cons, i1, Bool.or_false]
      unfold DictEntry.refKey
      rw [hk]
    · rw [List.find?_cons, hs] at h'
      rw [List.lookup_cons]
      cases q : x == k with
      | true => rw [q] at h'; cases h'; exact ⟨v, rfl, hv⟩
      | false => rw [q] at h'; exact i2 e' h'
    · rw [List.find?_cons, hs] at h'
      rw [List.lookup_cons]
      cases q : x == k with
      | true => rw [q] at h'; cases h'
      | false => rw [q] at h'; exact i3 h'
  | [], _ :: _, h => h.elim
  | _ :: _, [], h => h.elim
theorem tb_ok {a : Addr} {oc : Value} {od : Option Addr} {es : Array DictEntry} {n : Nat} {sl : Array (Option Value)} {T : List (Str × PV)} (l : K.lookup a = some ⟨oc, od, .dict es n, sl⟩) (h : RowsOk K es.toList T) : TbOk K a T := by
  intro x
  obtain ⟨i1, i2, i3⟩ := rows_find (x := x) h
  unfold PySem.W.nsIn
  rw [l]
  dsimp only
  cases q : es.toList.find? (·.key.isStr x) with
  | none => exact ⟨none, by dsimp only; rw [i1]; rfl, by rw [i3 q]; rfl, fun t ht => by rw [i3 q] at ht; cases ht⟩
  | some e =>
    obtain ⟨t, ht, v, r, p⟩ := i2 e q
    refine ⟨some e.val, rfl, by rw [ht]; rfl, fun t' ht' => ?_⟩
    rw [ht] at ht'
    cases ht'
    exact ⟨e.val, v, rfl, r, p⟩
theorem g_con {h : Heap} {mg : Str → Option Value} {nm : Str} {u : Value} {t : PV} (X : K.In h) (G : h.Ns mainGlobals mg) (a : PySem.W.nsIn K mainGlobals nm = some (some u)) (c : CoOk K u t) : ToldG K w mg { nm := nm, v := some t } := ⟨u, PySem.W.mg_of X G a, c⟩
theorem g_tab {h : Heap} {mg : Str → Option Value} {nm : Str} {d : Addr} {es : Array DictEntry} {n : Nat} {T : List (Str × PV)} (X : K.In h) (G : h.Ns mainGlobals mg) (a : PySem.W.nsIn K mainGlobals nm = some (some (.ref d))) (l : K.lookup d = some ⟨.type "dict", none, .dict es n, #[]⟩)
    (hk : PySem.W.KeysLit w.params es.toList) (hd : (d == sysModules) = false) (c : RowsOk K es.toList T) : ToldG K w mg { nm := nm, tb := T } := ⟨d, es, n, PySem.W.mg_of X G a, ⟨l, hk, hd⟩, tb_ok l c⟩
end
theorem lib_gc {p : Pr} {ds : List DefD} {gs : List GD} {F n : Nat} {N : List Str} (hG : AllG (ToldG p.K p.w p.mg) gs) : ∀ g, (sxOf ds gs N).gk g = true → ∃ u v t, p.mg ((sxOf ds gs N).gn g) = some u ∧ RelV v u ∧ (∀ ω H, Rep p.K ω H v t) ∧ ∀ st, Phi ds gs F n (1000 + g) [] st = .ok t st := by
  intro g hg
  have hg' : (decide (g < 1000) && gkOf gs[g]?) = true := hg
  rw [Bool.and_eq_true, decide_eq_true_eq] at hg'
  cases q : gs[g]? with
  | none => rw [q] at hg'; cases hg'.2
  | some D =>
    obtain ⟨nm, ov, T⟩ := D
    cases ov with
    | none => rw [q] at hg'; cases hg'.2
    | some t =>
      obtain ⟨u, m, v, r, pp⟩ := hG.get q
      refine ⟨u, v, t, by show p.mg (((gs[g]?).map (·.nm)).getD "") = _; rw [q]; exact m, r, pp, fun st => ?_⟩
      rw [Phi_g (by omega)]
      unfold gphi
      rw [if_pos (by omega), show 1000 + g - 1000 = g by omega, q]
theorem lib_tb {p : Pr} {ds : List DefD} {gs : List GD} {F n : Nat} {N : List Str} (hG : AllG (ToldG p.K p.w p.mg) gs) : ∀ g, (sxOf ds gs N).tk g = true → ∃ (a : Addr) (es : Array DictEntry) (m : Nat) (T : List (Str × PV)), p.mg ((sxOf ds gs N).gn g) = some (.ref a) ∧ KDict p.K p.w a es m ∧ TbOk p.K a T ∧
    (∀ ts st t st', Phi ds gs F n (2000 + g) ts st = .ok t st' → ∃ x, ts = [.str x] ∧ T.lookup x = some t ∧ st' = st) ∧ (∀ ts st t st', Phi ds gs F n (3000 + g) ts st = .ok t st' → ∃ x, ts = [.str x] ∧ t = .bl (T.lookup x).isSome ∧ st' = st) := by
  intro g hg
  have hg' : (decide (g < 1000) && tkOf gs[g]?) = true := hg
  rw [Bool.and_eq_true, decide_eq_true_eq] at hg'
  cases q : gs[g]? with
  | none => rw [q] at hg'; cases hg'.2
  | some D =>
    obtain ⟨nm, ov, T⟩ := D
    cases ov with
    | some t => rw [q] at hg'; cases hg'.2
    | none =>
      obtain ⟨a, es, m, m1, m2, m3⟩ := hG.get q
      refine ⟨a, es, m, T, by show p.mg (((gs[g]?).map (·.nm)).getD "") = _; rw [q]; exact m1, m2, m3, fun ts st t st' h => ?_, fun ts st t st' h => ?_⟩
      · rw [Phi_g (by omega)] at h
        unfold gphi at h
        rw [if_neg (by omega), if_pos (by omega), show 2000 + g - 2000 = g by omega, q] at h
        split at h
        · rename_i z; cases z
          split at h
          · rename_i z2; cases h; exact ⟨_, rfl, z2, rfl⟩
          · cases h
        · cases h
      · rw [Phi_g (by omega)] at h
        unfold gphi at h
        rw [if_neg (by omega), if_neg (by omega), show 3000 + g - 3000 = g by omega, q] at h
        split at h
        · rename_i z; cases z
          cases h; exact ⟨_, rfl, rfl, rfl⟩
        · cases h
theorem lib_all {p : Pr} {ds : List DefD} {gs : List GD} (F : Nat) (hT : AllP (Told p.K p.mg) ds) (hG : AllG (ToldG p.K p.w p.mg) gs) (hB : AllP BindOk ds) (hC : AllP (fun D => okD ds gs D = true) ds) (bi : ∀ x ∈ biNames, p.mg x = none) : ∀ n N, Lib p n (sxOf ds gs N) (Phi ds gs F n)
  | 0, N => by
    refine ⟨fun i hi => ?_, bi, lib_gc hG, lib_tb hG⟩
    have hi' : (decide (i < 1000) && (ds[i]?).isSome) = true := hi
    rw [Bool.and_eq_true, decide_eq_true_eq] at hi'
    obtain ⟨D, hD⟩ := Option.isSome_iff_exists.mp hi'.2
    obtain ⟨f, fd, m, kp, Fu⟩ := hT.get hD
    refine ⟨f, by show p.mg (((ds[i]?).map (·.nm)).getD "") = _; rw [hD]; exact m, kp, ?_⟩
    rintro A outer s H us vs Q E _ _ _ _ ⟨ω, st, ts, _, _, z⟩
    have e : Phi ds gs F 0 i ts st = .bad := if_pos hi'.1
    rw [e] at z
    exact z.elim
  | n + 1, N => by
    refine ⟨fun i hi => ?_, bi, lib_gc hG, lib_tb hG⟩
    have hi' : (decide (i < 1000) && (ds[i]?).isSome) = true := hi
    rw [Bool.and_eq_true, decide_eq_true_eq] at hi'
    obtain ⟨D, hD⟩ := Option.isSome_iff_exists.mp hi'.2
    obtain ⟨f, fd, m, kp, Fu⟩ := hT.get hD
    refine ⟨f, by show p.mg (((ds[i]?).map (·.nm)).getD "") = _; rw [hD]; exact m, kp, ?_⟩
    have e1 : (sxOf ds gs N).fr i = D.fr := by show ((ds[i]?).map (·.fr)).getD false = _; rw [hD]; rfl
    have e2 : Phi ds gs F (n + 1) i = run (Phi ds gs F n) F D.fn := by
      funext args st
      show (if i < 1000 then (match ds[i]? with
        | some D => run (Phi ds gs F n) F D.fn args st
        | none => .bad) else _) = _
      rw [if_pos hi'.1, hD]
    rw [e1, e2]
    exact told_fn (fun N => lib_all F hT hG hB hC bi n N) Fu (hC.get hD) (hB.get hD)
/-- the law's def, told among the defs -/
theorem law_fn {p : Pr} {ds : List DefD} {gs : List GD} {F n i : Nat} {D : DefD} {fa : Addr} (hT : AllP (Told p.K p.mg) ds) (hG : AllG (ToldG p.K p.w p.mg) gs) (hB : AllP BindOk ds) (hC : AllP (fun D => okD ds gs D = true) ds) (bi : ∀ x ∈ biNames, p.mg x = none) (hi : i < 1000) (hD : ds[i]? = some D) (hf : D.fr = false) (hm : p.mg D.nm = some (.ref fa)) :
    FnG p n fa (spOf p.K false (Phi ds gs F n i)) := by
  obtain ⟨f, m, _, G⟩ := (lib_all F hT hG hB hC bi n []).fn i (by show (decide (i < 1000) && (ds[i]?).isSome) = true; rw [hD, Bool.and_eq_true, decide_eq_true_eq]; exact ⟨hi, rfl⟩)
  have e0 : (sxOf ds gs []).nm i = D.nm := by show ((ds[i]?).map (·.nm)).getD ("" : Str) = _; rw [hD]; rfl
  have e1 : (sxOf ds gs []).fr i = D.fr := by show ((ds[i]?).map (·.fr)).getD false = _; rw [hD]; rfl
  rw [e0, hm] at m
  cases m
  rw [e1, hf] at G
  exact G
theorem law_is {P : Program} {w : World} {K : PySem.W.Frag} {mg : Str → Option Value} {base : Heap} {ds : List DefD} {gs : List GD} {F n i : Nat} {D : DefD} {fa : Addr} (hT : AllP (Told K mg) ds) (hG : AllG (ToldG K w mg) gs) (hB : AllP BindOk ds) (hC : AllP (fun D => okD ds gs D = true) ds) (bi : ∀ x ∈ biNames, mg x = none) (hi : i < 1000) (hD : ds[i]? = some D) (hf : D.fr = false) (hm : mg D.nm = some (.ref fa)) :
    FnG ⟨P, w, K, mg, base⟩ n fa (spOf K false (Phi ds gs F n i)) := law_fn (p := ⟨P, w, K, mg, base⟩) hT hG hB hC bi hi hD hf hm
theorem bi_of {K : PySem.W.Frag} {h : Heap} {mg : Str → Option Value} (X : K.In h) (G : h.Ns mainGlobals mg)
    (z0 : PySem.W.nsIn K mainGlobals "len" = some none) (z1 : PySem.W.nsIn K mainGlobals "int" = some none) (z2 : PySem.W.nsIn K mainGlobals "tuple" = some none) (z3 : PySem.W.nsIn K mainGlobals "list" = some none) (z4 : PySem.W.nsIn K mainGlobals "isinstance" = some none) (z5 : PySem.W.nsIn K mainGlobals "all" = some none) (z6 : PySem.W.nsIn K mainGlobals "range" = some none) (z7 : PySem.W.nsIn K mainGlobals "zip" = some none) (z8 : PySem.W.nsIn K mainGlobals "bool" = some none) (z9 : PySem.W.nsIn K mainGlobals "str" = some none) (z10 : PySem.W.nsIn K mainGlobals "sorted" = some none) (z11 : PySem.W.nsIn K mainGlobals "set" = some none) (z12 : PySem.W.nsIn K mainGlobals "dict" = some none) (z13 : PySem.W.nsIn K mainGlobals "repr" = some none) (z14 : PySem.W.nsIn K mainGlobals "enumerate" = some none) (z15 : PySem.W.nsIn K mainGlobals "any" = some none) (z16 : PySem.W.nsIn K mainGlobals "max" = some none) (z17 : PySem.W.nsIn K mainGlobals "min" = some none) (z18 : PySem.W.nsIn K mainGlobals "sum" = some none) : ∀ x ∈ biNames, mg x = none := by
  intro x hx
  unfold biNames at hx
  simp only [List.mem_cons, List.not_mem_nil, or_false] at hx
  rcases hx with rfl | rfl | rfl | rfl | rfl | rfl | rfl | rfl | rfl | rfl | rfl | rfl | rfl | rfl | rfl | rfl | rfl | rfl | rfl
  all_goals exact PySem.W.mg_none_of X G ‹_›
end Ev
namespace Ev
open PySem L2
/-! ### what a run ends in -/
def R.wp {α : Type} (r : R α) (Q : α → Cel → Prop) : Prop := match r with
  | .ok a st => Q a st
  | _ => False
theorem R.wp_congr {α : Type} {r r' : R α} {Q : α → Cel → Prop} (h : r = r') : r.wp Q = r'.wp Q := by rw [h]
theorem R.wp_ok {α : Type} (a : α) (st : Cel) (Q : α → Cel → Prop) : (R.ok a st).wp Q = Q a st := rfl
theorem R.wp_exc {α : Type} (e : EX) (st : Cel) (Q : α → Cel → Prop) : (R.exc e st : R α).wp Q = False := rfl
theorem R.wp_bad {α : Type} (Q : α → Cel → Prop) : (R.bad : R α).wp Q = False := rfl
theorem R.wp_bind {α β : Type} (r : R α) (f : α → Cel → R β) (Q : β → Cel → Prop) : (r.bind f).wp Q = r.wp fun a st => (f a st).wp Q := by cases r <;> rfl
theorem R.wp_noexc {α : Type} (r : R α) (Q : α → Cel → Prop) : r.noexc.wp Q = r.wp Q := by cases r <;> rfl
theorem R.wp_ite {α : Type} (c : Prop) [Decidable c] (a b : R α) (Q : α → Cel → Prop) : (if c then a else b).wp Q = ((c → a.wp Q) ∧ (¬ c → b.wp Q)) := by
  by_cases h : c <;> simp [h]
theorem R.wp_mono {α : Type} {r : R α} {Q Q' : α → Cel → Prop} (h : r.wp Q) (i : ∀ a st, Q a st → Q' a st) : r.wp Q' := by
  cases r with
  | ok a st => exact i a st h
  | exc e st => exact h
  | bad => exact h
theorem R.wp_eq {α : Type} {r : R α} {Q : α → Cel → Prop} (h : r.wp Q) : ∃ a st, r = .ok a st ∧ Q a st := by
  cases r with
  | ok a st => exact ⟨a, st, rfl, h⟩
  | exc e st => exact h.elim
  | bad => exact h.elim
def RS.wp (r : RS) (N : En → Cel → Prop) (T : PV → Cel → Prop) (B C : En → Cel → Prop) : Prop := match r with
  | .nx ρ st => N ρ st
  | .rt v st => T v st
  | .bk ρ st => B ρ st
  | .ct ρ st => C ρ st
  | _ => False
section
variable (N : En → Cel → Prop) (T : PV → Cel → Prop) (B C : En → Cel → Prop)
theorem RS.wp_congr {r r' : RS} {N : En → Cel → Prop} {T : PV → Cel → Prop} {B C : En → Cel → Prop} (h : r = r') : r.wp N T B C = r'.wp N T B C := by rw [h]
theorem RS.wp_nx (ρ : En) (st : Cel) : (RS.nx ρ st).wp N T B C = N ρ st := rfl
theorem RS.wp_rt (v : PV) (st : Cel) : (RS.rt v st).wp N T B C = T v st := rfl
theorem RS.wp_bk (ρ : En) (st : Cel) : (RS.bk ρ st).wp N T B C = B ρ st := rfl
theorem RS.wp_ct (ρ : En) (st : Cel) : (RS.ct ρ st).wp N T B C = C ρ st := rfl
theorem RS.wp_exc (e : EX) (ρ : En) (st : Cel) : (RS.exc e ρ st).wp N T B C = False := rfl
theorem RS.wp_bad : RS.bad.wp N T B C = False := rfl
theorem RS.wp_seq (r : RS) (f : En → Cel → RS) : (r.seq f).wp N T B C = r.wp (fun ρ st => (f ρ st).wp N T B C) T B C := by cases r <;> rfl
theorem RS.wp_then {α : Type} (r : R α) (ρ : En) (f : α → Cel → RS) : (r.then ρ f).wp N T B C = r.wp fun a st => (f a st).wp N T B C := by cases r <;> rfl
theorem RS.wp_ite (c : Prop) [Decidable c] (a b : RS) : (if c then a else b).wp N T B C = ((c → a.wp N T B C) ∧ (¬ c → b.wp N T B C)) := by
  by_cases h : c <;> simp [h]
theorem RS.wp_nextL (r : RS) (k : En → Cel → RS) : (nextL r k).wp N T B C = r.wp (fun ρ st => (k ρ st).wp N T B C) T N (fun ρ st => (k ρ st).wp N T B C) := by cases r <;> rfl
theorem wp_fin (r : RS) (Q : PV → Cel → Prop) : (fin r).wp Q = r.wp (fun _ st => Q .non st) Q (fun _ _ => False) (fun _ _ => False) := by cases r <;> rfl
end
theorem RS.wp_mono {r : RS} {N N' : En → Cel → Prop} {T T' : PV → Cel → Prop} {B B' C C' : En → Cel → Prop} (h : r.wp N T B C) (hN : ∀ ρ st, N ρ st → N' ρ st) (hT : ∀ v st, T v st → T' v st) (hB : ∀ ρ st, B ρ st → B' ρ st) (hC : ∀ ρ st, C ρ st → C' ρ st) : r.wp N' T' B' C' := by
  cases r with
  | nx ρ st => exact hN _ _ h
  | rt v st => exact hT _ _ h
  | bk ρ st => exact hB _ _ h
  | ct ρ st => exact hC _ _ h
  | exc e ρ st => exact h
  | bad => exact h
/-- a walk by what holds of the rest -/
theorem forL_wp {f : PV → En → Cel → RS} {xs : List PV} {ρ : En} {st : Cel} {N : En → Cel → Prop} {T : PV → Cel → Prop} {B C : En → Cel → Prop} (I : List PV → En → Cel → Prop) (h0 : I xs ρ st)
    (hs : ∀ x r ρ st, I (x :: r) ρ st → (f x ρ st).wp (I r) T N (I r)) (hN : ∀ ρ st, I [] ρ st → N ρ st) : (forL f xs ρ st).wp N T B C := by
  induction xs generalizing ρ st with
  | nil => exact hN _ _ h0
  | cons x xs ih =>
    rw [forL, RS.wp_nextL]
    exact RS.wp_mono (hs _ _ _ _ h0) (fun _ _ h => ih h) (fun _ _ h => h) (fun _ _ h => h) (fun _ _ h => ih h)
theorem compL_wp {f : PV → Cel → R (Option PV)} {xs : List PV} {st : Cel} {Q : List PV → Cel → Prop} (I : List PV → List PV → Cel → Prop) (h0 : I xs [] st)
    (hs : ∀ x r acc st, I (x :: r) acc st → (f x st).wp fun o st' => I r (acc ++ o.toList) st') (hQ : ∀ ys st, I [] ys st → Q ys st) : (compL f xs st).wp Q := by
  have key : ∀ (xs acc : List PV) (st : Cel), I xs acc st → (compL f xs st).wp fun ys st' => Q (acc ++ ys) st' := by
    intro xs
    induction xs with
    | nil => intro acc st h; rw [compL, R.wp_ok, List.append_nil]; exact hQ _ _ h
    | cons x xs ih =>
      intro acc st h
      obtain ⟨o, st', e, h'⟩ := R.wp_eq (hs _ _ _ _ h)
      rw [compL, e]
      show ((compL f xs st').bind _).wp _
      rw [R.wp_bind]
      refine R.wp_mono (ih _ _ h') fun ys st2 q => ?_
      rw [R.wp_ok]
      cases o with
      | none => simpa using q
      | some y => simpa using q
  simpa using key xs [] st h0
theorem compL_pure {f : PV → Cel → R (Option PV)} {st : Cel} (g : PV → Option PV) : ∀ {xs : List PV}, (∀ x ∈ xs, f x st = .ok (g x) st) → compL f xs st = .ok (xs.filterMap g) st
  | [], _ => rfl
  | x :: xs, h => by
    rw [compL, h x (List.mem_cons_self ..)]
    show (compL f xs st).bind _ = _
    rw [compL_pure g fun y hy => h y (List.mem_cons_of_mem _ hy), R.bind_ok, List.filterMap_cons]
    cases g x <;> rfl
theorem compL_map {f : PV → Cel → R (Option PV)} {st : Cel} (g : PV → PV) {xs : List PV} (h : ∀ x ∈ xs, f x st = .ok (some (g x)) st) : compL f xs st = .ok (xs.map g) st := by
  rw [compL_pure (fun x => some (g x)) h]; congr 1; exact congrFun (List.filterMap_eq_map (f := g)) xs
/-! ### the equations of the evaluator, for simp -/
def getV (o : Option Slot) (st : Cel) : R PV := match o with
  | some (.val v) => .ok v st
  | _ => .bad
@[simp] theorem getV_val (v : PV) (st : Cel) : getV (some (.val v)) st = .ok v st := rfl
def getB (o : Option Slot) (st : Cel) : R PV := match o with
  | some (.own v) => .ok v st
  | some (.val v) => .ok v st
  | _ => .bad
@[simp] theorem getB_val (v : PV) (st : Cel) : getB (some (.val v)) st = .ok v st := rfl
@[simp] theorem getB_own (v : PV) (st : Cel) : getB (some (.own v)) st = .ok v st := rfl
def ifR {α : Type} (x : PV) (a b : R α) : R α := match x with
  | .bl true => a
  | .bl false => b
  | _ => .bad
@[simp] theorem ifR_bl {α : Type} (c : Bool) (a b : R α) : ifR (.bl c) a b = if c then a else b := by cases c <;> rfl
@[simp] theorem ifR_int {α : Type} (c : Int) (a b : R α) : ifR (.int c) a b = .bad := rfl
section
variable (Φ : Nat → List PV → Cel → R PV) (F : Nat) (ρ : En) (st : Cel)
theorem ev_var (i : Nat) : ev Φ (.var i) ρ st = getV ρ[i]? st := rfl
theorem ev_bor (i : Nat) : ev Φ (.bor i) ρ st = getB ρ[i]? st := rfl
theorem ev_int (i : Int) : ev Φ (.int i) ρ st = .ok (.int i) st := rfl
theorem ev_str (i : Str) : ev Φ (.str i) ρ st = .ok (.str i) st := rfl
theorem ev_bl (i : Bool) : ev Φ (.bl i) ρ st = .ok (.bl i) st := rfl
theorem ev_non : ev Φ .non ρ st = .ok .non st := rfl
theorem ev_bin (op : BOp) (a b : C) : ev Φ (.bin op a b) ρ st = (ev Φ a ρ st).bind fun x st => (ev Φ b ρ st).bind fun y st => R.of (binV op x y) st := rfl
theorem ev_neg (a : C) : ev Φ (.neg a) ρ st = (ev Φ a ρ st).bind fun x st => R.of (negV x) st := rfl
theorem ev_not (a : C) : ev Φ (.not a) ρ st = (ev Φ a ρ st).bind fun x st => R.of (notV x) st := rfl
theorem ev_cmp (op : COp) (a b : C) : ev Φ (.cmp op a b) ρ st = (ev Φ a ρ st).bind fun x st => (ev Φ b ρ st).bind fun y st => R.of ((cmpV op x y).map .bl) st := rfl
theorem ev_and (a b : C) : ev Φ (.and a b) ρ st = (ev Φ a ρ st).bind fun x st => ifR x (ev Φ b ρ st) (.ok (.bl false) st) := by
  rw [ev]; congr
theorem ev_or (a b : C) : ev Φ (.or a b) ρ st = (ev Φ a ρ st).bind fun x st => ifR x (.ok (.bl true) st) (ev Φ b ρ st) := by
  rw [ev]; congr
theorem ev_ite (t a b : C) : ev Φ (.ite t a b) ρ st = (ev Φ t ρ st).bind fun x st => ifR x (ev Φ a ρ st) (ev Φ b ρ st) := by
  rw [ev]; congr
theorem ev_tup (es : Cs) : ev Φ (.tup es) ρ st = (evs Φ es ρ st).bind fun xs st => if szOk xs.length then .ok (.tup xs) st else .bad := rfl
theorem ev_lst (es : Cs) : ev Φ (.lst es) ρ st = (evs Φ es ρ st).bind fun xs st => if szOk xs.length then .ok (.lst xs) st else .bad := rfl
theorem ev_call (f : Nat) (es : Cs) : ev Φ (.call f es) ρ st = (evs Φ es ρ st).bind fun xs st => (Φ f xs st).noexc := rfl
theorem ev_len (a : C) : ev Φ (.len a) ρ st = (ev Φ a ρ st).bind fun x st => R.of (lenV x) st := rfl
theorem ev_toInt (a : C) : ev Φ (.toInt a) ρ st = (ev Φ a ρ st).bind fun x st => R.of (toIntV x) st := rfl
theorem ev_tupleOf (a : C) : ev Φ (.tupleOf a) ρ st = (ev Φ a ρ st).bind fun x st => R.of (tupleV x) st := rfl
theorem ev_listOf (a : C) : ev Φ (.listOf a) ρ st = (ev Φ a ρ st).bind fun x st => R.of (listV x) st := rfl
theorem ev_isa (a : C) (t : Ty) : ev Φ (.isa a t) ρ st = (ev Φ a ρ st).bind fun x st => R.of ((isaV x t).map .bl) st := rfl
theorem ev_all (a : C) : ev Φ (.all a) ρ st = (ev Φ a ρ st).bind fun x st => R.of (allV x) st := rfl
def isL : PV → Bool
  | .lst _ => true
  | _ => false
theorem ev_indexOf (a b : C) : ev Φ (.indexOf a b) ρ st = (ev Φ a ρ st).bind fun x st => if isL x then (ev Φ b ρ st).bind fun y st => R.of (indexV x y) st else .bad := by
  rw [ev]; congr; funext x st; cases x <;> rfl
theorem ev_ix (a i : C) : ev Φ (.ix a i) ρ st = (ev Φ a ρ st).bind fun x st => (ev Φ i ρ st).bind fun y st => R.of (ixV st x y) st := rfl
theorem ev_sl (a : C) (lo hi : Cs) : ev Φ (.sl a lo hi) ρ st = (ev Φ a ρ st).bind fun x st => (evo Φ lo ρ st).bind fun l st => (evo Φ hi ρ st).bind fun h st => R.of (slV x l h) st := rfl
theorem ev_comp (elt : C) (tg : List Nat) (it : C) (ifs : Cs) (own : List Nat) : ev Φ (.comp elt tg it ifs own) ρ st = (ev Φ it ρ st).bind fun iv st => (R.of (itemsOf iv) st).bind fun xs st => (compL (turnF Φ elt tg ifs own ρ) xs st).bind fun ys st => if szOk ys.length then .ok (.lst ys) st else .bad := by
  rw [ev]; congr; funext x st; cases itemsOf x <;> rfl
theorem turnF_eq (elt : C) (tg : List Nat) (ifs : Cs) (own : List Nat) (x : PV) : turnF Φ elt tg ifs own ρ x st = (R.of (assignT tg x (wipeE ρ own)) st).bind fun ρ1 st => (evt Φ ifs ρ1 st).bind fun b st => if b then (ev Φ elt ρ1 st).bind fun y st => .ok (some y) st else .ok none st := by
  unfold turnF; cases assignT tg x (wipeE ρ own) <;> rfl
theorem ev_rng1 (a : C) : ev Φ (.rng1 a) ρ st = (ev Φ a ρ st).bind fun x st => R.of (rng1V x) st := rfl
theorem ev_rng2 (a b : C) : ev Φ (.rng2 a b) ρ st = (ev Φ a ρ st).bind fun x st => (ev Φ b ρ st).bind fun y st => R.of (rng2V x y) st := rfl
theorem ev_zip2 (a b : C) : ev Φ (.zip2 a b) ρ st = (ev Φ a ρ st).bind fun x st => (ev Φ b ρ st).bind fun y st => R.of (zipV x y) st := rfl
theorem ev_repr (a : C) : ev Φ (.repr a) ρ st = (ev Φ a ρ st).bind fun x st => R.of (reprV x) st := rfl
theorem ev_dct (a : Cs) : ev Φ (.dct a) ρ st = (evs Φ a ρ st).bind fun x st => R.of (dctV x) st := rfl
theorem ev_dget (a b : C) : ev Φ (.dget a b) ρ st = (ev Φ a ρ st).bind fun x st => (ev Φ b ρ st).bind fun y st => R.of (dgetV x y) st := rfl
theorem ev_any (a : C) : ev Φ (.any a) ρ st = (ev Φ a ρ st).bind fun x st => R.of (anyV x) st := rfl
theorem ev_str1 (a : C) : ev Φ (.str1 a) ρ st = (ev Φ a ρ st).bind fun x st => R.of (str1V x) st := rfl
def ifO {α : Type} (o : Option Bool) (a b : R α) : R α := match o with
  | some true => a
  | some false => b
  | none => .bad
@[simp] theorem ifO_some {α : Type} (c : Bool) (a b : R α) : ifO (some c) a b = if c then a else b := by cases c <;> rfl
theorem ev_chain (o1 o2 : COp) (a b c : C) : ev Φ (.chain o1 o2 a b c) ρ st = (ev Φ a ρ st).bind fun x st => (ev Φ b ρ st).bind fun y st => ifO (cmpV o1 x y) ((ev Φ c ρ st).bind fun z st => R.of ((cmpV o2 y z).map .bl) st) (.ok (.bl false) st) := by
  rw [ev]; congr
theorem ev_gc (g : Nat) : ev Φ (.gc g) ρ st = (Φ (1000 + g) [] st).noexc := rfl
theorem ev_kget (g : Nat) (k : C) : ev Φ (.kget g k) ρ st = (ev Φ k ρ st).bind fun x st => (Φ (2000 + g) [x] st).noexc := rfl
theorem ev_kin (neg : Bool) (g : Nat) (k : C) : ev Φ (.kin neg g k) ρ st = (ev Φ k ρ st).bind fun x st => (Φ (3000 + g) [x] st).noexc.bind fun b st => if neg then R.of (notV b) st else .ok b st := rfl
theorem ev_comp2 (elt : C) (tg : List Nat) (it : C) (tg2 : List Nat) (it2 : C) (ifs : Cs) (own own2 : List Nat) : ev Φ (.comp2 elt tg it tg2 it2 ifs own own2) ρ st = (ev Φ it ρ st).bind fun iv st => (R.of (itemsOf iv) st).bind fun xs st => (flatL (turn2 Φ elt tg tg2 it2 ifs own own2 ρ) xs st).bind fun ys st => if szOk ys.length then .ok (.lst ys) st else .bad := by
  rw [ev]; congr; funext x st; cases itemsOf x <;> rfl
theorem turn2_eq (elt : C) (tg tg2 : List Nat) (it2 : C) (ifs : Cs) (own own2 : List Nat) (x : PV) : turn2 Φ elt tg tg2 it2 ifs own own2 ρ x st = (R.of (assignT tg x (wipeE ρ own)) st).bind fun ρ1 st => (ev Φ it2 ρ1 st).bind fun iv st => (R.of (itemsOf iv) st).bind fun ys st => compL (turnF Φ elt tg2 ifs own2 ρ1) ys st := by
  unfold turn2; cases assignT tg x (wipeE ρ own) with
  | none => rfl
  | some ρ1 =>
    show (ev Φ it2 ρ1 st).bind _ = (ev Φ it2 ρ1 st).bind _
    congr; funext iv st; cases itemsOf iv <;> rfl
theorem ev_enum (a : C) : ev Φ (.enum a) ρ st = (ev Φ a ρ st).bind fun x st => R.of (enumV x) st := rfl
def isS : PV → Bool
  | .str _ => true
  | _ => false
@[simp] theorem isS_str (s : Str) : isS (.str s) = true := rfl
theorem ev_join (a b : C) : ev Φ (.join a b) ρ st = (ev Φ a ρ st).bind fun x st => if isS x then (ev Φ b ρ st).bind fun y st => R.of (joinV x y) st else .bad := by
  rw [ev]; congr; funext x st; cases x <;> rfl
theorem ev_fstr (es : Cs) : ev Φ (.fstr es) ρ st = (evj Φ es Str.empty ρ st).bind fun s st => .ok (.str s) st := rfl
theorem evj_nil (acc : Str) : evj Φ .nil acc ρ st = .ok acc st := rfl
theorem evj_cons (a : C) (r : Cs) (acc : Str) : evj Φ (.cons a r) acc ρ st = (ev Φ a ρ st).bind fun x st => (R.of (fmtV acc x) st).bind fun acc' st => evj Φ r acc' ρ st := by
  rw [evj]; congr; funext x st; cases fmtV acc x <;> rfl
def isD : PV → Bool
  | .dct _ _ => true
  | _ => false
theorem ev_dgetD (a b : C) : ev Φ (.dgetD a b) ρ st = (ev Φ a ρ st).bind fun x st => if isD x then (ev Φ b ρ st).bind fun y st => R.of (dgetN x y) st else .bad := by
  rw [ev]; congr; funext x st; cases x <;> rfl
theorem ev_cat (a b : C) : ev Φ (.cat a b) ρ st = (ev Φ a ρ st).bind fun x st => (ev Φ b ρ st).bind fun y st => R.of (catV x y) st := rfl
theorem ev_isa2 (a : C) (t u : Ty) : ev Φ (.isa2 a t u) ρ st = (ev Φ a ρ st).bind fun x st => R.of ((isa2V x t u).map .bl) st := rfl
theorem ev_revT (a : C) : ev Φ (.revT a) ρ st = (ev Φ a ρ st).bind fun x st => R.of (revTV x) st := rfl
theorem ev_rev (a : C) : ev Φ (.rev a) ρ st = (ev Φ a ρ st).bind fun x st => R.of (revV x) st := rfl
theorem ev_tupRng (a b : C) : ev Φ (.tupRng a b) ρ st = (ev Φ a ρ st).bind fun x st => (ev Φ b ρ st).bind fun y st => R.of (tupRngV x y) st := rfl
theorem ev_sset (a : C) : ev Φ (.sset a) ρ st = (ev Φ a ρ st).bind fun x st => R.of (ssetV x) st := rfl
theorem ev_sorted (a : C) : ev Φ (.sorted a) ρ st = (ev Φ a ρ st).bind fun x st => R.of (sortedV x) st := rfl
theorem evs_nil : evs Φ .nil ρ st = .ok [] st := rfl
theorem evs_cons (a : C) (r : Cs) : evs Φ (.cons a r) ρ st = (ev Φ a ρ st).bind fun x st => (evs Φ r ρ st).bind fun xs st => .ok (x :: xs) st := rfl
def starV : PV → Option (List PV)
  | .tup ys => some ys
  | .lst ys => some ys
  | _ => none
theorem evs_star (a : C) (r : Cs) : evs Φ (.star a r) ρ st = (ev Φ a ρ st).bind fun x st => (R.of (starV x) st).bind fun ys st => (evs Φ r ρ st).bind fun xs st => .ok (ys ++ xs) st := by
  rw [evs]; congr; funext x st; cases x <;> rfl
theorem evo_nil : evo Φ .nil ρ st = .ok none st := rfl
def oInt : PV → Option (Option Int)
  | .int i => some (some i)
  | _ => none
@[simp] theorem oInt_int (i : Int) : oInt (.int i) = some (some i) := rfl
theorem evo_cons (a : C) : evo Φ (.cons a .nil) ρ st = (ev Φ a ρ st).bind fun x st => R.of (oInt x) st := by
  rw [evo]; congr; funext x st; cases x <;> rfl
theorem evt_nil : evt Φ .nil ρ st = .ok true st := rfl
theorem evt_cons (a : C) : evt Φ (.cons a .nil) ρ st = (ev Φ a ρ st).bind fun x st => R.of (blV x) st := rfl
@[simp] theorem blV_bl (b : Bool) : blV (.bl b) = some b := rfl
/-! statements -/
def thenO (o : Option En) (st : Cel) : RS := match o with
  | some ρ1 => .nx ρ1 st
  | none => .bad
@[simp] theorem thenO_some (ρ1 : En) (st : Cel) : thenO (some ρ1) st = .nx ρ1 st := rfl
theorem evS_asg (tg : List Nat) (e : C) : evS Φ F (.asg tg e) ρ st = (ev Φ e ρ st).then ρ fun x st => thenO (assignT tg x ρ) st := by
  rw [evS]; congr
theorem evS_par (is : List Nat) (es : Cs) : evS Φ F (.par is es) ρ st = (evs Φ es ρ st).then ρ fun xs st => if xs.length = is.length then .nx ((is.zip xs).foldl (fun ρ p => set1 ρ p.1 p.2) ρ) st else .bad := rfl
def lstV : PV → Option (List PV)
  | .lst xs => some xs
  | _ => none
@[simp] theorem lstV_lst (xs : List PV) : lstV (.lst xs) = some xs := rfl
def thenL (o : Option (List PV)) (k : List PV → RS) : RS := match o with
  | some xs => k xs
  | none => .bad
@[simp] theorem thenL_some (xs : List PV) (k : List PV → RS) : thenL (some xs) k = k xs := rfl
theorem evS_asgO (i : Nat) (e : C) : evS Φ F (.asgO i e) ρ st = (ev Φ e ρ st).then ρ fun x st => thenL (lstV x) fun xs => .nx (ρ.set i (.own (.lst xs))) st := by
  rw [evS]; congr; funext x st; cases x <;> rfl
theorem evS_asgC (i : Nat) (e : C) : evS Φ F (.asgC i e) ρ st = (ev Φ e ρ st).then ρ fun x st => thenL (lstV x) fun xs => .nx (ρ.set i (.val (.cell st.length))) (st ++ [.lst xs]) := by
  rw [evS]; congr; funext x st; cases x <;> rfl
def setCel (st : Cel) (x o j : PV) : Option Cel := match o, j with
  | .cell k, .int j => (match st[k]? with
    | some (.lst xs) => (match ixP xs.length j with
      | some n => some (st.set k (.lst (xs.set n x)))
      | none => none)
    | _ => none)
  | _, _ => none
def thenS (o : Option Cel) (ρ : En) : RS := match o with
  | some st => .nx ρ st
  | none => .bad
@[simp] theorem thenS_some (st : Cel) (ρ : En) : thenS (some st) ρ = .nx ρ st := rfl
theorem evS_setI (a i e : C) : evS Φ F (.setI a i e) ρ st = (ev Φ e ρ st).then ρ fun x st => (ev Φ a ρ st).then ρ fun o st => (ev Φ i ρ st).then ρ fun j st => thenS (setCel st x o j) ρ := by
  rw [evS]; congr; funext x st; congr; funext o st; congr; funext j st
  unfold setCel
  cases o <;> try rfl
  cases j <;> try rfl
  rename_i k j
  show (match st[k]? with
      | some (.lst xs) => (match ixP xs.length j with
        | some n => RS.nx ρ (st.set k (.lst (xs.set n x)))
        | none => .bad)
      | _ => .bad) = thenS (match st[k]? with
    | some (.lst xs) => (match ixP xs.length j with
      | some n => some (st.set k (.lst (xs.set n x)))
      | none => none)
    | _ => none) ρ
  cases st[k]? with
  | none => rfl
  | some v =>
    cases v <;> try rfl
    rename_i xs
    show (match ixP xs.length j with
        | some n => RS.nx ρ (st.set k (.lst (xs.set n x)))
        | none => .bad) = thenS (match ixP xs.length j with
      | some n => some (st.set k (.lst (xs.set n x)))
      | none => none) ρ
    cases ixP xs.length j <;> rfl
def ownL (o : Option Slot) : Option (List PV) := match o with
  | some (.own (.lst xs)) => some xs
  | _ => none
@[simp] theorem ownL_own (xs : List PV) : ownL (some (.own (.lst xs))) = some xs := rfl
theorem evS_app (i : Nat) (e : C) : evS Φ F (.app i e) ρ st = thenL (ownL ρ[i]?) fun xs => (ev Φ e ρ st).then ρ fun x st => if szOk (xs.length + 1) then .nx (ρ.set i (.own (.lst (xs ++ [x])))) st else .bad := by
  rw [evS]
  cases ρ[i]? with
  | none => rfl
  | some v =>
    cases v <;> try rfl
    rename_i v
    cases v <;> rfl
theorem evS_ext (i : Nat) (e : C) : evS Φ F (.ext i e) ρ st = thenL (ownL ρ[i]?) fun xs => (ev Φ e ρ st).then ρ fun x st => thenL (lstV x) fun ys => if szOk (xs.length + ys.length) then .nx (ρ.set i (.own (.lst (xs ++ ys)))) st else .bad := by
  rw [evS]
  cases ρ[i]? with
  | none => rfl
  | some v =>
    cases v <;> try rfl
    rename_i v
    cases v <;> try rfl
    show (ev Φ e ρ st).then ρ _ = (ev Φ e ρ st).then ρ _
    congr; funext x st; cases x <;> rfl
theorem evS_if (t : C) (a b : Ss) : evS Φ F (.if_ t a b) ρ st = (ev Φ t ρ st).then ρ fun x st => ifB x (evSs Φ F a ρ st) (evSs Φ F b ρ st) := rfl
def bodyL (tg : List Nat) (b : Ss) (x : PV) (ρ : En) (st : Cel) : RS := match assignT tg x ρ with
  | some ρ1 => evSs Φ F b ρ1 st
  | none => .bad
theorem bodyL_eq {tg : List Nat} {b : Ss} {x : PV} {ρ ρ1 : En} {st : Cel} (h : assignT tg x ρ = some ρ1) : bodyL Φ F tg b x ρ st = evSs Φ F b ρ1 st := by unfold bodyL; rw [h]
theorem bodyL_1 {i : Nat} {b : Ss} {x : PV} {ρ : En} {st : Cel} : bodyL Φ F [i] b x ρ st = evSs Φ F b (set1 ρ i x) st := rfl
theorem evS_for (tg : List Nat) (it : C) (b : Ss) : evS Φ F (.for_ tg it b) ρ st = (ev Φ it ρ st).then ρ fun iv st => thenL (itemsOf iv) fun xs => forL (bodyL Φ F tg b) xs ρ st := by
  rw [evS]; congr
theorem evS_while (t : C) (b : Ss) : evS Φ F (.while_ t b) ρ st = whileL (fun ρ st => ev Φ t ρ st) (fun ρ st => evSs Φ F b ρ st) F ρ st := rfl
theorem evS_ret (e : C) : evS Φ F (.ret e) ρ st = (ev Φ e ρ st).then ρ fun x st => .rt x st := rfl
theorem evS_expr (e : C) : evS Φ F (.expr e) ρ st = (ev Φ e ρ st).then ρ fun _ st => .nx ρ st := rfl
theorem evS_pass : evS Φ F .pass ρ st = .nx ρ st := rfl
theorem evS_brk : evS Φ F .brk ρ st = .bk ρ st := rfl
theorem evS_cnt : evS Φ F .cnt ρ st = .ct ρ st := rfl
def frzE (o : Option Slot) (i : Nat) (ρ : En) (st : Cel) : RS := match o with
  | some (.own v) => .nx (ρ.set i (.val v)) st
  | _ => .nx ρ st
@[simp] theorem frzE_own (v : PV) (i : Nat) : frzE (some (.own v)) i ρ st = .nx (ρ.set i (.val v)) st := rfl
@[simp] theorem frzE_val (v : PV) (i : Nat) : frzE (some (.val v)) i ρ st = .nx ρ st := rfl
@[simp] theorem frzE_emp (i : Nat) : frzE (some .emp) i ρ st = .nx ρ st := rfl
theorem evS_frz (i : Nat) : evS Φ F (.frz i) ρ st = frzE ρ[i]? i ρ st := by
  rw [evS]; cases ρ[i]? with
  | none => rfl
  | some v => cases v <;> rfl
def tupV : PV → Option (List PV)
  | .tup xs => some xs
  | _ => none
@[simp] theorem tupV_tup (xs : List PV) : tupV (.tup xs) = some xs := rfl
theorem evS_ustar (is : List Nat) (j : Nat) (e : C) : evS Φ F (.ustar is j e) ρ st = (ev Φ e ρ st).then ρ fun x st => thenL (tupV x) fun xs => if is.length ≤ xs.length ∧ xs.length ≤ 16384 then .nx (set1 ((is.zip (xs.take is.length)).foldl (fun ρ p => set1 ρ p.1 p.2) ρ) j (.lst (xs.drop is.length))) st else .bad := by
  rw [evS]; congr; funext x st; cases x <;> rfl
theorem evS_popA (tg : List Nat) (i : Nat) : evS Φ F (.popA tg i) ρ st = thenL (ownL ρ[i]?) fun xs => (R.of xs[xs.length - 1]? st).then ρ fun y st => thenO (assignT tg y (ρ.set i (.own (.lst xs.dropLast)))) st := by
  rw [evS]
  cases ρ[i]? with
  | none => rfl
  | some v =>
    cases v <;> try rfl
    rename_i v
    cases v <;> try rfl
    rename_i xs
    show (match xs[xs.length - 1]? with
      | some y => (match assignT tg y (ρ.set i (.own (.lst xs.dropLast))) with
        | some ρ1 => RS.nx ρ1 st
        | none => .bad)
      | none => .bad) = (R.of xs[xs.length - 1]? st).then ρ _
    cases xs[xs.length - 1]? <;> rfl
theorem evS_popK (i : Nat) (k : C) : evS Φ F (.popK i k) ρ st = thenL (ownL ρ[i]?) fun xs => (ev Φ k ρ st).then ρ fun z st => thenL (popI xs z) fun ys => .nx (ρ.set i (.own (.lst ys))) st := by
  rw [evS]
  cases ρ[i]? with
  | none => rfl
  | some v =>
    cases v <;> try rfl
    rename_i v
    cases v <;> rfl
theorem evS_insO (i : Nat) (a e : C) : evS Φ F (.insO i a e) ρ st = thenL (ownL ρ[i]?) fun xs => (ev Φ a ρ st).then ρ fun z st => (ev Φ e ρ st).then ρ fun x st => thenL (insI xs z x) fun ys => .nx (ρ.set i (.own (.lst ys))) st := by
  rw [evS]
  cases ρ[i]? with
  | none => rfl
  | some v =>
    cases v <;> try rfl
    rename_i v
    cases v <;> rfl
theorem evS_setO (i : Nat) (a e : C) : evS Φ F (.setO i a e) ρ st = thenL (ownL ρ[i]?) fun xs => (ev Φ e ρ st).then ρ fun x st => (ev Φ a ρ st).then ρ fun z st => thenL (setI' xs z x) fun ys => .nx (ρ.set i (.own (.lst ys))) st := by
  rw [evS]
  cases ρ[i]? with
  | none => rfl
  | some v =>
    cases v <;> try rfl
    rename_i v
    cases v <;> rfl
theorem evS_parOV (i j : Nat) (a b : C) : evS Φ F (.parOV i j a b) ρ st = (ev Φ a ρ st).then ρ fun x st => thenL (lstOf x) fun xs => (ev Φ b ρ st).then ρ fun y st => if i = j then .bad else .nx ((ρ.set i (.own (.lst xs))).set j (.val y)) st := by
  rw [evS]; congr
theorem evS_parVO (i j : Nat) (a b : C) : evS Φ F (.parVO i j a b) ρ st = (ev Φ a ρ st).then ρ fun x st => (ev Φ b ρ st).then ρ fun y st => thenL (lstOf y) fun ys => if i = j then .bad else .nx ((ρ.set i (.val x)).set j (.own (.lst ys))) st := by
  rw [evS]; congr
theorem evSs_nil : evSs Φ F .nil ρ st = .nx ρ st := rfl
theorem evSs_cons (s : Ev.S) (r : Ss) : evSs Φ F (.cons s r) ρ st = (evS Φ F s ρ st).seq fun ρ st => evSs Φ F r ρ st := rfl
end
/-! ### the same, lazily: what stands behind is kept out of simp's sight -/
class Kp (α : Type) where
  run : α → Cel → Prop
class Kq where
  N : En → Cel → Prop
  T : PV → Cel → Prop
  B : En → Cel → Prop
  C : En → Cel → Prop
@[irreducible] def R.w {α : Type} (r : R α) [Q : Kp α] : Prop := r.wp Q.run
@[irreducible] def RS.w (r : RS) [Q : Kq] : Prop := r.wp Q.N Q.T Q.B Q.C
@[simp ↓] theorem Kp_run {α : Type} (f : α → Cel → Prop) (a : α) (st : Cel) : @Kp.run α ⟨f⟩ a st = f a st := rfl
section
variable (N : En → Cel → Prop) (T : PV → Cel → Prop) (B C : En → Cel → Prop) (ρ : En) (st : Cel)
@[simp ↓] theorem Kq_N : @Kq.N ⟨N, T, B, C⟩ ρ st = N ρ st := rfl
@[simp ↓] theorem Kq_T (v : PV) : @Kq.T ⟨N, T, B, C⟩ v st = T v st := rfl
@[simp ↓] theorem Kq_B : @Kq.B ⟨N, T, B, C⟩ ρ st = B ρ st := rfl
@[simp ↓] theorem Kq_C : @Kq.C ⟨N, T, B, C⟩ ρ st = C ρ st := rfl
end
theorem R.w_mono {α : Type} {r : R α} {Q Q' : Kp α} (h : @R.w α r Q) (i : ∀ a st, Q.run a st → Q'.run a st) : @R.w α r Q' := by with_unfolding_all exact R.wp_mono h i
theorem R.w_eq {α : Type} {r : R α} {Q : Kp α} (h : @R.w α r Q) : ∃ a st, r = .ok a st ∧ Q.run a st := by with_unfolding_all exact R.wp_eq h
section
variable {α β : Type} (Q : Kp α) (Qb : Kp β)
@[simp] theorem R.w_ok (a : α) (st : Cel) : @R.w α (.ok a st) Q = Q.run a st := by with_unfolding_all rfl
@[simp] theorem R.w_bad : @R.w α .bad Q = False := by with_unfolding_all rfl
@[simp] theorem R.w_exc (e : EX) (st : Cel) : @R.w α (.exc e st) Q = False := by with_unfolding_all rfl
@[simp ↓] theorem R.w_bind (r : R β) (f : β → Cel → R α) : @R.w α (r.bind f) Q = @R.w β r ⟨fun a st => @R.w α (f a st) Q⟩ := by with_unfolding_all exact R.wp_bind r f _
theorem R.w_bind2 {γ : Type} (Qc : Kp γ) (r : R α) (g : α → Cel → R β) (h : α → β → Cel → R γ) : @R.w γ (r.bind fun x st => (g x st).bind fun y st => h x y st) Qc = @R.w α r ⟨fun x st => @R.w β (g x st) ⟨fun y st => @R.w γ (h x y st) Qc⟩⟩ := by
  cases r with
  | ok a st => with_unfolding_all exact R.w_bind Qc (g a st) (fun y st => h a y st)
  | exc e st => with_unfolding_all rfl
  | bad => with_unfolding_all rfl
theorem R.w_bind3 {γ δ : Type} (Qd : Kp δ) (r : R α) (g : α → Cel → R β) (h : α → β → Cel → R γ) (k : α → β → γ → Cel → R δ) : @R.w δ (r.bind fun x st => (g x st).bind fun y st => (h x y st).bind fun z st => k x y z st) Qd = @R.w α r ⟨fun x st => @R.w β (g x st) ⟨fun y st => @R.w γ (h x y st) ⟨fun z st => @R.w δ (k x y z st) Qd⟩⟩⟩ := by
  cases r with
  | ok a st => with_unfolding_all exact R.w_bind2 Qd (g a st) (fun y st => h a y st) (fun y z st => k a y z st)
  | exc e st => with_unfolding_all rfl
  | bad => with_unfolding_all rfl
@[simp ↓] theorem R.w_noexc (r : R α) : @R.w α r.noexc Q = @R.w α r Q := by with_unfolding_all exact R.wp_noexc r _
@[simp ↓] theorem R.w_ite (c : Prop) [Decidable c] (a b : R α) : @R.w α (if c then a else b) Q = if c then @R.w α a Q else @R.w α b Q := by split <;> (with_unfolding_all rfl)
@[simp ↓] theorem R.w_ifR (c : Bool) (a b : R α) : @R.w α (ifR (.bl c) a b) Q = if c = true then @R.w α a Q else @R.w α b Q := by cases c <;> (with_unfolding_all rfl)
end
section
variable (Φ : Nat → List PV → Cel → R PV) (F : Nat) (ρ : En) (st : Cel) (Q : Kp PV) (Qs : Kp (List PV)) (Qb : Kp Bool) (Qo : Kp (Option Int)) (K : Kq)
@[simp ↓] theorem w_var (i : Nat) : @R.w _ (ev Φ (.var i) ρ st) Q = @R.w _ (getV ρ[i]? st) Q := by with_unfolding_all rfl
@[simp ↓] theorem w_bor (i : Nat) : @R.w _ (ev Φ (.bor i) ρ st) Q = @R.w _ (getB ρ[i]? st) Q := by with_unfolding_all rfl
@[simp ↓] theorem w_int (i : Int) : @R.w _ (ev Φ (.int i) ρ st) Q = Q.run (.int i) st := by with_unfolding_all rfl
@[simp ↓] theorem w_str (i : Str) : @R.w _ (ev Φ (.str i) ρ st) Q = Q.run (.str i) st := by with_unfolding_all rfl
@[simp ↓] theorem w_bl (i : Bool) : @R.w _ (ev Φ (.bl i) ρ st) Q = Q.run (.bl i) st := by with_unfolding_all rfl
@[simp ↓] theorem w_non : @R.w _ (ev Φ .non ρ st) Q = Q.run .non st := by with_unfolding_all rfl
@[simp ↓] theorem w_bin (op : BOp) (a b : C) : @R.w _ (ev Φ (.bin op a b) ρ st) Q = @R.w _ (ev Φ a ρ st) ⟨fun x st => @R.w _ (ev Φ b ρ st) ⟨fun y st => @R.w _ (R.of (binV op x y) st) Q⟩⟩ := by rw [ev_bin]; with_unfolding_all exact R.w_bind2 ..
@[simp ↓] theorem w_neg (a : C) : @R.w _ (ev Φ (.neg a) ρ st) Q = @R.w _ (ev Φ a ρ st) ⟨fun x st => @R.w _ (R.of (negV x) st) Q⟩ := by rw [ev_neg, R.w_bind]
@[simp ↓] theorem w_not (a : C) : @R.w _ (ev Φ (.not a) ρ st) Q = @R.w _ (ev Φ a ρ st) ⟨fun x st => @R.w _ (R.of (notV x) st) Q⟩ := by rw [ev_not, R.w_bind]
@[simp ↓] theorem w_cmp (op : COp) (a b : C) : @R.w _ (ev Φ (.cmp op a b) ρ st) Q = @R.w _ (ev Φ a ρ st) ⟨fun x st => @R.w _ (ev Φ b ρ st) ⟨fun y st => @R.w _ (R.of ((cmpV op x y).map .bl) st) Q⟩⟩ := by rw [ev_cmp]; with_unfolding_all exact R.w_bind2 ..
@[simp ↓] theorem w_and (a b : C) : @R.w _ (ev Φ (.and a b) ρ st) Q = @R.w _ (ev Φ a ρ st) ⟨fun x st => @R.w _ (ifR x (ev Φ b ρ st) (.ok (.bl false) st)) Q⟩ := by rw [ev_and, R.w_bind]
@[simp ↓] theorem w_or (a b : C) : @R.w _ (ev Φ (.or a b) ρ st) Q = @R.w _ (ev Φ a ρ st) ⟨fun x st => @R.w _ (ifR x (.ok (.bl true) st) (ev Φ b ρ st)) Q⟩ := by rw [ev_or, R.w_bind]
@[simp ↓] theorem w_ite (t a b : C) : @R.w _ (ev Φ (.ite t a b) ρ st) Q = @R.w _ (ev Φ t ρ st) ⟨fun x st => @R.w _ (ifR x (ev Φ a ρ st) (ev Φ b ρ st)) Q⟩ := by rw [ev_ite, R.w_bind]
@[simp ↓] theorem w_tup (es : Cs) : @R.w _ (ev Φ (.tup es) ρ st) Q = @R.w _ (evs Φ es ρ st) ⟨fun xs st => @R.w _ (if szOk xs.length then .ok (.tup xs) st else .bad) Q⟩ := by rw [ev_tup, R.w_bind]
@[simp ↓] theorem w_lst (es : Cs) : @R.w _ (ev Φ (.lst es) ρ st) Q = @R.w _ (evs Φ es ρ st) ⟨fun xs st => @R.w _ (if szOk xs.length then .ok (.lst xs) st else .bad) Q⟩ := by rw [ev_lst, R.w_bind]
@[simp ↓] theorem w_call (f : Nat) (es : Cs) : @R.w _ (ev Φ (.call f es) ρ st) Q = @R.w _ (evs Φ es ρ st) ⟨fun xs st => @R.w _ (Φ f xs st) Q⟩ := by rw [ev_call]; with_unfolding_all refine (R.w_bind ..).trans ?_; cases evs Φ es ρ st <;> first | (with_unfolding_all rfl) | (with_unfolding_all exact R.w_noexc ..)
@[simp ↓] theorem w_len (a : C) : @R.w _ (ev Φ (.len a) ρ st) Q = @R.w _ (ev Φ a ρ st) ⟨fun x st => @R.w _ (R.of (lenV x) st) Q⟩ := by rw [ev_len, R.w_bind]
@[simp ↓] theorem w_toInt (a : C) : @R.w _ (ev Φ (.toInt a) ρ st) Q = @R.w _ (ev Φ a ρ st) ⟨fun x st => @R.w _ (R.of (toIntV x) st) Q⟩ := by rw [ev_toInt, R.w_bind]
@[simp ↓] theorem w_tupleOf (a : C) : @R.w _ (ev Φ (.tupleOf a) ρ st) Q = @R.w _ (ev Φ a ρ st) ⟨fun x st => @R.w _ (R.of (tupleV x) st) Q⟩ := by rw [ev_tupleOf, R.w_bind]
@[simp ↓] theorem w_listOf (a : C) : @R.w _ (ev Φ (.listOf a) ρ st) Q = @R.w _ (ev Φ a ρ st) ⟨fun x st => @R.w _ (R.of (listV x) st) Q⟩ := by rw [ev_listOf, R.w_bind]
@[simp ↓] theorem w_isa (a : C) (t : Ty) : @R.w _ (ev Φ (.isa a t) ρ st) Q = @R.w _ (ev Φ a ρ st) ⟨fun x st => @R.w _ (R.of ((isaV x t).map .bl) st) Q⟩ := by rw [ev_isa, R.w_bind]
@[simp ↓] theorem w_all (a : C) : @R.w _ (ev Φ (.all a) ρ st) Q = @R.w _ (ev Φ a ρ st) ⟨fun x st => @R.w _ (R.of (allV x) st) Q⟩ := by rw [ev_all, R.w_bind]
@[simp ↓] theorem w_indexOf (a b : C) : @R.w _ (ev Φ (.indexOf a b) ρ st) Q = @R.w _ (ev Φ a ρ st) ⟨fun x st => @R.w _ (if isL x then (ev Φ b ρ st).bind fun y st => R.of (indexV x y) st else .bad) Q⟩ := by rw [ev_indexOf, R.w_bind]
@[simp ↓] theorem w_ix (a i : C) : @R.w _ (ev Φ (.ix a i) ρ st) Q = @R.w _ (ev Φ a ρ st) ⟨fun x st => @R.w _ (ev Φ i ρ st) ⟨fun y st => @R.w _ (R.of (ixV st x y) st) Q⟩⟩ := by rw [ev_ix]; with_unfolding_all exact R.w_bind2 ..
@[simp ↓] theorem w_sl (a : C) (lo hi : Cs) : @R.w _ (ev Φ (.sl a lo hi) ρ st) Q = @R.w _ (ev Φ a ρ st) ⟨fun x st => @R.w _ (evo Φ lo ρ st) ⟨fun l st => @R.w _ (evo Φ hi ρ st) ⟨fun h st => @R.w _ (R.of (slV x l h) st) Q⟩⟩⟩ := by rw [ev_sl]; with_unfolding_all exact R.w_bind3 ..
@[simp ↓] theorem w_comp (elt : C) (tg : List Nat) (it : C) (ifs : Cs) (own : List Nat) : @R.w _ (ev Φ (.comp elt tg it ifs own) ρ st) Q = @R.w _ (ev Φ it ρ st) ⟨fun iv st => @R.w _ (R.of (itemsOf iv) st) ⟨fun xs st => @R.w _ (compL (turnF Φ elt tg ifs own ρ) xs st) ⟨fun ys st => @R.w _ (if szOk ys.length then .ok (.lst ys) st else .bad) Q⟩⟩⟩ := by rw [ev_comp]; with_unfolding_all exact R.w_bind3 ..
@[simp ↓] theorem w_rng1 (a : C) : @R.w _ (ev Φ (.rng1 a) ρ st) Q = @R.w _ (ev Φ a ρ st) ⟨fun x st => @R.w _ (R.of (rng1V x) st) Q⟩ := by rw [ev_rng1, R.w_bind]
@[simp ↓] theorem w_rng2 (a b : C) : @R.w _ (ev Φ (.rng2 a b) ρ st) Q = @R.w _ (ev Φ a ρ st) ⟨fun x st => @R.w _ (ev Φ b ρ st) ⟨fun y st => @R.w _ (R.of (rng2V x y) st) Q⟩⟩ := by rw [ev_rng2]; with_unfolding_all exact R.w_bind2 ..
@[simp ↓] theorem w_zip2 (a b : C) : @R.w _ (ev Φ (.zip2 a b) ρ st) Q = @R.w _ (ev Φ a ρ st) ⟨fun x st => @R.w _ (ev Φ b ρ st) ⟨fun y st => @R.w _ (R.of (zipV x y) st) Q⟩⟩ := by rw [ev_zip2]; with_unfolding_all exact R.w_bind2 ..
@[simp ↓] theorem w_repr (a : C) : @R.w _ (ev Φ (.repr a) ρ st) Q = @R.w _ (ev Φ a ρ st) ⟨fun x st => @R.w _ (R.of (reprV x) st) Q⟩ := by rw [ev_repr, R.w_bind]
@[simp ↓] theorem w_dct (a : Cs) : @R.w _ (ev Φ (.dct a) ρ st) Q = @R.w _ (evs Φ a ρ st) ⟨fun x st => @R.w _ (R.of (dctV x) st) Q⟩ := by rw [ev_dct, R.w_bind]
@[simp ↓] theorem w_dget (a b : C) : @R.w _ (ev Φ (.dget a b) ρ st) Q = @R.w _ (ev Φ a ρ st) ⟨fun x st => @R.w _ (ev Φ b ρ st) ⟨fun y st => @R.w _ (R.of (dgetV x y) st) Q⟩⟩ := by rw [ev_dget]; with_unfolding_all exact R.w_bind2 ..
@[simp ↓] theorem w_any (a : C) : @R.w _ (ev Φ (.any a) ρ st) Q = @R.w _ (ev Φ a ρ st) ⟨fun x st => @R.w _ (R.of (anyV x) st) Q⟩ := by rw [ev_any, R.w_bind]
@[simp ↓] theorem w_str1 (a : C) : @R.w _ (ev Φ (.str1 a) ρ st) Q = @R.w _ (ev Φ a ρ st) ⟨fun x st => @R.w _ (R.of (str1V x) st) Q⟩ := by rw [ev_str1, R.w_bind]
@[simp ↓] theorem w_chn (o1 o2 : COp) (a b c : C) : @R.w _ (ev Φ (.chain o1 o2 a b c) ρ st) Q = @R.w _ (ev Φ a ρ st) ⟨fun x st => @R.w _ (ev Φ b ρ st) ⟨fun y st => @R.w _ (R.of (cmpV o1 x y) st) ⟨fun t st => if t = true then @R.w _ (ev Φ c ρ st) ⟨fun z st => @R.w _ (R.of ((cmpV o2 y z).map .bl) st) Q⟩ else Q.run (.bl false) st⟩⟩⟩ := by
  rw [ev_chain]; with_unfolding_all refine (R.w_bind2 ..).trans ?_
  congr; funext x st; congr; funext y st
  cases cmpV o1 x y with
  | none => with_unfolding_all rfl
  | some t =>
    cases t with
    | true => with_unfolding_all exact R.w_bind ..
    | false => with_unfolding_all rfl
@[simp ↓] theorem w_gc (g : Nat) : @R.w _ (ev Φ (.gc g) ρ st) Q = @R.w _ (Φ (1000 + g) [] st) Q := by rw [ev_gc, R.w_noexc]
@[simp ↓] theorem w_kget (g : Nat) (k : C) : @R.w _ (ev Φ (.kget g k) ρ st) Q = @R.w _ (ev Φ k ρ st) ⟨fun x st => @R.w _ (Φ (2000 + g) [x] st) Q⟩ := by
  rw [ev_kget]; with_unfolding_all refine (R.w_bind ..).trans ?_
  cases ev Φ k ρ st <;> first | (with_unfolding_all rfl) | (with_unfolding_all exact R.w_noexc ..)
@[simp ↓] theorem w_kin (neg : Bool) (g : Nat) (k : C) : @R.w _ (ev Φ (.kin neg g k) ρ st) Q = @R.w _ (ev Φ k ρ st) ⟨fun x st => @R.w _ (Φ (3000 + g) [x] st) ⟨fun b st => @R.w _ (if neg then R.of (notV b) st else .ok b st) Q⟩⟩ := by
  rw [ev_kin]; with_unfolding_all refine (R.w_bind2 ..).trans ?_
  cases ev Φ k ρ st <;> first | (with_unfolding_all rfl) | (with_unfolding_all exact R.w_noexc ..)
@[simp ↓] theorem w_comp2 (elt : C) (tg : List Nat) (it : C) (tg2 : List Nat) (it2 : C) (ifs : Cs) (own own2 : List Nat) : @R.w _ (ev Φ (.comp2 elt tg it tg2 it2 ifs own own2) ρ st) Q = @R.w _ (ev Φ it ρ st) ⟨fun iv st => @R.w _ (R.of (itemsOf iv) st) ⟨fun xs st => @R.w _ (flatL (turn2 Φ elt tg tg2 it2 ifs own own2 ρ) xs st) ⟨fun ys st => @R.w _ (if szOk ys.length then .ok (.lst ys) st else .bad) Q⟩⟩⟩ := by rw [ev_comp2]; with_unfolding_all exact R.w_bind3 ..
theorem w_turn2 (elt : C) (tg tg2 : List Nat) (it2 : C) (ifs : Cs) (own own2 : List Nat) (x : PV) : @R.w _ (turn2 Φ elt tg tg2 it2 ifs own own2 ρ x st) Qs = @R.w _ (R.of (assignT tg x (wipeE ρ own)) st) ⟨fun ρ1 st => @R.w _ (ev Φ it2 ρ1 st) ⟨fun iv st => @R.w _ (R.of (itemsOf iv) st) ⟨fun ys st => @R.w _ (compL (turnF Φ elt tg2 ifs own2 ρ1) ys st) Qs⟩⟩⟩ := by rw [turn2_eq]; with_unfolding_all exact R.w_bind3 ..
@[simp ↓] theorem w_enum (a : C) : @R.w _ (ev Φ (.enum a) ρ st) Q = @R.w _ (ev Φ a ρ st) ⟨fun x st => @R.w _ (R.of (enumV x) st) Q⟩ := by rw [ev_enum, R.w_bind]
@[simp ↓] theorem w_join (a b : C) : @R.w _ (ev Φ (.join a b) ρ st) Q = @R.w _ (ev Φ a ρ st) ⟨fun x st => @R.w _ (if isS x then (ev Φ b ρ st).bind fun y st => R.of (joinV x y) st else .bad) Q⟩ := by rw [ev_join, R.w_bind]
@[simp ↓] theorem w_fstr (es : Cs) : @R.w _ (ev Φ (.fstr es) ρ st) Q = @R.w _ (evj Φ es Str.empty ρ st) ⟨fun s st => Q.run (.str s) st⟩ := by rw [ev_fstr, R.w_bind]; with_unfolding_all rfl
@[simp ↓] theorem wj_nil (acc : Str) (Qz : Kp Str) : @R.w _ (evj Φ .nil acc ρ st) Qz = Qz.run acc st := by with_unfolding_all rfl
@[simp ↓] theorem wj_cons (a : C) (r : Cs) (acc : Str) (Qz : Kp Str) : @R.w _ (evj Φ (.cons a r) acc ρ st) Qz = @R.w _ (ev Φ a ρ st) ⟨fun x st => @R.w _ (R.of (fmtV acc x) st) ⟨fun acc' st => @R.w _ (evj Φ r acc' ρ st) Qz⟩⟩ := by rw [evj_cons]; with_unfolding_all exact R.w_bind2 ..
@[simp ↓] theorem w_dgetD (a b : C) : @R.w _ (ev Φ (.dgetD a b) ρ st) Q = @R.w _ (ev Φ a ρ st) ⟨fun x st => @R.w _ (if isD x then (ev Φ b ρ st).bind fun y st => R.of (dgetN x y) st else .bad) Q⟩ := by rw [ev_dgetD, R.w_bind]
@[simp ↓] theorem w_cat (a b : C) : @R.w _ (ev Φ (.cat a b) ρ st) Q = @R.w _ (ev Φ a ρ st) ⟨fun x st => @R.w _ (ev Φ b ρ st) ⟨fun y st => @R.w _ (R.of (catV x y) st) Q⟩⟩ := by rw [ev_cat]; with_unfolding_all exact R.w_bind2 ..
@[simp ↓] theorem w_isa2 (a : C) (t u : Ty) : @R.w _ (ev Φ (.isa2 a t u) ρ st) Q = @R.w _ (ev Φ a ρ st) ⟨fun x st => @R.w _ (R.of ((isa2V x t u).map .bl) st) Q⟩ := by rw [ev_isa2, R.w_bind]
@[simp ↓] theorem w_revT (a : C) : @R.w _ (ev Φ (.revT a) ρ st) Q = @R.w _ (ev Φ a ρ st) ⟨fun x st => @R.w _ (R.of (revTV x) st) Q⟩ := by rw [ev_revT, R.w_bind]
@[simp ↓] theorem w_rev (a : C) : @R.w _ (ev Φ (.rev a) ρ st) Q = @R.w _ (ev Φ a ρ st) ⟨fun x st => @R.w _ (R.of (revV x) st) Q⟩ := by rw [ev_rev, R.w_bind]
@[simp ↓] theorem w_tupRng (a b : C) : @R.w _ (ev Φ (.tupRng a b) ρ st) Q = @R.w _ (ev Φ a ρ st) ⟨fun x st => @R.w _ (ev Φ b ρ st) ⟨fun y st => @R.w _ (R.of (tupRngV x y) st) Q⟩⟩ := by rw [ev_tupRng]; with_unfolding_all exact R.w_bind2 ..
@[simp ↓] theorem w_sset (a : C) : @R.w _ (ev Φ (.sset a) ρ st) Q = @R.w _ (ev Φ a ρ st) ⟨fun x st => @R.w _ (R.of (ssetV x) st) Q⟩ := by rw [ev_sset, R.w_bind]
@[simp ↓] theorem w_sorted (a : C) : @R.w _ (ev Φ (.sorted a) ρ st) Q = @R.w _ (ev Φ a ρ st) ⟨fun x st => @R.w _ (R.of (sortedV x) st) Q⟩ := by rw [ev_sorted, R.w_bind]
@[simp ↓] theorem ws_nil : @R.w _ (evs Φ .nil ρ st) Qs = Qs.run [] st := by with_unfolding_all rfl
@[simp ↓] theorem ws_cons (a : C) (r : Cs) : @R.w _ (evs Φ (.cons a r) ρ st) Qs = @R.w _ (ev Φ a ρ st) ⟨fun x st => @R.w _ (evs Φ r ρ st) ⟨fun xs st => Qs.run (x :: xs) st⟩⟩ := by rw [evs_cons]; with_unfolding_all exact R.w_bind2 ..
@[simp ↓] theorem ws_star (a : C) (r : Cs) : @R.w _ (evs Φ (.star a r) ρ st) Qs = @R.w _ (ev Φ a ρ st) ⟨fun x st => @R.w _ (R.of (starV x) st) ⟨fun ys st => @R.w _ (evs Φ r ρ st) ⟨fun xs st => Qs.run (ys ++ xs) st⟩⟩⟩ := by rw [evs_star]; with_unfolding_all exact R.w_bind3 ..
@[simp ↓] theorem wo_nil : @R.w _ (evo Φ .nil ρ st) Qo = Qo.run none st := by with_unfolding_all rfl
@[simp ↓] theorem wo_cons (a : C) : @R.w _ (evo Φ (.cons a .nil) ρ st) Qo = @R.w _ (ev Φ a ρ st) ⟨fun x st => @R.w _ (R.of (oInt x) st) Qo⟩ := by rw [evo_cons, R.w_bind]
@[simp ↓] theorem wt_nil : @R.w _ (evt Φ .nil ρ st) Qb = Qb.run true st := by with_unfolding_all rfl
@[simp ↓] theorem wt_cons (a : C) : @R.w _ (evt Φ (.cons a .nil) ρ st) Qb = @R.w _ (ev Φ a ρ st) ⟨fun x st => @R.w _ (R.of (blV x) st) Qb⟩ := by rw [evt_cons, R.w_bind]
theorem w_turn (elt : C) (tg : List Nat) (ifs : Cs) (own : List Nat) (x : PV) (Qt : Kp (Option PV)) : @R.w _ (turnF Φ elt tg ifs own ρ x st) Qt = @R.w _ (R.of (assignT tg x (wipeE ρ own)) st) ⟨fun ρ1 st => @R.w _ (evt Φ ifs ρ1 st) ⟨fun b st => if b then @R.w _ (ev Φ elt ρ1 st) ⟨fun y st => Qt.run (some y) st⟩ else Qt.run none st⟩⟩ := by
  rw [turnF_eq]; with_unfolding_all refine (R.w_bind2 ..).trans ?_
  cases assignT tg x (wipeE ρ own) with
  | none => with_unfolding_all rfl
  | some ρ1 =>
    with_unfolding_all change @R.w _ (evt Φ ifs ρ1 st) ⟨_⟩ = @R.w _ (evt Φ ifs ρ1 st) ⟨_⟩
    cases evt Φ ifs ρ1 st with
    | ok b s =>
      cases b with
      | true => with_unfolding_all exact R.w_bind ..
      | false => with_unfolding_all rfl
    | exc e s => with_unfolding_all rfl
    | bad => with_unfolding_all rfl
/-! statements -/
@[simp] theorem RS.w_nx : @RS.w (.nx ρ st) K = K.N ρ st := by with_unfolding_all rfl
@[simp] theorem RS.w_rt (v : PV) : @RS.w (.rt v st) K = K.T v st := by with_unfolding_all rfl
@[simp] theorem RS.w_bk : @RS.w (.bk ρ st) K = K.B ρ st := by with_unfolding_all rfl
@[simp] theorem RS.w_ct : @RS.w (.ct ρ st) K = K.C ρ st := by with_unfolding_all rfl
@[simp] theorem RS.w_bad : @RS.w .bad K = False := by with_unfolding_all rfl
@[simp] theorem RS.w_exc (e : EX) : @RS.w (.exc e ρ st) K = False := by with_unfolding_all rfl
@[simp ↓] theorem RS.w_then {α : Type} (r : R α) (f : α → Cel → RS) : @RS.w (r.then ρ f) K = @R.w α r ⟨fun a st => @RS.w (f a st) K⟩ := by with_unfolding_all exact RS.wp_then _ _ _ _ r ρ f
@[simp ↓] theorem RS.w_ite (c : Prop) [Decidable c] (a b : RS) : @RS.w (if c then a else b) K = if c then @RS.w a K else @RS.w b K := by split <;> (with_unfolding_all rfl)
@[simp ↓] theorem RS.w_ifB (c : Bool) (a b : RS) : @RS.w (ifB (.bl c) a b) K = if c = true then @RS.w a K else @RS.w b K := by cases c <;> (with_unfolding_all rfl)
@[simp ↓] theorem RS.w_thenL (xs : List PV) (k : List PV → RS) : @RS.w (thenL (some xs) k) K = @RS.w (k xs) K := by with_unfolding_all rfl
theorem w_fin (r : RS) : @R.w _ (fin r) Q = @RS.w r ⟨fun _ st => Q.run .non st, Q.run, fun _ _ => False, fun _ _ => False⟩ := by with_unfolding_all exact wp_fin r _
@[simp ↓] theorem wSs_nil : @RS.w (evSs Φ F .nil ρ st) K = K.N ρ st := by with_unfolding_all rfl
@[simp ↓] theorem wSs_cons (s : Ev.S) (r : Ss) : @RS.w (evSs Φ F (.cons s r) ρ st) K = @RS.w (evS Φ F s ρ st) ⟨fun ρ st => @RS.w (evSs Φ F r ρ st) K, K.T, K.B, K.C⟩ := by with_unfolding_all exact RS.wp_seq _ _ _ _ _ _
@[simp ↓] theorem wS_asg (tg : List Nat) (e : C) : @RS.w (evS Φ F (.asg tg e) ρ st) K = @R.w _ (ev Φ e ρ st) ⟨fun x st => @RS.w (thenO (assignT tg x ρ) st) K⟩ := by rw [evS_asg, RS.w_then]
@[simp ↓] theorem wS_par (is : List Nat) (es : Cs) : @RS.w (evS Φ F (.par is es) ρ st) K = @R.w _ (evs Φ es ρ st) ⟨fun xs st => @RS.w (if xs.length = is.length then .nx ((is.zip xs).foldl (fun ρ p => set1 ρ p.1 p.2) ρ) st else .bad) K⟩ := by rw [evS_par, RS.w_then]
@[simp ↓] theorem wS_asgO (i : Nat) (e : C) : @RS.w (evS Φ F (.asgO i e) ρ st) K = @R.w _ (ev Φ e ρ st) ⟨fun x st => @R.w _ (R.of (lstV x) st) ⟨fun xs st => K.N (ρ.set i (.own (.lst xs))) st⟩⟩ := by
  rw [evS_asgO, RS.w_then]; congr; funext x st; cases x <;> (with_unfolding_all rfl)
@[simp ↓] theorem wS_asgC (i : Nat) (e : C) : @RS.w (evS Φ F (.asgC i e) ρ st) K = @R.w _ (ev Φ e ρ st) ⟨fun x st => @R.w _ (R.of (lstV x) st) ⟨fun xs st => K.N (ρ.set i (.val (.cell st.length))) (st ++ [.lst xs])⟩⟩ := by
  rw [evS_asgC, RS.w_then]; congr; funext x st; cases x <;> (with_unfolding_all rfl)
@[simp ↓] theorem wS_setI (a i e : C) : @RS.w (evS Φ F (.setI a i e) ρ st) K = @R.w _ (ev Φ e ρ st) ⟨fun x st => @R.w _ (ev Φ a ρ st) ⟨fun o st => @R.w _ (ev Φ i ρ st) ⟨fun j st => @RS.w (thenS (setCel st x o j) ρ) K⟩⟩⟩ := by
  rw [evS_setI, RS.w_then]
  cases ev Φ e ρ st with
  | ok x s =>
    with_unfolding_all refine (RS.w_then ..).trans ?_
    with_unfolding_all change @R.w _ (ev Φ a ρ s) ⟨_⟩ = @R.w _ (ev Φ a ρ s) ⟨_⟩
    cases ev Φ a ρ s <;> first | (with_unfolding_all rfl) | (with_unfolding_all exact RS.w_then ..)
  | exc e s => with_unfolding_all rfl
  | bad => with_unfolding_all rfl
@[simp ↓] theorem wS_app (i : Nat) (e : C) : @RS.w (evS Φ F (.app i e) ρ st) K = @R.w _ (R.of (ownL ρ[i]?) st) ⟨fun xs st => @R.w _ (ev Φ e ρ st) ⟨fun x st => @RS.w (if szOk (xs.length + 1) then .nx (ρ.set i (.own (.lst (xs ++ [x])))) st else .bad) K⟩⟩ := by
  rw [evS_app]; cases ownL ρ[i]? with
  | none => with_unfolding_all rfl
  | some xs => with_unfolding_all exact RS.w_then ..
@[simp ↓] theorem wS_ext (i : Nat) (e : C) : @RS.w (evS Φ F (.ext i e) ρ st) K = @R.w _ (R.of (ownL ρ[i]?) st) ⟨fun xs st => @R.w _ (ev Φ e ρ st) ⟨fun x st => @R.w _ (R.of (lstV x) st) ⟨fun ys st => @RS.w (if szOk (xs.length + ys.length) then .nx (ρ.set i (.own (.lst (xs ++ ys)))) st else .bad) K⟩⟩⟩ := by
  rw [evS_ext]; cases ownL ρ[i]? with
  | none => with_unfolding_all rfl
  | some xs =>
    with_unfolding_all refine (RS.w_then ..).trans ?_
    with_unfolding_all change _ = @R.w _ (ev Φ e ρ st) ⟨_⟩
    congr; funext x st; cases x <;> (with_unfolding_all rfl)
@[simp ↓] theorem wS_if (t : C) (a b : Ss) : @RS.w (evS Φ F (.if_ t a b) ρ st) K = @R.w _ (ev Φ t ρ st) ⟨fun x st => @RS.w (ifB x (evSs Φ F a ρ st) (evSs Φ F b ρ st)) K⟩ := by rw [evS_if, RS.w_then]
@[simp ↓] theorem wS_for (tg : List Nat) (it : C) (b : Ss) : @RS.w (evS Φ F (.for_ tg it b) ρ st) K = @R.w _ (ev Φ it ρ st) ⟨fun iv st => @R.w _ (R.of (itemsOf iv) st) ⟨fun xs st => @RS.w (forL (bodyL Φ F tg b) xs ρ st) K⟩⟩ := by
  rw [evS_for, RS.w_then]; congr; funext x st; cases itemsOf x <;> (with_unfolding_all rfl)
@[simp ↓] theorem wS_while (t : C) (b : Ss) : @RS.w (evS Φ F (.while_ t b) ρ st) K = @RS.w (whileL (fun ρ st => ev Φ t ρ st) (fun ρ st => evSs Φ F b ρ st) F ρ st) K := by with_unfolding_all rfl
@[simp ↓] theorem wS_ret (e : C) : @RS.w (evS Φ F (.ret e) ρ st) K = @R.w _ (ev Φ e ρ st) ⟨fun x st => K.T x st⟩ := by rw [evS_ret, RS.w_then]; with_unfolding_all rfl
@[simp ↓] theorem wS_expr (e : C) : @RS.w (evS Φ F (.expr e) ρ st) K = @R.w _ (ev Φ e ρ st) ⟨fun x st => K.N ρ st⟩ := by rw [evS_expr, RS.w_then]; with_unfolding_all rfl
@[simp ↓] theorem wS_pass : @RS.w (evS Φ F .pass ρ st) K = K.N ρ st := by with_unfolding_all rfl
@[simp ↓] theorem wS_brk : @RS.w (evS Φ F .brk ρ st) K = K.B ρ st := by with_unfolding_all rfl
@[simp ↓] theorem wS_cnt : @RS.w (evS Φ F .cnt ρ st) K = K.C ρ st := by with_unfolding_all rfl
@[simp ↓] theorem wS_frz (i : Nat) : @RS.w (evS Φ F (.frz i) ρ st) K = @RS.w (frzE ρ[i]? i ρ st) K := by rw [evS_frz]
@[simp ↓] theorem wS_ustar (is : List Nat) (j : Nat) (e : C) : @RS.w (evS Φ F (.ustar is j e) ρ st) K = @R.w _ (ev Φ e ρ st) ⟨fun x st => @R.w _ (R.of (tupV x) st) ⟨fun xs st => @RS.w (if is.length ≤ xs.length ∧ xs.length ≤ 16384 then .nx (set1 ((is.zip (xs.take is.length)).foldl (fun ρ p => set1 ρ p.1 p.2) ρ) j (.lst (xs.drop is.length))) st else .bad) K⟩⟩ := by
  rw [evS_ustar, RS.w_then]; congr; funext x st; cases x <;> (with_unfolding_all rfl)
theorem RS.w_then2 {α β : Type} (r : R α) (g : α → Cel → R β) (h : α → β → Cel → RS) : @RS.w (r.then ρ fun x st => (g x st).then ρ fun y st => h x y st) K = @R.w α r ⟨fun x st => @R.w β (g x st) ⟨fun y st => @RS.w (h x y st) K⟩⟩ := by
  cases r with
  | ok a st => with_unfolding_all exact RS.w_then ρ K (g a st) (fun y st => h a y st)
  | exc e st => with_unfolding_all rfl
  | bad => with_unfolding_all rfl
theorem RS.w_thenLo (o : Option (List PV)) (k : List PV → RS) : @RS.w (thenL o k) K = @R.w _ (R.of o st) ⟨fun xs _ => @RS.w (k xs) K⟩ := by cases o <;> (with_unfolding_all rfl)
@[simp ↓] theorem wS_popA (tg : List Nat) (i : Nat) : @RS.w (evS Φ F (.popA tg i) ρ st) K = @R.w _ (R.of (ownL ρ[i]?) st) ⟨fun xs st => @R.w _ (R.of xs[xs.length - 1]? st) ⟨fun y st => @RS.w (thenO (assignT tg y (ρ.set i (.own (.lst xs.dropLast)))) st) K⟩⟩ := by
  rw [evS_popA]; cases ownL ρ[i]? with
  | none => with_unfolding_all rfl
  | some xs => with_unfolding_all exact RS.w_then ..
@[simp ↓] theorem wS_popK (i : Nat) (k : C) : @RS.w (evS Φ F (.popK i k) ρ st) K = @R.w _ (R.of (ownL ρ[i]?) st) ⟨fun xs st => @R.w _ (ev Φ k ρ st) ⟨fun z st => @R.w _ (R.of (popI xs z) st) ⟨fun ys st => K.N (ρ.set i (.own (.lst ys))) st⟩⟩⟩ := by
  rw [evS_popK]; cases ownL ρ[i]? with
  | none => with_unfolding_all rfl
  | some xs =>
    with_unfolding_all refine (RS.w_then ..).trans ?_
    with_unfolding_all change _ = @R.w _ (ev Φ k ρ st) ⟨_⟩
    congr; funext x st; cases popI xs x <;> (with_unfolding_all rfl)
@[simp ↓] theorem wS_insO (i : Nat) (a e : C) : @RS.w (evS Φ F (.insO i a e) ρ st) K = @R.w _ (R.of (ownL ρ[i]?) st) ⟨fun xs st => @R.w _ (ev Φ a ρ st) ⟨fun z st => @R.w _ (ev Φ e ρ st) ⟨fun x st => @R.w _ (R.of (insI xs z x) st) ⟨fun ys st => K.N (ρ.set i (.own (.lst ys))) st⟩⟩⟩⟩ := by
  rw [evS_insO]; cases ownL ρ[i]? with
  | none => with_unfolding_all rfl
  | some xs =>
    with_unfolding_all refine (RS.w_then2 ..).trans ?_
    with_unfolding_all change _ = @R.w _ (ev Φ a ρ st) ⟨_⟩
    congr; funext z st; congr; funext x st; cases insI xs z x <;> (with_unfolding_all rfl)
@[simp ↓] theorem wS_setO (i : Nat) (a e : C) : @RS.w (evS Φ F (.setO i a e) ρ st) K = @R.w _ (R.of (ownL ρ[i]?) st) ⟨fun xs st => @R.w _ (ev Φ e ρ st) ⟨fun x st => @R.w _ (ev Φ a ρ st) ⟨fun z st => @R.w _ (R.of (setI' xs z x) st) ⟨fun ys st => K.N (ρ.set i (.own (.lst ys))) st⟩⟩⟩⟩ := by
  rw [evS_setO]; cases ownL ρ[i]? with
  | none => with_unfolding_all rfl
  | some xs =>
    with_unfolding_all refine (RS.w_then2 ..).trans ?_
    with_unfolding_all change _ = @R.w _ (ev Φ e ρ st) ⟨_⟩
    congr; funext x st; congr; funext z st; cases setI' xs z x <;> (with_unfolding_all rfl)
@[simp ↓] theorem wS_never : @RS.w (evS Φ F .never ρ st) K = False := by with_unfolding_all rfl
@[simp ↓] theorem wS_parOV (i j : Nat) (a b : C) : @RS.w (evS Φ F (.parOV i j a b) ρ st) K = @R.w _ (ev Φ a ρ st) ⟨fun x st => @R.w _ (R.of (lstOf x) st) ⟨fun xs st => @R.w _ (ev Φ b ρ st) ⟨fun y st => @RS.w (if i = j then .bad else .nx ((ρ.set i (.own (.lst xs))).set j (.val y)) st) K⟩⟩⟩ := by
  rw [evS_parOV, RS.w_then]; congr; funext x st; cases lstOf x with
  | none => with_unfolding_all rfl
  | some xs => with_unfolding_all exact RS.w_then ..
@[simp ↓] theorem wS_parVO (i j : Nat) (a b : C) : @RS.w (evS Φ F (.parVO i j a b) ρ st) K = @R.w _ (ev Φ a ρ st) ⟨fun x st => @R.w _ (ev Φ b ρ st) ⟨fun y st => @R.w _ (R.of (lstOf y) st) ⟨fun ys st => @RS.w (if i = j then .bad else .nx ((ρ.set i (.val x)).set j (.own (.lst ys))) st) K⟩⟩⟩ := by
  rw [evS_parVO, RS.w_then2]; congr; funext x st; congr; funext y st; cases lstOf y <;> (with_unfolding_all rfl)
end
theorem RS.w_mono {r : RS} {K K' : Kq} (h : @RS.w r K) (hN : ∀ ρ st, K.N ρ st → K'.N ρ st) (hT : ∀ v st, K.T v st → K'.T v st) (hB : ∀ ρ st, K.B ρ st → K'.B ρ st) (hC : ∀ ρ st, K.C ρ st → K'.C ρ st) : @RS.w r K' := by with_unfolding_all exact RS.wp_mono h hN hT hB hC
/-- a walk by what holds of the rest -/
theorem forL_w {f : PV → En → Cel → RS} {xs : List PV} {ρ : En} {st : Cel} {K : Kq} (I : List PV → En → Cel → Prop) (h0 : I xs ρ st)
    (hs : ∀ x r ρ st, I (x :: r) ρ st → @RS.w (f x ρ st) ⟨I r, K.T, K.N, I r⟩) (hN : ∀ ρ st, I [] ρ st → K.N ρ st) : @RS.w (forL f xs ρ st) K := by with_unfolding_all exact forL_wp I h0 hs hN
theorem compL_w {f : PV → Cel → R (Option PV)} {xs : List PV} {st : Cel} {Q : Kp (List PV)} (I : List PV → List PV → Cel → Prop) (h0 : I xs [] st)
    (hs : ∀ x r acc st, I (x :: r) acc st → @R.w _ (f x st) ⟨fun o st' => I r (acc ++ o.toList) st'⟩) (hQ : ∀ ys st, I [] ys st → Q.run ys st) : @R.w _ (compL f xs st) Q := by with_unfolding_all exact compL_wp I h0 hs hQ
theorem compL_wpure {f : PV → Cel → R (Option PV)} {xs : List PV} {st : Cel} {Q : Kp (List PV)} (g : PV → Option PV) (h : ∀ x ∈ xs, f x st = .ok (g x) st) (q : Q.run (xs.filterMap g) st) : @R.w _ (compL f xs st) Q := by rw [compL_pure g h]; with_unfolding_all exact q
theorem compL_wmap {f : PV → Cel → R (Option PV)} {xs : List PV} {st : Cel} {Q : Kp (List PV)} (g : PV → PV) (h : ∀ x ∈ xs, f x st = .ok (some (g x)) st) (q : Q.run (xs.map g) st) : @R.w _ (compL f xs st) Q := by rw [compL_map g h]; with_unfolding_all exact q
theorem w_compL_nil {f : PV → Cel → R (Option PV)} {st : Cel} (Q : Kp (List PV)) : @R.w _ (compL f [] st) Q = Q.run [] st := by with_unfolding_all rfl
theorem w_compL_cons {f : PV → Cel → R (Option PV)} {x : PV} {xs : List PV} {st : Cel} (Q : Kp (List PV)) : @R.w _ (compL f (x :: xs) st) Q = @R.w _ (f x st) ⟨fun o st => @R.w _ (compL f xs st) ⟨fun ys st => Q.run (o.toList ++ ys) st⟩⟩ := by
  rw [compL]
  cases f x st with
  | ok o s =>
    with_unfolding_all refine (R.w_bind ..).trans ?_
    with_unfolding_all change @R.w _ (compL f xs s) ⟨_⟩ = @R.w _ (compL f xs s) ⟨_⟩
    cases o <;> (with_unfolding_all rfl)
  | exc e s => with_unfolding_all rfl
  | bad => with_unfolding_all rfl
theorem flatL_eq {f : PV → Cel → R (List PV)} {x : PV} {xs : List PV} {st : Cel} : flatL f (x :: xs) st = (f x st).noexc.bind fun ys st => (flatL f xs st).bind fun zs st => .ok (ys ++ zs) st := by
  rw [flatL]; cases f x st <;> rfl
theorem w_flatL_nil {f : PV → Cel → R (List PV)} {st : Cel} (Q : Kp (List PV)) : @R.w _ (flatL f [] st) Q = Q.run [] st := by with_unfolding_all rfl
theorem w_flatL_cons {f : PV → Cel → R (List PV)} {x : PV} {xs : List PV} {st : Cel} (Q : Kp (List PV)) : @R.w _ (flatL f (x :: xs) st) Q = @R.w _ (f x st) ⟨fun ys st => @R.w _ (flatL f xs st) ⟨fun zs st => Q.run (ys ++ zs) st⟩⟩ := by
  rw [flatL_eq]
  cases f x st with
  | ok o s =>
    with_unfolding_all refine (R.w_bind ..).trans ?_
    with_unfolding_all refine (R.w_bind ..).trans ?_
    with_unfolding_all rfl
  | exc e s => with_unfolding_all rfl
  | bad => with_unfolding_all rfl
theorem flatL_w {f : PV → Cel → R (List PV)} {xs : List PV} {st : Cel} {Q : Kp (List PV)} (I : List PV → List PV → Cel → Prop) (h0 : I xs [] st)
    (hs : ∀ x r acc st, I (x :: r) acc st → @R.w _ (f x st) ⟨fun ys st' => I r (acc ++ ys) st'⟩) (hQ : ∀ ys st, I [] ys st → Q.run ys st) : @R.w _ (flatL f xs st) Q := by
  have key : ∀ (xs acc : List PV) (st : Cel), I xs acc st → @R.w _ (flatL f xs st) ⟨fun ys st' => Q.run (acc ++ ys) st'⟩ := by
    intro xs
    induction xs with
    | nil => intro acc st h; rw [w_flatL_nil]; exact (by simpa using hQ _ _ h)
    | cons x xs ih =>
      intro acc st h
      rw [w_flatL_cons]
      exact R.w_mono (hs _ _ _ _ h) fun ys st' q => R.w_mono (ih _ _ q) fun zs st2 q2 => by simpa using q2
  exact R.w_mono (key xs [] st h0) fun ys st' q => by simpa using q
theorem flatL_wmap {f : PV → Cel → R (List PV)} {xs : List PV} {st : Cel} {Q : Kp (List PV)} (g : PV → List PV) (h : ∀ x ∈ xs, f x st = .ok (g x) st) (q : Q.run (xs.flatMap g) st) : @R.w _ (flatL f xs st) Q := by
  have e : ∀ xs : List PV, (∀ x ∈ xs, f x st = .ok (g x) st) → flatL f xs st = .ok (xs.flatMap g) st := by
    intro xs
    induction xs with
    | nil => intro _; rfl
    | cons x xs ih =>
      intro h
      rw [flatL_eq, h x (List.mem_cons_self ..)]
      show (flatL f xs st).bind _ = _
      rw [ih fun y hy => h y (List.mem_cons_of_mem _ hy)]
      rfl
  rw [e xs h]; with_unfolding_all exact q
theorem flatL_wq {α : Type} {f : PV → Cel → R (List PV)} {qs : List α} {v : α → PV} {st : Cel} {Q : Kp (List PV)} (g : α → List PV) (h : ∀ x ∈ qs, f (v x) st = .ok (g x) st) (q : Q.run (qs.flatMap g) st) : @R.w _ (flatL f (qs.map v) st) Q := by
  have e : ∀ qs : List α, (∀ x ∈ qs, f (v x) st = .ok (g x) st) → flatL f (qs.map v) st = .ok (qs.flatMap g) st := by
    intro qs
    induction qs with
    | nil => intro _; rfl
    | cons x xs ih =>
      intro h
      rw [List.map_cons, flatL_eq, h x (List.mem_cons_self ..)]
      show (flatL f (xs.map v) st).bind _ = _
      rw [ih fun y hy => h y (List.mem_cons_of_mem _ hy)]
      rfl
  rw [e qs h]; with_unfolding_all exact q
theorem compL_wq {α : Type} {f : PV → Cel → R (Option PV)} {qs : List α} {v : α → PV} {st : Cel} {Q : Kp (List PV)} (g : α → PV) (h : ∀ x ∈ qs, f (v x) st = .ok (some (g x)) st) (q : Q.run (qs.map g) st) : @R.w _ (compL f (qs.map v) st) Q := by
  have e : ∀ qs : List α, (∀ x ∈ qs, f (v x) st = .ok (some (g x)) st) → compL f (qs.map v) st = .ok (qs.map g) st := by
    intro qs
    induction qs with
    | nil => intro _; rfl
    | cons x xs ih =>
      intro h
      rw [List.map_cons, compL, h x (List.mem_cons_self ..)]
      show (compL f (xs.map v) st).bind _ = _
      rw [ih fun y hy => h y (List.mem_cons_of_mem _ hy)]
      rfl
  rw [e qs h]; with_unfolding_all exact q
theorem compL_wnone {α : Type} {f : PV → Cel → R (Option PV)} {qs : List α} {v : α → PV} {st : Cel} {Q : Kp (List PV)} (h : ∀ x ∈ qs, f (v x) st = .ok none st) (q : Q.run [] st) : @R.w _ (compL f (qs.map v) st) Q := by
  have e : ∀ qs : List α, (∀ x ∈ qs, f (v x) st = .ok none st) → compL f (qs.map v) st = .ok [] st := by
    intro qs
    induction qs with
    | nil => intro _; rfl
    | cons x xs ih =>
      intro h
      rw [List.map_cons, compL, h x (List.mem_cons_self ..)]
      show (compL f (xs.map v) st).bind _ = _
      rw [ih fun y hy => h y (List.mem_cons_of_mem _ hy)]
      rfl
  rw [e qs h]; with_unfolding_all exact q
/-- a loop by its condition: what holds ahead of each test, by steps that are left -/
theorem whileL_w {t : En → Cel → R PV} {b : En → Cel → RS} {K : Kq} (I : Nat → En → Cel → Prop)
    (hs : ∀ m ρ st, I m ρ st → @R.w _ (t ρ st) ⟨fun x st => (x = .bl false ∧ K.N ρ st) ∨ (x = .bl true ∧ ∃ m', m = m' + 1 ∧ @RS.w (b ρ st) ⟨I m', K.T, K.N, I m'⟩)⟩) : ∀ (m : Nat) {F : Nat} {ρ : En} {st : Cel}, m < F → I m ρ st → @RS.w (whileL t b F ρ st) K := by
  intro m
  induction m with
  | zero =>
    intro F ρ st hF h0
    obtain ⟨F, rfl⟩ : ∃ G, F = G + 1 := ⟨F - 1, by omega⟩
    obtain ⟨x, s, e, q⟩ := R.w_eq (hs 0 ρ st h0)
    rw [whileL, e]
    rcases q with ⟨rfl, q⟩ | ⟨rfl, m', z, _⟩
    · with_unfolding_all exact q
    · omega
  | succ m ih =>
    intro F ρ st hF h0
    obtain ⟨F, rfl⟩ : ∃ G, F = G + 1 := ⟨F - 1, by omega⟩
    obtain ⟨x, s, e, q⟩ := R.w_eq (hs (m + 1) ρ st h0)
    rw [whileL, e]
    rcases q with ⟨rfl, q⟩ | ⟨rfl, m', z, q⟩
    · with_unfolding_all exact q
    · obtain rfl : m' = m := by omega
      show @RS.w (nextL (b ρ s) fun ρ1 st1 => whileL t b F ρ1 st1) K
      have q' : (b ρ s).wp (I m') K.T K.N (I m') := by with_unfolding_all exact q
      have : (nextL (b ρ s) fun ρ1 st1 => whileL t b F ρ1 st1).wp K.N K.T K.B K.C := by
        rw [RS.wp_nextL]
        refine RS.wp_mono q' (fun ρ st h => ?_) (fun _ _ h => h) (fun _ _ h => h) (fun ρ st h => ?_)
        · with_unfolding_all exact ih (by omega) h
        · with_unfolding_all exact ih (by omega) h
      with_unfolding_all exact this
/-- a loop whose test tells whether steps are left -/
theorem whileL_m {t : En → Cel → R PV} {b : En → Cel → RS} {K : Kq} (I : Nat → En → Cel → Prop) (ht : ∀ m ρ st, I m ρ st → @R.w _ (t ρ st) ⟨fun x st' => x = .bl (decide (0 < m)) ∧ st' = st⟩)
    (hs : ∀ m ρ st, I (m + 1) ρ st → @RS.w (b ρ st) ⟨I m, K.T, K.N, I m⟩) (hN : ∀ ρ st, I 0 ρ st → K.N ρ st) (m : Nat) {F : Nat} {ρ : En} {st : Cel} (hF : m < F) (h0 : I m ρ st) : @RS.w (whileL t b F ρ st) K := by
  refine whileL_w I (fun m ρ st h => R.w_mono (ht m ρ st h) fun x st' e => ?_) m hF h0
  obtain ⟨rfl, rfl⟩ := e
  cases m with
  | zero => exact .inl ⟨rfl, hN _ _ h⟩
  | succ m => exact .inr ⟨by simp, m, rfl, hs m _ _ h⟩
theorem w_forL_nil {f : PV → En → Cel → RS} {ρ : En} {st : Cel} (K : Kq) : @RS.w (forL f [] ρ st) K = K.N ρ st := by with_unfolding_all rfl
theorem w_forL_cons {f : PV → En → Cel → RS} {x : PV} {xs : List PV} {ρ : En} {st : Cel} (K : Kq) : @RS.w (forL f (x :: xs) ρ st) K = @RS.w (f x ρ st) ⟨fun ρ st => @RS.w (forL f xs ρ st) K, K.T, K.N, fun ρ st => @RS.w (forL f xs ρ st) K⟩ := by
  rw [forL]; with_unfolding_all exact RS.wp_nextL ..
/-- a run that is known to end in this -/
theorem R.w_is {α : Type} {r : R α} {a : α} {st : Cel} (h : @R.w α r ⟨fun x s => x = a ∧ s = st⟩) : r = .ok a st := by
  obtain ⟨x, s, e, h1, h2⟩ := R.w_eq h
  rw [e, h1, h2]
end Ev
namespace Ev
open PySem L2
/-! ### values, for simp -/
@[simp high] theorem gE0 {α : Type} (a : α) (l : List α) : (a :: l)[0]? = some a := rfl
@[simp high] theorem gE1 {α : Type} (a : α) (l : List α) (i : Nat) : (a :: l)[i + 1]? = l[i]? := rfl
@[simp] theorem set1_eq (ρ : En) (i : Nat) (v : PV) : set1 ρ i v = ρ.set i (.val v) := rfl
@[simp] theorem assignT_1 (i : Nat) (v : PV) (ρ : En) : assignT [i] v ρ = some (set1 ρ i v) := rfl
@[simp] theorem assignT_2t (i j : Nat) (v w : PV) (ρ : En) : assignT [i, j] (.tup [v, w]) ρ = some (set1 (set1 ρ i v) j w) := rfl
@[simp] theorem assignT_2l (i j : Nat) (v w : PV) (ρ : En) : assignT [i, j] (.lst [v, w]) ρ = some (set1 (set1 ρ i v) j w) := rfl
@[simp] theorem assignT_3t (i j k : Nat) (v w x : PV) (ρ : En) : assignT [i, j, k] (.tup [v, w, x]) ρ = some (set1 (set1 (set1 ρ i v) j w) k x) := rfl
@[simp] theorem assignT_3l (i j k : Nat) (v w x : PV) (ρ : En) : assignT [i, j, k] (.lst [v, w, x]) ρ = some (set1 (set1 (set1 ρ i v) j w) k x) := rfl
@[simp] theorem wipeE_nil (ρ : En) : wipeE ρ [] = ρ := rfl
@[simp] theorem wipeE_cons (ρ : En) (v : Nat) (vs : List Nat) : wipeE ρ (v :: vs) = (wipeE ρ vs).set v .emp := rfl
@[simp] theorem itemsOf_lst (xs : List PV) : itemsOf (.lst xs) = some xs := rfl
@[simp] theorem itemsOf_tup (xs : List PV) : itemsOf (.tup xs) = some xs := rfl
@[simp] theorem itemsOf_rol (xs : List PV) : itemsOf (.rol xs) = some xs := rfl
@[simp] theorem itemsOf_dct (ks : List Key) (xs : List PV) : itemsOf (.dct ks xs) = some (ks.map kP) := rfl
@[simp] theorem starV_tup (xs : List PV) : starV (.tup xs) = some xs := rfl
@[simp] theorem starV_lst (xs : List PV) : starV (.lst xs) = some xs := rfl
@[simp] theorem zipV_tup (xs ys : List PV) : zipV (.tup xs) (.tup ys) = some (.lst ((xs.zip ys).map fun p => .tup [p.1, p.2])) := rfl
@[simp] theorem zipV_lst (xs ys : List PV) : zipV (.lst xs) (.lst ys) = some (.lst ((xs.zip ys).map fun p => .tup [p.1, p.2])) := rfl
@[simp] theorem ixV_lst (st : Cel) (xs : List PV) (i : Int) : ixV st (.lst xs) (.int i) = atP xs i := rfl
@[simp] theorem ixV_tup (st : Cel) (xs : List PV) (i : Int) : ixV st (.tup xs) (.int i) = atP xs i := rfl
@[simp] theorem ixV_rol (st : Cel) (xs : List PV) (i : Int) : ixV st (.rol xs) (.int i) = atP xs i := rfl
@[simp] theorem ixV_cell0 (xs : List PV) (st : Cel) (i : Int) : ixV (.lst xs :: st) (.cell 0) (.int i) = atP xs i := rfl
@[simp] theorem slV_lst (xs : List PV) (lo hi : Option Int) : slV (.lst xs) lo hi = some (.lst (cutP xs lo hi)) := rfl
@[simp] theorem slV_rol (xs : List PV) (lo hi : Option Int) : slV (.rol xs) lo hi = some (.lst (cutP xs lo hi)) := rfl
@[simp] theorem slV_tup (xs : List PV) (lo hi : Option Int) : slV (.tup xs) lo hi = some (.tup (cutP xs lo hi)) := rfl
@[simp] theorem lenV_lst (xs : List PV) : lenV (.lst xs) = some (.int xs.length) := rfl
@[simp] theorem lenV_tup (xs : List PV) : lenV (.tup xs) = some (.int xs.length) := rfl
@[simp] theorem lenV_rol (xs : List PV) : lenV (.rol xs) = some (.int xs.length) := rfl
@[simp] theorem tupleV_lst (xs : List PV) : tupleV (.lst xs) = some (.tup xs) := rfl
@[simp] theorem tupleV_tup (xs : List PV) : tupleV (.tup xs) = some (.tup xs) := rfl
@[simp] theorem listV_lst (xs : List PV) : listV (.lst xs) = some (.lst xs) := rfl
@[simp] theorem listV_tup (xs : List PV) : listV (.tup xs) = some (.lst xs) := rfl
@[simp] theorem negV_int (i : Int) : negV (.int i) = some (.int (-i)) := rfl
@[simp] theorem notV_bl (b : Bool) : notV (.bl b) = some (.bl (!b)) := rfl
@[simp] theorem toIntV_int (i : Int) : toIntV (.int i) = some (.int i) := rfl
@[simp] theorem isaV_int_int (i : Int) : isaV (.int i) .int = some true := rfl
@[simp] theorem isaV_int_bool (i : Int) : isaV (.int i) .bool = some false := rfl
@[simp] theorem isaV_bl_int (i : Bool) : isaV (.bl i) .int = some true := rfl
@[simp] theorem isaV_bl_bool (i : Bool) : isaV (.bl i) .bool = some true := rfl
@[simp] theorem isaV_tup_int (i : List PV) : isaV (.tup i) .int = some false := rfl
@[simp] theorem isaV_tup_tuple (i : List PV) : isaV (.tup i) .tuple = some true := rfl
@[simp] theorem isL_lst (xs : List PV) : isL (.lst xs) = true := rfl
theorem rng1V_int {i : Int} (h : 0 ≤ i) (h2 : i < 1000000000) : rng1V (.int i) = some (.lst (rngP 0 i)) := by
  unfold rng1V rOk
  simp
  omega
@[simp] theorem setCel_0 (xs : List PV) (st : Cel) (x : PV) (j : Int) : setCel (.lst xs :: st) x (.cell 0) (.int j) = (ixP xs.length j).map fun n => .lst (xs.set n x) :: st := by
  show (match ixP xs.length j with
      | some n => some ((PV.lst xs :: st).set 0 (.lst (xs.set n x)))
      | none => none) = _
  cases ixP xs.length j <;> rfl
def zs (xs : List Int) : List PV := xs.map PV.int
@[simp] theorem zs_nil : zs [] = [] := rfl
@[simp] theorem zs_cons (x : Int) (xs : List Int) : zs (x :: xs) = .int x :: zs xs := rfl
@[simp] theorem zs_length (xs : List Int) : (zs xs).length = xs.length := by simp [zs]
theorem dataL_zs (xs : List Int) : PV.dataL (zs xs) = some (xs.map PyData.int) := by
  induction xs with
  | nil => rfl
  | cons x xs ih => rw [zs_cons, PV.dataL, ih]; rfl
theorem canLay_ints (xs : List Int) : PyData.canLayAll0 (xs.map PyData.int) = true := by
  induction xs with
  | nil => simp [PyData.canLayAll0]
  | cons x xs ih => simp [PyData.canLayAll0, PyData.canLay0, ih]
theorem depth_ints (xs : List Int) : PyData.depthAll (xs.map PyData.int) = 0 := by
  induction xs with
  | nil => simp [PyData.depthAll]
  | cons x xs ih => simp [PyData.depthAll, PyData.depth, ih]
theorem shaped_list_ints (xs : List Int) : SeqAt.shaped (.list (xs.map PyData.int)) = true := by
  simp [SeqAt.shaped, PyData.canLay0, PyData.depth, canLay_ints, depth_ints]
@[simp] theorem eqV_int (i j : Int) : eqV (.int i) (.int j) = some (i == j) := by
  simp [eqV, scalE, eqD, PV.data, SeqAt.shaped, PyData.canLay0, PyData.depth, PyData.eqv]
@[simp] theorem eqV_str (i j : Str) : eqV (.str i) (.str j) = some (decide (i = j)) := rfl
@[simp] theorem eqV_bl (i j : Bool) : eqV (.bl i) (.bl j) = some (i == j) := by
  simp [eqV, scalE, eqD, PV.data, SeqAt.shaped, PyData.canLay0, PyData.depth, PyData.eqv]
theorem eqv_ints : ∀ xs ys : List Int, PyData.eqvAll (xs.map PyData.int) (ys.map PyData.int) = decide (xs = ys)
  | [], [] => by simp [PyData.eqvAll]
  | [], _ :: _ => by simp [PyData.eqvAll]
  | _ :: _, [] => by simp [PyData.eqvAll]
  | x :: xs, y :: ys => by
    simp only [List.map_cons, PyData.eqvAll, PyData.eqv, eqv_ints xs ys]
    by_cases h : x = y
    · subst h; simp
    · simp [h]
@[simp] theorem eqV_zl (xs ys : List Int) : eqV (.lst (zs xs)) (.lst (zs ys)) = some (decide (xs = ys)) := by
  simp [eqV, scalE, eqD, PV.data, dataL_zs, shaped_list_ints, PyData.eqv, eqv_ints]
@[simp] theorem eqV_zl0 (xs : List Int) : eqV (.lst (zs xs)) (.lst []) = some (decide (xs = [])) := eqV_zl xs []
@[simp] theorem eqV_nil : eqV (.lst []) (.lst []) = some true := eqV_zl [] []
theorem shaped_tup_ints (xs : List Int) : SeqAt.shaped (.tuple (xs.map PyData.int)) = true := by
  simp [SeqAt.shaped, PyData.canLay0, PyData.depth, canLay_ints, depth_ints]
@[simp] theorem eqV_zt (xs ys : List Int) : eqV (.tup (zs xs)) (.tup (zs ys)) = some (decide (xs = ys)) := by
  simp [eqV, scalE, eqD, PV.data, dataL_zs, shaped_tup_ints, PyData.eqv, eqv_ints]
theorem szOk_of {n : Nat} (h : n ≤ 10000) : szOk n = true := by
  unfold szOk
  rw [decide_eq_true_eq, sizeLine_eq]
  omega
@[simp] theorem szOk_0 : szOk 0 = true := szOk_of (by omega)
@[simp] theorem szOk_1 : szOk 1 = true := szOk_of (by omega)
@[simp] theorem szOk_2 : szOk 2 = true := szOk_of (by omega)
@[simp] theorem szOk_3 : szOk 3 = true := szOk_of (by omega)
@[simp] theorem szOk_4 : szOk 4 = true := szOk_of (by omega)
@[simp] theorem szOk_5 : szOk 5 = true := szOk_of (by omega)
@[simp] theorem szOk_6 : szOk 6 = true := szOk_of (by omega)
@[simp] theorem szOk_7 : szOk 7 = true := szOk_of (by omega)
@[simp] theorem szOk_8 : szOk 8 = true := szOk_of (by omega)
/-! the values of operators on ints -/
@[simp] theorem bin_add (i j : Int) : binV .add (.int i) (.int j) = some (.int (i + j)) := rfl
@[simp] theorem bin_sub (i j : Int) : binV .sub (.int i) (.int j) = some (.int (i - j)) := rfl
theorem bin_mul {i j : Int} (h : (-(2 ^ 64) < i ∧ i < 2 ^ 64) ∨ (-(2 ^ 64) < j ∧ j < 2 ^ 64)) : binV .mul (.int i) (.int j) = some (.int (i * j)) := by
  show (if ((-(2 ^ 64) < i && i < 2 ^ 64) || (-(2 ^ 64) < j && j < 2 ^ 64)) = true then some (PV.int (i * j)) else none) = _
  rw [if_pos (by simpa using h)]
theorem bin_fdiv {i j : Int} (h : 1 ≤ j) (h2 : j < 1000000000) : binV .fdiv (.int i) (.int j) = some (.int (i / j)) := by
  show (if j ≠ 0 ∧ j.natAbs < 1073741824 then some (PV.int (i.fdiv j)) else none) = _
  rw [if_pos ⟨by omega, by omega⟩, Int.fdiv_eq_ediv_of_nonneg _ (by omega)]
theorem bin_mod {i j : Int} (h : 1 ≤ j) : binV .mod (.int i) (.int j) = some (.int (i % j)) := by
  show (if j ≠ 0 then some (PV.int (i.fmod j)) else none) = _
  rw [if_pos (by omega), Int.fmod_eq_emod_of_nonneg _ (by omega)]
theorem bin_pow {i : Int} {k : Nat} (h : i.natAbs < 2 ^ 64) (hk : k ≤ 1000) : binV .pow (.int i) (.int (k : Nat)) = some (.int (i ^ k)) := by
  show (if 0 ≤ (k : Int) ∧ (k : Int) ≤ 1000000 ∧ i.natAbs < 2 ^ 64 then some (PV.int (i ^ (k : Int).toNat)) else none) = _
  rw [if_pos ⟨by omega, by omega, h⟩]
  rfl
@[simp] theorem cmp_lt (i j : Int) : cmpV .lt (.int i) (.int j) = some (decide (i < j)) := rfl
@[simp] theorem cmp_le (i j : Int) : cmpV .le (.int i) (.int j) = some (decide (i ≤ j)) := rfl
@[simp] theorem cmp_gt (i j : Int) : cmpV .gt (.int i) (.int j) = some (decide (j < i)) := rfl
@[simp] theorem cmp_ge (i j : Int) : cmpV .ge (.int i) (.int j) = some (decide (j ≤ i)) := rfl
@[simp] theorem cmp_eq (a b : PV) : cmpV .eq a b = eqV a b := by cases a <;> cases b <;> rfl
@[simp] theorem cmp_ne (a b : PV) : cmpV .ne a b = (eqV a b).map (!·) := by cases a <;> cases b <;> rfl
theorem atP_nat {xs : List PV} {i : Nat} (h : i < xs.length) : atP xs (i : Int) = xs[i]? := by
  show L2.atI _ _ = _
  unfold L2.atI L2.ixN
  rw [if_pos (by omega), if_pos (by omega)]
  simp
theorem atP_mem {xs : List PV} {i : Int} (h0 : 0 ≤ i) (h : i < xs.length) : ∃ x, atP xs i = some x ∧ x ∈ xs := by
  obtain ⟨k, rfl⟩ := Int.eq_ofNat_of_zero_le h0
  have hk : k < xs.length := by omega
  exact ⟨xs[k], by rw [atP_nat hk]; exact List.getElem?_eq_getElem hk, List.getElem_mem hk⟩
theorem ixP_nat {n i : Nat} (h : i < n) : ixP n (i : Int) = some i := by
  show L2.ixN _ _ = _
  unfold L2.ixN
  rw [if_pos (by omega), if_pos (by omega)]
  simp
@[simp] theorem atP_0 (x0 : PV) (l : List PV) : atP (x0 :: l) 0 = some x0 := atP_nat (i := 0) (by simp only [List.length_cons]; omega)
@[simp] theorem atP_1 (x0 x1 : PV) (l : List PV) : atP (x0 :: x1 :: l) 1 = some x1 := atP_nat (i := 1) (by simp only [List.length_cons]; omega)
@[simp] theorem atP_2 (x0 x1 x2 : PV) (l : List PV) : atP (x0 :: x1 :: x2 :: l) 2 = some x2 := atP_nat (i := 2) (by simp only [List.length_cons]; omega)
@[simp] theorem atP_3 (x0 x1 x2 x3 : PV) (l : List PV) : atP (x0 :: x1 :: x2 :: x3 :: l) 3 = some x3 := atP_nat (i := 3) (by simp only [List.length_cons]; omega)
@[simp] theorem atP_4 (x0 x1 x2 x3 x4 : PV) (l : List PV) : atP (x0 :: x1 :: x2 :: x3 :: x4 :: l) 4 = some x4 := atP_nat (i := 4) (by simp only [List.length_cons]; omega)
@[simp] theorem atP_5 (x0 x1 x2 x3 x4 x5 : PV) (l : List PV) : atP (x0 :: x1 :: x2 :: x3 :: x4 :: x5 :: l) 5 = some x5 := atP_nat (i := 5) (by simp only [List.length_cons]; omega)
@[simp] theorem atP_6 (x0 x1 x2 x3 x4 x5 x6 : PV) (l : List PV) : atP (x0 :: x1 :: x2 :: x3 :: x4 :: x5 :: x6 :: l) 6 = some x6 := atP_nat (i := 6) (by simp only [List.length_cons]; omega)
@[simp] theorem atP_7 (x0 x1 x2 x3 x4 x5 x6 x7 : PV) (l : List PV) : atP (x0 :: x1 :: x2 :: x3 :: x4 :: x5 :: x6 :: x7 :: l) 7 = some x7 := atP_nat (i := 7) (by simp only [List.length_cons]; omega)
@[simp] theorem atP_8 (x0 x1 x2 x3 x4 x5 x6 x7 x8 : PV) (l : List PV) : atP (x0 :: x1 :: x2 :: x3 :: x4 :: x5 :: x6 :: x7 :: x8 :: l) 8 = some x8 := atP_nat (i := 8) (by simp only [List.length_cons]; omega)
theorem ixP_0 {n : Nat} (h : 0 < n) : ixP n 0 = some 0 := ixP_nat h
theorem ixP_1 {n : Nat} (h : 1 < n) : ixP n 1 = some 1 := ixP_nat h
theorem ixP_2 {n : Nat} (h : 2 < n) : ixP n 2 = some 2 := ixP_nat h
theorem ixP_3 {n : Nat} (h : 3 < n) : ixP n 3 = some 3 := ixP_nat h
theorem ixP_4 {n : Nat} (h : 4 < n) : ixP n 4 = some 4 := ixP_nat h
@[simp] theorem ixP4_0 : ixP 4 0 = some 0 := rfl
@[simp] theorem ixP4_1 : ixP 4 1 = some 1 := rfl
@[simp] theorem ixP4_2 : ixP 4 2 = some 2 := rfl
@[simp] theorem ixP4_3 : ixP 4 3 = some 3 := rfl
theorem bin_pow3 {i : Int} (h1 : -1000000000000000000 < i) (h2 : i < 1000000000000000000) : binV .pow (.int i) (.int 3) = some (.int (i ^ 3)) := bin_pow (k := 3) (by omega) (by omega)
theorem bin_pow5 {i : Int} (h1 : -1000000000000000000 < i) (h2 : i < 1000000000000000000) : binV .pow (.int i) (.int 5) = some (.int (i ^ 5)) := bin_pow (k := 5) (by omega) (by omega)
@[simp] theorem bin_pow18 : binV .pow (.int 10) (.int 18) = some (.int 1000000000000000000) := by
  rw [show (18 : Int) = ((18 : Nat) : Int) from rfl, bin_pow (by omega) (by omega)]; rfl
theorem bin_mulc {i j : Int} (h1 : -1000000000000000000 < i) (h2 : i < 1000000000000000000) : binV .mul (.int i) (.int j) = some (.int (i * j)) := bin_mul (.inl ⟨by omega, by omega⟩)
theorem bin_cat {xs ys : List PV} (h : szOk (xs.length + ys.length) = true) : binV .add (.lst xs) (.lst ys) = some (.lst (xs ++ ys)) := if_pos h
theorem bin_catT {xs ys : List PV} (h : szOk (xs.length + ys.length) = true) : binV .add (.tup xs) (.tup ys) = some (.tup (xs ++ ys)) := if_pos h
@[simp] theorem enumV_tup (xs : List PV) : enumV (.tup xs) = some (.lst (enumP 0 xs)) := rfl
@[simp] theorem enumV_lst (xs : List PV) : enumV (.lst xs) = some (.lst (enumP 0 xs)) := rfl
@[simp] theorem enumP_nil (n : Nat) : enumP n [] = [] := rfl
@[simp] theorem enumP_cons (n : Nat) (x : PV) (xs : List PV) : enumP n (x :: xs) = .tup [.int (n : Nat), x] :: enumP (n + 1) xs := rfl
@[simp] theorem revV_lst (xs : List PV) : revV (.lst xs) = some (.lst xs.reverse) := rfl
@[simp] theorem lstOf_lst (xs : List PV) : lstOf (.lst xs) = some xs := rfl
@[simp] theorem isaV_str_str (s : Str) : isaV (.str s) .str = some true := rfl
@[simp] theorem isaV_int_str (s : Int) : isaV (.int s) .str = some false := rfl
@[simp] theorem isaV_tup_str (s : List PV) : isaV (.tup s) .str = some false := rfl
@[simp] theorem isaV_int_tuple (s : Int) : isaV (.int s) .tuple = some false := rfl
@[simp] theorem isaV_str_tuple (s : Str) : isaV (.str s) .tuple = some false := rfl
@[simp] theorem isaV_str_int (s : Str) : isaV (.str s) .int = some false := rfl
@[simp] theorem isaV_non_int  : isaV .non .int = some false := rfl
@[simp] theorem isaV_non_bool  : isaV .non .bool = some false := rfl
@[simp] theorem isaV_non_str  : isaV .non .str = some false := rfl
@[simp] theorem isaV_non_tuple  : isaV .non .tuple = some false := rfl
@[simp] theorem isaV_non_list  : isaV .non .list = some false := rfl
@[simp] theorem isaV_bl_str (i : Bool) : isaV (.bl i) .str = some false := rfl
@[simp] theorem isaV_bl_tuple (i : Bool) : isaV (.bl i) .tuple = some false := rfl
@[simp] theorem isaV_bl_list (i : Bool) : isaV (.bl i) .list = some false := rfl
@[simp] theorem isaV_int_list (i : Int) : isaV (.int i) .list = some false := rfl
@[simp] theorem isaV_str_bool (i : Str) : isaV (.str i) .bool = some false := rfl
@[simp] theorem isaV_str_list (i : Str) : isaV (.str i) .list = some false := rfl
@[simp] theorem isaV_tup_bool (i : List PV) : isaV (.tup i) .bool = some false := rfl
@[simp] theorem isaV_tup_list (i : List PV) : isaV (.tup i) .list = some false := rfl
@[simp] theorem isaV_lst_int (i : List PV) : isaV (.lst i) .int = some false := rfl
@[simp] theorem isaV_lst_bool (i : List PV) : isaV (.lst i) .bool = some false := rfl
@[simp] theorem isaV_lst_str (i : List PV) : isaV (.lst i) .str = some false := rfl
@[simp] theorem isaV_lst_tuple (i : List PV) : isaV (.lst i) .tuple = some false := rfl
@[simp] theorem isaV_lst_list (i : List PV) : isaV (.lst i) .list = some true := rfl
@[simp] theorem isa2V_eq (x : PV) (t u : Ty) : isa2V x t u = (match isaV x t, isaV x u with
  | some a, some b => some (a || b)
  | _, _ => none) := rfl
theorem cat_ok {xs ys : List PV} (h : szOk (xs.length + ys.length) = true) : catV (.lst xs) (.lst ys) = some (.lst (xs ++ ys)) := if_pos h
@[simp] theorem isD_dct (ks : List Key) (xs : List PV) : isD (.dct ks xs) = true := rfl
@[simp] theorem revTV_tup (xs : List PV) : revTV (.tup xs) = some (.tup xs.reverse) := rfl
@[simp] theorem itemsOf_str (s : Str) : itemsOf (.str s) = some (signsP s) := rfl
@[simp] theorem bin_addb (c : Bool) (j : Int) : binV .add (.bl c) (.int j) = some (.int ((if c then 1 else 0) + j)) := rfl
@[simp] theorem cutP_1 (x : PV) (xs : List PV) : cutP (x :: xs) (some 1) none = xs := by
  unfold cutP
  rw [show (1 : Int) = ((1 : Nat) : Int) from rfl, HT.sIx_nat, HT.sIx_none, show min 1 (x :: xs).length = 1 by simp, List.drop_one, List.tail_cons, List.take_of_length_le (by simp)]
theorem zs_snoc (p : List Int) (k : Int) : zs p ++ [.int k] = zs (p ++ [k]) := by simp [zs]
theorem last_snoc {α : Type} (xs : List α) (x : α) : (xs ++ [x])[(xs ++ [x]).length - 1]? = some x := by simp
end Ev
namespace Ev
open PySem L2
/-! ### repr of small data -/
mutual
def PV.sm : PV → Bool
  | .non => true
  | .bl _ => true
  | .int i => decide (i.natAbs < 10 ^ 100)
  | .str s => PyData.strOk s
  | .tup xs => PV.smL xs
  | .lst xs => PV.smL xs
  | _ => false
def PV.smL : List PV → Bool
  | [] => true
  | x :: xs => x.sm && PV.smL xs
end
mutual
def PV.bk : PV → Nat
  | .str s => s.cps.size
  | .tup xs => PV.bkL xs
  | .lst xs => PV.bkL xs
  | _ => 0
def PV.bkL : List PV → Nat
  | [] => 0
  | x :: xs => x.bk + 1 + PV.bkL xs
end
mutual
def PV.dp : PV → Nat
  | .tup xs => PV.dpL xs + 1
  | .lst xs => PV.dpL xs + 1
  | _ => 0
def PV.dpL : List PV → Nat
  | [] => 0
  | x :: xs => max x.dp (PV.dpL xs)
end
theorem log2_small {n : Nat} (h : n < 10 ^ 100) : n.log2 < 1920 := by
  by_cases h0 : n = 0
  · subst h0; decide
  · rw [Nat.log2_lt h0]
    exact Nat.lt_trans h (by
      calc 10 ^ 100 < 2 ^ 400 := by decide +kernel
        _ ≤ 2 ^ 1920 := Nat.pow_le_pow_right (by decide) (by decide))
theorem strOk_low {s : Str} (h : PyData.strOk s = true) : ∀ c ∈ s.cps.toList, c < 1114112 := by
  intro c hc
  have h' : s.cps.all (· < 0x110000) = true := h
  rw [Array.all_eq_true_iff_forall_mem] at h'
  exact of_decide_eq_true (h' c (by simpa using hc))
theorem strOk_of {s : Str} (h : ∀ c ∈ s.cps.toList, c < 1114112) : PyData.strOk s = true := by
  show s.cps.all (· < 0x110000) = true
  rw [Array.all_eq_true_iff_forall_mem]
  exact fun c hc => decide_eq_true (h c (by simpa using hc))
theorem int_text {i : Int} (h : i.natAbs < 10 ^ 100) : (Str.ofString (toString i)).length ≤ 101 := by
  have e := int_text_length_le10 (k := 100) (by decide) h
  rw [ofString_length]; exact e
mutual
theorem PV.sm_data : ∀ {a : PV}, a.sm = true → ∃ d, a.data = some d ∧ d.leavesShort 101 = true ∧ d.showable = true ∧ d.hasDict = false ∧ d.bulk = a.bk ∧ d.depth = a.dp ∧ d.canLay0 = true
  | .non, _ => ⟨_, rfl, rfl, rfl, rfl, rfl, rfl, rfl⟩
  | .bl _, _ => ⟨_, rfl, rfl, rfl, rfl, rfl, rfl, rfl⟩
  | .int i, h => by
    have h : i.natAbs < 10 ^ 100 := of_decide_eq_true h
    refine ⟨_, rfl, ?_, ?_, rfl, rfl, rfl, rfl⟩
    · show decide ((PyData.shown (.int i)).length ≤ 101) = true
      exact decide_eq_true (int_text h)
    · show decide (i.natAbs.log2 < 1920) = true
      exact decide_eq_true (log2_small h)
  | .str s, h => by
    refine ⟨_, rfl, ?_, rfl, rfl, rfl, rfl, h⟩
    show (s.cps.toList.all fun c => decide (c < 16 ^ 8)) = true
    rw [List.all_eq_true]
    intro c hc
    have := strOk_low h c hc
    exact decide_eq_true (by omega)
  | .tup xs, h => by
    obtain ⟨ds, e, h1, h2, h3, h4, h5, h6⟩ := PV.smL_data (xs := xs) h
    refine ⟨.tuple ds, by rw [PV.data, e]; rfl, h1, h2, h3, h4, ?_, h6⟩
    show PyData.depth _ = PV.dpL xs + 1
    rw [PyData.depth, h5]
  | .lst xs, h => by
    obtain ⟨ds, e, h1, h2, h3, h4, h5, h6⟩ := PV.smL_data (xs := xs) h
    refine ⟨.list ds, by rw [PV.data, e]; rfl, h1, h2, h3, h4, ?_, h6⟩
    show PyData.depth _ = PV.dpL xs + 1
    rw [PyData.depth, h5]
  | .rol _, h => by cases h
  | .cell _, h => by cases h
  | .dct _ _, h => by cases h
theorem PV.smL_data : ∀ {xs : List PV}, PV.smL xs = true → ∃ ds, PV.dataL xs = some ds ∧ PyData.leavesShortAll 101 ds = true ∧ PyData.showableAll ds = true ∧ PyData.hasDictAll ds = false ∧ PyData.bulkAll ds = PV.bkL xs ∧ PyData.depthAll ds = PV.dpL xs ∧ PyData.canLayAll0 ds = true
  | [], _ => ⟨_, rfl, rfl, rfl, rfl, rfl, rfl, rfl⟩
  | x :: xs, h => by
    rw [PV.smL, Bool.and_eq_true] at h
    obtain ⟨d, e, h1, h2, h3, h4, h5, h6⟩ := PV.sm_data h.1
    obtain ⟨ds, e', h1', h2', h3', h4', h5', h6'⟩ := PV.smL_data h.2
    refine ⟨d :: ds, by rw [PV.dataL, e, e'], ?_, ?_, ?_, ?_, ?_, by rw [PyData.canLayAll0, h6, h6']; rfl⟩
    · rw [PyData.leavesShortAll, h1, h1']; rfl
    · rw [PyData.showableAll, h2, h2']; rfl
    · rw [PyData.hasDictAll, h3, h3']; rfl
    · rw [PyData.bulkAll, h4, h4', PV.bkL]
    · rw [PyData.depthAll, h5, h5', PV.dpL]
end
/-- how large data is -/
structure B3 (n d : Nat) (a : PV) : Prop where
  sm : a.sm = true
  bk : a.bk ≤ n
  dp : a.dp ≤ d
theorem B3.mono {n n' d d' : Nat} {a : PV} (h : B3 n d a) (hn : n ≤ n') (hd : d ≤ d') : B3 n' d' a := ⟨h.sm, Nat.le_trans h.bk hn, Nat.le_trans h.dp hd⟩
theorem B3.int {i : Int} (h : i.natAbs < 10 ^ 100) {n d : Nat} : B3 n d (.int i) := ⟨decide_eq_true h, Nat.zero_le _, Nat.zero_le _⟩
theorem B3.bl {b : Bool} {n d : Nat} : B3 n d (.bl b) := ⟨rfl, Nat.zero_le _, Nat.zero_le _⟩
theorem B3.non {n d : Nat} : B3 n d .non := ⟨rfl, Nat.zero_le _, Nat.zero_le _⟩
theorem B3.all {n d : Nat} : ∀ {xs : List PV}, (∀ x ∈ xs, B3 n d x) → PV.smL xs = true ∧ PV.bkL xs ≤ xs.length * (n + 1) ∧ PV.dpL xs ≤ d
  | [], _ => ⟨rfl, Nat.le_of_eq (by simp [PV.bkL]), Nat.zero_le _⟩
  | x :: xs, h => by
    obtain ⟨h1, h2, h3⟩ := B3.all (xs := xs) fun y hy => h y (List.mem_cons_of_mem _ hy)
    have hx := h x (List.mem_cons_self ..)
    refine ⟨by rw [PV.smL, hx.sm, h1]; rfl, ?_, ?_⟩
    · rw [PV.bkL, List.length_cons, Nat.succ_mul]
      have := hx.bk
      omega
    · rw [PV.dpL]; exact Nat.max_le.mpr ⟨hx.dp, h3⟩
theorem B3.tup {n d m : Nat} {xs : List PV} (h : ∀ x ∈ xs, B3 n d x) (hm : xs.length * (n + 1) ≤ m) : B3 m (d + 1) (.tup xs) := by
  obtain ⟨h1, h2, h3⟩ := B3.all h
  exact ⟨h1, Nat.le_trans h2 hm, Nat.succ_le_succ h3⟩
theorem B3.lst {n d m : Nat} {xs : List PV} (h : ∀ x ∈ xs, B3 n d x) (hm : xs.length * (n + 1) ≤ m) : B3 m (d + 1) (.lst xs) := by
  obtain ⟨h1, h2, h3⟩ := B3.all h
  exact ⟨h1, Nat.le_trans h2 hm, Nat.succ_le_succ h3⟩
theorem reprV_of {a : PV} {n d : Nat} (h : B3 n d a) (hn : n ≤ 150000) (hd : d ≤ 60) : ∃ s, reprV a = some (.str s) := by
  obtain ⟨dd, e, h1, h2, h3, h4, h5, h6⟩ := PV.sm_data h.sm
  have hb := h.bk
  have hdp := h.dp
  have hs : dd.shown.length ≤ sizeLine := by
    have := PyData.shown_le_bulk 101 (by decide) dd h1
    rw [sizeLine_eq]
    rw [h4] at this
    have := Nat.mul_le_mul_left (101 + 2) (Nat.le_trans hb hn)
    omega
  refine ⟨dd.shown, ?_⟩
  unfold reprV
  rw [e]
  show (if _ then _ else _) = _
  rw [if_pos]
  simp only [Bool.and_eq_true, decide_eq_true_eq, Bool.not_eq_true']
  exact ⟨⟨⟨h2, h3⟩, by omega⟩, decide_eq_true hs⟩
/-! ### equality of small data -/
theorem B3.sh {a : PV} {n d : Nat} (h : B3 n d a) (hd : d ≤ 60) : ∃ dd, a.data = some dd ∧ SeqAt.shaped dd = true := by
  obtain ⟨dd, e, h1, h2, h3, h4, h5, h6⟩ := PV.sm_data h.sm
  have := h.dp
  refine ⟨dd, e, ?_⟩
  unfold SeqAt.shaped
  rw [h6, decide_eq_true (by omega)]
  rfl
theorem eqV_self {a : PV} {n d : Nat} (h : B3 n d a) (hd : d ≤ 60) : eqV a a = some true := by
  obtain ⟨dd, e, hs⟩ := h.sh hd
  unfold eqV
  have e2 : eqD a a = some true := by
    unfold eqD
    rw [e]
    show (if (SeqAt.shaped dd && SeqAt.shaped dd) = true then some (PyData.eqv dd dd) else none) = _
    rw [hs, SeqAt.eqv_refl dd (SeqAt.canLay_of_shaped hs)]
    rfl
  cases a <;> first
    | exact e2
    | (show some (decide (_ = _)) = _
       rw [decide_eq_true rfl])
theorem eqV_some {a b : PV} {n d m d' : Nat} (h : B3 n d a) (hd : d ≤ 60) (h' : B3 m d' b) (hd' : d' ≤ 60) : ∃ c, eqV a b = some c := by
  obtain ⟨dd, e, hs⟩ := h.sh hd
  obtain ⟨de, e', hs'⟩ := h'.sh hd'
  unfold eqV
  cases q : scalE a b with
  | some k => exact ⟨k, rfl⟩
  | none =>
    refine ⟨PyData.eqv dd de, ?_⟩
    show eqD a b = _
    unfold eqD
    rw [e, e']
    show (if (SeqAt.shaped dd && SeqAt.shaped de) = true then some (PyData.eqv dd de) else none) = _
    rw [hs, hs']
    rfl
/-! ### texts -/
/-- a text of at most n signs -/
structure TB (n : Nat) (s : Str) : Prop where
  len : s.length ≤ n
  low : ∀ c ∈ s.cps.toList, c < 1114112
theorem TB.mono {n m : Nat} {s : Str} (h : TB n s) (hm : n ≤ m) : TB m s := ⟨Nat.le_trans h.len hm, h.low⟩
theorem TB.append {n m : Nat} {s t : Str} (h : TB n s) (k : TB m t) : TB (n + m) (s ++ t) := by
  refine ⟨by rw [Str.length_append]; have := h.len; have := k.len; omega, fun c hc => ?_⟩
  have e : (s ++ t).cps = s.cps ++ t.cps := rfl
  rw [e, Array.toList_append, List.mem_append] at hc
  exact hc.elim (h.low c) (k.low c)
theorem TB.of (s : String) : TB s.length (Str.ofString s) := by
  refine ⟨Nat.le_of_eq (ofString_length s), fun c hc => ?_⟩
  rw [Str.ofString_eq_toList] at hc
  simp only [List.mem_map] at hc
  obtain ⟨ch, _, rfl⟩ := hc
  rcases ch.valid with h | h
  · show ch.val.toNat < _
    omega
  · exact h.2
theorem TB.lit {n : Nat} (s : String) (h : s.length ≤ n) : TB n (Str.ofString s) := (TB.of s).mono h
theorem TB.int {i : Int} (h : i.natAbs < 10 ^ 100) : TB 101 (Str.ofString (toString i)) := ⟨int_text h, (TB.of _).low⟩
theorem TB.pv {n d : Nat} {s : Str} (h : TB n s) : B3 n d (.str s) := ⟨strOk_of h.low, h.len, Nat.zero_le _⟩
theorem TB.join {n : Nat} {sep : Str} (hs : TB 1 sep) : ∀ {xs : List Str}, (∀ x ∈ xs, TB n x) → TB (xs.length * (n + 1)) (Str.join sep xs)
  | [], _ => ⟨Nat.zero_le _, fun c hc => by cases hc⟩
  | [x], h => (h x (List.mem_cons_self ..)).mono (by simp)
  | x :: y :: r, h => by
    have ih := TB.join hs (xs := y :: r) fun z hz => h z (List.mem_cons_of_mem _ hz)
    have := ((h x (List.mem_cons_self ..)).append hs).append ih
    refine TB.mono (s := Str.join sep (x :: y :: r)) this ?_
    simp only [List.length_cons, Nat.succ_mul, Nat.add_mul]
    omega
theorem TB.tjoin {n m : Nat} {sep : Str} {xs : List Str} (hs : TB 1 sep) (h : ∀ x ∈ xs, TB n x) (hm : xs.length * (n + 1) ≤ m) : TB m (Txt.join sep xs) := by
  unfold Txt.join
  rw [StrLaws.glued_eq_join]
  exact (TB.join hs h).mono hm
/-- repr of a text -/
theorem repr_str {s : Str} {n : Nat} (h : TB n s) (hn : n ≤ 1000000) : ∃ t, reprV (.str s) = some (.str t) := by
  have hl := h.len
  have h1 : (PyData.str s).leavesShort 13 = true := by
    show (s.cps.toList.all fun c => decide (c < 16 ^ 8)) = true
    rw [List.all_eq_true]
    intro c hc
    have := h.low c hc
    exact decide_eq_true (by omega)
  have hs : (PyData.str s).shown.length ≤ sizeLine := by
    have := PyData.shown_le_bulk 13 (by decide) (.str s) h1
    have e : (PyData.str s).bulk = s.length := rfl
    rw [e] at this
    rw [sizeLine_eq]
    omega
  refine ⟨(PyData.str s).shown, ?_⟩
  show (if _ then _ else _) = _
  rw [if_pos]
  have e1 : (PyData.str s).showable = true := rfl
  have e2 : (PyData.str s).hasDict = false := rfl
  have e3 : (PyData.str s).depth = 0 := rfl
  rw [e1, e2, e3]
  simp only [Bool.true_and, Bool.not_false, Bool.and_eq_true, decide_eq_true_eq]
  exact ⟨by omega, decide_eq_true hs⟩
theorem fmt_tb {acc s : Str} {n m : Nat} (h : TB n acc) (k : TB m s) (hl : n + m ≤ 100000) : fmtV acc (.str s) = some (acc ++ s) := by
  have := (h.append k).len
  show (if szOk (acc ++ s).length then some (acc ++ s) else none) = _
  rw [if_pos (by unfold szOk; rw [decide_eq_true_eq, sizeLine_eq]; omega)]
theorem str1_int {i : Int} (h : i.natAbs < 10 ^ 100) : str1V (.int i) = some (.str (toString i)) := by
  show (if i.natAbs.log2 < 1920 then some (PV.str (toString i)) else none) = _
  rw [if_pos (log2_small h)]
@[simp] theorem str1_str (s : Str) : str1V (.str s) = some (.str s) := rfl
theorem str_nil_append (s : Str) : Str.empty ++ s = s := by
  show Str.append _ _ = _
  unfold Str.append Str.empty
  simp
theorem fmt_str {acc s : Str} (h : (acc ++ s).length ≤ 100000) : fmtV acc (.str s) = some (acc ++ s) := by
  show (if szOk (acc ++ s).length then some (acc ++ s) else none) = _
  rw [if_pos (by unfold szOk; rw [decide_eq_true_eq, sizeLine_eq]; omega)]
theorem fmt_int {acc : Str} {i : Int} (hi : i.natAbs < 10 ^ 100) (h : (acc ++ Str.ofString (toString i)).length ≤ 100000) : fmtV acc (.int i) = some (acc ++ toString i) := by
  unfold fmtV
  rw [str1_int hi]
  show (if szOk (acc ++ Str.ofString (toString i)).length then some (acc ++ Str.ofString (toString i)) else none) = _
  rw [if_pos (by unfold szOk; rw [decide_eq_true_eq, sizeLine_eq]; omega)]
theorem strsP_map (xs : List Str) : strsP (xs.map PV.str) = some xs := by
  induction xs with
  | nil => rfl
  | cons x xs ih => rw [List.map_cons, strsP, ih]; rfl
theorem join_ok {sep : Str} {xs : List Str} {n : Nat} (hs : TB 1 sep) (h : ∀ x ∈ xs, TB n x) (hm : xs.length * (n + 1) ≤ 1000000) : joinV (.str sep) (.lst (xs.map PV.str)) = some (.str (Txt.join sep xs)) := by
  show (match strsP (xs.map PV.str) with
    | some (ys : List Str) => if (ys.map (fun s : Str => s.length)).sum + ys.length * sep.length ≤ 16777216 then some (PV.str (Txt.join sep ys)) else none
    | none => none) = _
  rw [strsP_map]
  show (if (xs.map (·.length)).sum + xs.length * sep.length ≤ 16777216 then some (PV.str (Txt.join sep xs)) else none) = _
  have key : ∀ xs : List Str, (∀ x ∈ xs, TB n x) → (xs.map (·.length)).sum + xs.length * sep.length ≤ xs.length * (n + 1) := by
    intro xs
    induction xs with
    | nil => intro _; simp
    | cons x xs ih =>
      intro h
      have h1 := ih fun y hy => h y (List.mem_cons_of_mem _ hy)
      have h2 := (h x (List.mem_cons_self ..)).len
      have h3 := hs.len
      simp only [List.map_cons, List.sum_cons, List.length_cons, Nat.succ_mul]
      omega
  have := key xs h
  rw [if_pos (by omega)]
theorem bin_catS {x y : Str} (h : x.length + y.length ≤ 1000000) : binV .add (.str x) (.str y) = some (.str (x ++ y)) := by
  show (if szOk (x.length + y.length) then some (PV.str (x ++ y)) else none) = _
  rw [if_pos (by unfold szOk; rw [decide_eq_true_eq, sizeLine_eq]; omega)]
end Ev
namespace Ev
open PySem L2
/-! ### expressions of the program -/
inductive W2 where | add | sub | mul | eq | lt | and | or
def W2.s : W2 → Str
  | .add => "+"
  | .sub => "-"
  | .mul => "*"
  | .eq => "="
  | .lt => "<"
  | .and => "and"
  | .or => "or"
inductive Ex where | lit (i : Int) | item (s : Str) | n1 (a : Ex) | n2 (w : W2) (a b : Ex)
def Ex.pv : Ex → PV
  | .lit i => .int i
  | .item s => .tup [.str "item", .str s]
  | .n1 a => .tup [.str "not", a.pv]
  | .n2 w a b => .tup [.str w.s, a.pv, b.pv]
def Ex.words : Ex → List Str
  | .lit i => [toString i]
  | .item s => ["item", s]
  | .n1 a => "not" :: a.words
  | .n2 w a b => w.s :: (a.words ++ b.words)
def Ex.heads : Ex → List Str
  | .lit i => [toString i]
  | .item s => ["item", s]
  | .n1 a => ["not"]
  | .n2 w a b => [w.s]
def W2.isN : W2 → Bool
  | .add => true
  | .sub => true
  | .mul => true
  | _ => false
def W2.isR : W2 → Bool
  | .eq => true
  | .lt => true
  | _ => false
def W2.isL : W2 → Bool
  | .and => true
  | .or => true
  | _ => false
def Ex.num : Ex → Prop
  | .lit _ => True
  | .item _ => True
  | .n1 _ => False
  | .n2 w a b => w.isN = true ∧ a.num ∧ b.num
def Ex.cond : Ex → Prop
  | .lit _ => False
  | .item _ => False
  | .n1 a => a.cond
  | .n2 w a b => (w.isR = true ∧ a.num ∧ b.num) ∨ (w.isL = true ∧ a.cond ∧ b.cond)
/-- as it is drawn -/
def Ex.dr (ss : List Str) : Ex → Prop
  | .lit i => i.natAbs ≤ 12
  | .item s => s ∈ ss
  | .n1 a => a.dr ss
  | .n2 _ a b => a.dr ss ∧ b.dr ss
/-- how many parts -/
def Ex.sz : Ex → Nat
  | .lit _ => 1
  | .item _ => 1
  | .n1 a => a.sz + 1
  | .n2 _ a b => a.sz + b.sz + 1
def Ex.dep : Ex → Nat
  | .lit _ => 0
  | .item _ => 0
  | .n1 a => a.dep + 1
  | .n2 _ a b => max a.dep b.dep + 1
def Ex.ok : Ex → Prop
  | .lit i => i.natAbs < 10 ^ 100
  | .item s => TB 20 s
  | .n1 a => a.ok
  | .n2 _ a b => a.ok ∧ b.ok
theorem Ex.dr_ok {ss : List Str} (hs : ∀ s ∈ ss, TB 20 s) : ∀ e : Ex, e.dr ss → e.ok
  | .lit i, h => Nat.lt_of_le_of_lt (show i.natAbs ≤ 12 from h) (by decide +kernel)
  | .item s, h => hs s h
  | .n1 a, h => Ex.dr_ok hs a h
  | .n2 _ a b, h => ⟨Ex.dr_ok hs a h.1, Ex.dr_ok hs b h.2⟩
theorem Ex.sz_pos (e : Ex) : 1 ≤ e.sz := by cases e <;> simp [Ex.sz] <;> omega
theorem Ex.dep_lt : ∀ e : Ex, e.dep < e.sz
  | .lit _ => Nat.zero_lt_one
  | .item _ => Nat.zero_lt_one
  | .n1 a => Nat.succ_lt_succ a.dep_lt
  | .n2 _ a b => by
    have := a.dep_lt
    have := b.dep_lt
    show max a.dep b.dep + 1 < a.sz + b.sz + 1
    omega
/-- all parts, each with its path, in order -/
def Ex.pre (p : List Int) : Ex → List (List Int × Ex)
  | .lit i => [(p, .lit i)]
  | .item s => [(p, .item s)]
  | .n1 a => (p, .n1 a) :: a.pre (p ++ [1])
  | .n2 w a b => (p, .n2 w a b) :: (a.pre (p ++ [1]) ++ b.pre (p ++ [2]))
theorem Ex.pre_words : ∀ (e : Ex) (p : List Int), ((e.pre p).flatMap fun q => q.2.heads) = e.words
  | .lit i, p => rfl
  | .item s, p => rfl
  | .n1 a, p => by
    rw [Ex.pre, List.flatMap_cons, Ex.pre_words a]; rfl
  | .n2 w a b, p => by
    rw [Ex.pre, List.flatMap_cons, List.flatMap_append, Ex.pre_words a, Ex.pre_words b]; rfl
theorem Ex.pre_length : ∀ (e : Ex) (p : List Int), (e.pre p).length = e.sz
  | .lit i, p => rfl
  | .item s, p => rfl
  | .n1 a, p => by show (a.pre _).length + 1 = _; rw [Ex.pre_length a]; rfl
  | .n2 w a b, p => by
    show (a.pre _ ++ b.pre _).length + 1 = _
    rw [List.length_append, Ex.pre_length a, Ex.pre_length b]; rfl
theorem Ex.pre_ok : ∀ (e : Ex) (p : List Int), e.ok → ∀ q ∈ e.pre p, q.2.ok
  | .lit i, p, h, q, hq => by cases List.mem_singleton.mp hq; exact h
  | .item s, p, h, q, hq => by cases List.mem_singleton.mp hq; exact h
  | .n1 a, p, h, q, hq => by
    rcases List.mem_cons.mp hq with rfl | hq
    · exact h
    · exact Ex.pre_ok a _ h q hq
  | .n2 w a b, p, h, q, hq => by
    rcases List.mem_cons.mp hq with rfl | hq
    · exact h
    · rcases List.mem_append.mp hq with hq | hq
      · exact Ex.pre_ok a _ h.1 q hq
      · exact Ex.pre_ok b _ h.2 q hq
theorem W2.tb (w : W2) : TB 101 w.s := by cases w <;> exact TB.lit _ (by decide)
theorem Ex.words_tb : ∀ (e : Ex), e.ok → ∀ w ∈ e.words, TB 101 w
  | .lit i, h, w, hw => by cases List.mem_singleton.mp hw; exact TB.int h
  | .item s, h, w, hw => by
    simp only [Ex.words, List.mem_cons, List.not_mem_nil, or_false] at hw
    rcases hw with rfl | rfl
    · exact TB.lit _ (by decide)
    · exact TB.mono h (by omega)
  | .n1 a, h, w, hw => by
    rcases List.mem_cons.mp hw with rfl | hw
    · exact TB.lit _ (by decide)
    · exact Ex.words_tb a h w hw
  | .n2 o a b, h, w, hw => by
    rcases List.mem_cons.mp hw with rfl | hw
    · exact o.tb
    · rcases List.mem_append.mp hw with hw | hw
      · exact Ex.words_tb a h.1 w hw
      · exact Ex.words_tb b h.2 w hw
theorem Ex.words_len : ∀ e : Ex, e.words.length ≤ 2 * e.sz
  | .lit i => by show 1 ≤ 2 * 1; omega
  | .item s => by show 2 ≤ 2 * 1; omega
  | .n1 a => by
    have := a.words_len
    show a.words.length + 1 ≤ 2 * (a.sz + 1); omega
  | .n2 o a b => by
    have := a.words_len
    have := b.words_len
    show (a.words ++ b.words).length + 1 ≤ 2 * (a.sz + b.sz + 1)
    rw [List.length_append]; omega
/-- an expression's text -/
def Ex.text (e : Ex) : Str := Txt.join " " e.words
theorem Ex.text_tb {e : Ex} (h : e.ok) (hs : e.sz ≤ 16) : TB 3264 e.text := by
  have := e.words_len
  refine TB.tjoin (TB.lit _ (by decide)) (e.words_tb h) ?_
  have := Nat.mul_le_mul_right (101 + 1) (Nat.le_trans e.words_len (Nat.mul_le_mul_left 2 hs))
  omega
theorem Ex.b3 : ∀ (e : Ex), e.ok → B3 (200 * e.sz) (e.dep + 1) e.pv
  | .lit i, h => B3.int h
  | .item s, h => by
    have h1 : B3 20 0 (.str s) := TB.pv h
    refine B3.tup (n := 20) (d := 0) (xs := [.str "item", .str s]) ?_ (by show 2 * 21 ≤ 200 * 1; omega)
    intro x hx
    simp only [List.mem_cons, List.not_mem_nil, or_false] at hx
    rcases hx with rfl | rfl
    · exact TB.pv (TB.lit _ (by decide))
    · exact h1
  | .n1 a, h => by
    have h1 := Ex.b3 a h
    have h2 : PV.bkL [.str ("not" : Str), a.pv] ≤ 200 * (a.sz + 1) := by
      have : PV.bk (.str ("not" : Str)) = 3 := rfl
      have := h1.bk
      simp only [PV.bkL]; omega
    refine ⟨?_, h2, ?_⟩
    · show ((PV.str ("not" : Str)).sm && (a.pv.sm && true)) = true
      rw [h1.sm, (TB.pv (n := 3) (d := 0) (TB.lit "not" (by decide))).sm]; rfl
    · show max 0 (max a.pv.dp 0) + 1 ≤ _
      have := h1.dp
      simp only [Ex.dep]; omega
  | .n2 w a b, h => by
    have h1 := Ex.b3 a h.1
    have h2 := Ex.b3 b h.2
    have hw : B3 101 0 (.str w.s) := w.tb.pv
    have hl := w.tb.len
    refine ⟨?_, ?_, ?_⟩
    · show ((PV.str w.s).sm && (a.pv.sm && (b.pv.sm && true))) = true
      rw [h1.sm, h2.sm, hw.sm]; rfl
    · show PV.bkL [.str w.s, a.pv, b.pv] ≤ 200 * (a.sz + b.sz + 1)
      have := h1.bk
      have := h2.bk
      have := hw.bk
      simp only [PV.bkL]; omega
    · show max 0 (max a.pv.dp (max b.pv.dp 0)) + 1 ≤ _
      have := h1.dp
      have := h2.dp
      simp only [Ex.dep]; omega
end Ev
namespace Ev
open PySem L2
/-! ### comprehensions that leave out -/
theorem compL_wfil {α : Type} {f : PV → Cel → R (Option PV)} {qs : List α} {v : α → PV} {st : Cel} {Q : Kp (List PV)} (p : α → Bool) (w : α → PV) (h : ∀ x ∈ qs, f (v x) st = .ok (if p x then some (w x) else none) st) (q : Q.run ((qs.filter p).map w) st) : @R.w _ (compL f (qs.map v) st) Q := by
  have e : ∀ qs : List α, (∀ x ∈ qs, f (v x) st = .ok (if p x then some (w x) else none) st) → compL f (qs.map v) st = .ok ((qs.filter p).map w) st := by
    intro qs
    induction qs with
    | nil => intro _; rfl
    | cons x xs ih =>
      intro h
      rw [List.map_cons, compL, h x (List.mem_cons_self ..)]
      show (compL f (xs.map v) st).bind _ = _
      rw [ih fun y hy => h y (List.mem_cons_of_mem _ hy)]
      cases hp : p x <;> simp [hp]
  rw [e qs h]
  with_unfolding_all exact q
theorem compL_wfP {f : PV → Cel → R (Option PV)} {xs : List PV} {st : Cel} {Q : Kp (List PV)} (p : PV → Bool) (h : ∀ x ∈ xs, f x st = .ok (if p x then some x else none) st) (q : Q.run (xs.filter p) st) : @R.w _ (compL f xs st) Q := by
  have := compL_wfil (f := f) (qs := xs) (v := id) (Q := Q) p id h (by simpa using q)
  simpa using this
theorem allB_map {α : Type} (f : α → Bool) : ∀ xs : List α, allB (xs.map fun x => PV.bl (f x)) = some (xs.map f)
  | [] => rfl
  | x :: xs => by
    rw [List.map_cons, allB, allB_map f xs]
    rfl
theorem allV_map {α : Type} (f : α → Bool) (xs : List α) : allV (.lst (xs.map fun x => PV.bl (f x))) = some (.bl (xs.all f)) := by
  rw [allV, allB_map]
  simp [List.all_map]
theorem smL_all : ∀ {xs : List PV}, PV.smL xs = true → ∀ x ∈ xs, x.sm = true
  | x :: xs, h, y, hy => by
    rw [PV.smL, Bool.and_eq_true] at h
    rcases List.mem_cons.mp hy with rfl | hy
    · exact h.1
    · exact smL_all h.2 y hy
theorem smL_of : ∀ {xs : List PV}, (∀ x ∈ xs, x.sm = true) → PV.smL xs = true
  | [], _ => rfl
  | x :: xs, h => by rw [PV.smL, h x (List.mem_cons_self ..), smL_of fun y hy => h y (List.mem_cons_of_mem _ hy)]; rfl
theorem bkL_mem : ∀ {xs : List PV} {x : PV}, x ∈ xs → x.bk + 1 ≤ PV.bkL xs
  | y :: xs, x, h => by
    rw [PV.bkL]
    rcases List.mem_cons.mp h with rfl | h
    · omega
    · have := bkL_mem h; omega
theorem bkL_len : ∀ xs : List PV, xs.length ≤ PV.bkL xs
  | [] => Nat.le_refl _
  | x :: xs => by rw [PV.bkL, List.length_cons]; have := bkL_len xs; omega
theorem dpL_mem : ∀ {xs : List PV} {x : PV}, x ∈ xs → x.dp ≤ PV.dpL xs
  | y :: xs, x, h => by
    rw [PV.dpL]
    rcases List.mem_cons.mp h with rfl | h
    · omega
    · have := dpL_mem h; omega
theorem dpL_of {d : Nat} : ∀ {xs : List PV}, (∀ x ∈ xs, x.dp ≤ d) → PV.dpL xs ≤ d
  | [], _ => Nat.zero_le _
  | x :: xs, h => by rw [PV.dpL]; exact Nat.max_le.mpr ⟨h x (List.mem_cons_self ..), dpL_of fun y hy => h y (List.mem_cons_of_mem _ hy)⟩
theorem bkL_append : ∀ (xs ys : List PV), PV.bkL (xs ++ ys) = PV.bkL xs + PV.bkL ys
  | [], ys => by simp [PV.bkL]
  | x :: xs, ys => by rw [List.cons_append, PV.bkL, PV.bkL, bkL_append xs ys]; omega
theorem szOk_big {n : Nat} (h : n ≤ 1000000) : szOk n = true := by
  unfold szOk
  rw [decide_eq_true_eq, sizeLine_eq]
  omega
@[simp] theorem cmp_in (a b : PV) : cmpV .in_ a b = inV a b := by cases a <;> cases b <;> rfl
@[simp] theorem cmp_isN (a : PV) : cmpV .isN a .non = some a.isNone := by cases a <;> rfl
@[simp] theorem cmp_notN (a : PV) : cmpV .notN a .non = some (!a.isNone) := by cases a <;> rfl
@[simp] theorem isNone_non : PV.isNone .non = true := rfl
@[simp] theorem isNone_tup (xs : List PV) : PV.isNone (.tup xs) = false := rfl
@[simp] theorem isNone_str (xs : Str) : PV.isNone (.str xs) = false := rfl
@[simp] theorem cmp_nin (a b : PV) : cmpV .nin a b = (inV a b).map (!·) := by cases a <;> cases b <;> rfl
@[simp] theorem cmp_ltT (x y : List PV) : cmpV .lt (.tup x) (.tup y) = cmpT HT.lexLt x y := rfl
@[simp] theorem cmp_leT (x y : List PV) : cmpV .le (.tup x) (.tup y) = cmpT leI x y := rfl
/-! ### == [] and == () -/
theorem eqv_nil {ds : List PyData} : PyData.eqv (.list ds) (.list []) = ds.isEmpty := by
  cases ds <;> (with_unfolding_all rfl)
theorem eqv_nilT {ds : List PyData} : PyData.eqv (.tuple ds) (.tuple []) = ds.isEmpty := by
  cases ds <;> (with_unfolding_all rfl)
theorem dataL_len : ∀ {xs : List PV} {ds : List PyData}, PV.dataL xs = some ds → ds.isEmpty = xs.isEmpty
  | [], _, h => by cases h; rfl
  | x :: xs, ds, h => by
    rw [PV.dataL] at h
    split at h
    · cases h; rfl
    · cases h
theorem eqV_lnil {ys : List PV} (h : PV.smL ys = true) (hd : PV.dpL ys ≤ 50) : eqV (.lst ys) (.lst []) = some ys.isEmpty := by
  obtain ⟨ds, e, h1, h2, h3, h4, h5, h6⟩ := PV.smL_data h
  have b : B3 (PV.bkL ys) 51 (.lst ys) := ⟨h, Nat.le_refl _, by show PV.dpL ys + 1 ≤ _; omega⟩
  obtain ⟨dd, e', hs⟩ := b.sh (by omega)
  rw [PV.data, e] at e'
  cases e'
  show eqD _ _ = _
  unfold eqD
  rw [PV.data, e, PV.data, PV.dataL]
  show (if (SeqAt.shaped (.list ds) && SeqAt.shaped (.list [])) = true then some (PyData.eqv (.list ds) (.list [])) else none) = _
  rw [hs, eqv_nil, dataL_len e]
  rfl
theorem eqV_tnil {ys : List PV} (h : PV.smL ys = true) (hd : PV.dpL ys ≤ 50) : eqV (.tup ys) (.tup []) = some ys.isEmpty := by
  obtain ⟨ds, e, h1, h2, h3, h4, h5, h6⟩ := PV.smL_data h
  have b : B3 (PV.bkL ys) 51 (.tup ys) := ⟨h, Nat.le_refl _, by show PV.dpL ys + 1 ≤ _; omega⟩
  obtain ⟨dd, e', hs⟩ := b.sh (by omega)
  rw [PV.data, e] at e'
  cases e'
  show eqD _ _ = _
  unfold eqD
  rw [PV.data, e, PV.data, PV.dataL]
  show (if (SeqAt.shaped (.tuple ds) && SeqAt.shaped (.tuple [])) = true then some (PyData.eqv (.tuple ds) (.tuple [])) else none) = _
  rw [hs, eqv_nilT, dataL_len e]
  rfl
/-! ### kinds -/
def isI : PV → Bool
  | .int _ => true
  | _ => false
def isNu : PV → Bool
  | .int i => decide (0 ≤ i)
  | _ => false
def low (c : Nat) : Bool := decide (97 ≤ c ∧ c ≤ 122)
def nameB : PV → Bool
  | .str s => decide (1 ≤ s.length ∧ s.length ≤ 8) && s.cps.toList.all low
  | _ => false
def sumB (m : Nat) : PV → Bool
  | .tup xs => xs.all isI && xs.length == m
  | _ => false
def isS1 : PV → Bool
  | .str _ => true
  | _ => false
def isT : PV → Bool
  | .tup _ => true
  | _ => false
theorem low_in (c : Nat) : decide (c ∈ ("abcdefghijklmnopqrstuvwxyz" : Str).cps.toList) = low c := by
  have e : ("abcdefghijklmnopqrstuvwxyz" : Str).cps.toList = [97, 98, 99, 100, 101, 102, 103, 104, 105, 106, 107, 108, 109, 110, 111, 112, 113, 114, 115, 116, 117, 118, 119, 120, 121, 122] := by decide +kernel
  rw [e]
  unfold low
  congr 1
  simp
  omega
theorem le_a (c : Nat) : cmpV .le (.str "a") (.str ⟨#[c]⟩) = some (decide (97 ≤ c)) := by
  show some (!decide ((⟨#[c]⟩ : Str).cps.toList < ("a" : Str).cps.toList)) = _
  have e1 : ("a" : Str).cps.toList = [97] := by decide +kernel
  have e3 : (⟨#[c]⟩ : Str).cps.toList = [c] := rfl
  rw [e1, e3]
  congr 1
  have a1 : decide ([c] < [97]) = decide (c < 97) := by simp [List.cons_lt_cons_iff]
  rw [a1]
  by_cases h1 : c < 97 <;> simp [h1] <;> omega
theorem le_z (c : Nat) : cmpV .le (.str ⟨#[c]⟩) (.str "z") = some (decide (c ≤ 122)) := by
  show some (!decide (("z" : Str).cps.toList < (⟨#[c]⟩ : Str).cps.toList)) = _
  have e1 : ("z" : Str).cps.toList = [122] := by decide +kernel
  have e3 : (⟨#[c]⟩ : Str).cps.toList = [c] := rfl
  rw [e1, e3]
  congr 1
  have a1 : decide ([122] < [c]) = decide (122 < c) := by simp [List.cons_lt_cons_iff]
  rw [a1]
  by_cases h1 : 122 < c <;> simp [h1] <;> omega
theorem in_low (c : Nat) : inV (.str ⟨#[c]⟩) (.str "abcdefghijklmnopqrstuvwxyz") = some (low c) := by rw [← low_in]; rfl
theorem sm_sign (s : Str) (h : (PV.str s).sm = true) : ∀ c ∈ s.cps.toList, (PV.str ⟨#[c]⟩).sm = true := by
  intro c hc
  have := strOk_low h c hc
  exact strOk_of fun d hd => by cases List.mem_singleton.mp hd; exact this
theorem filter_isEmpty {α : Type} (p : α → Bool) : ∀ xs : List α, (xs.filter fun x => !p x).isEmpty = xs.all p
  | [] => rfl
  | x :: xs => by
    rw [List.filter_cons, List.all_cons, ← filter_isEmpty p xs]
    cases p x <;> simp
/-! ### tuples of ints in order -/
theorem intsP_all : ∀ {xs : List PV}, xs.all isI = true → ∃ ns : List Int, xs = zs ns
  | [], _ => ⟨[], rfl⟩
  | x :: xs, h => by
    rw [List.all_cons, Bool.and_eq_true] at h
    obtain ⟨ns, rfl⟩ := intsP_all h.2
    cases x with
    | int i => exact ⟨i :: ns, rfl⟩
    | _ => cases h.1
theorem intsP_zs : ∀ ns : List Int, intsP (zs ns) = some ns
  | [] => rfl
  | n :: ns => by rw [zs_cons, intsP, intsP_zs ns]; rfl
theorem cmpT_zs (f : List Int → List Int → Bool) (ns ms : List Int) : cmpT f (zs ns) (zs ms) = some (f ns ms) := by
  unfold cmpT
  rw [intsP_zs, intsP_zs]
theorem lexAt_shift (e r e' r' : Nat → Bool) (z : Bool) : ∀ (k i j : Nat), (∀ m, m < k → e (i + m) = e' (j + m)) → (∀ m, m < k → r (i + m) = r' (j + m)) → Ob.lexAt e r z i k = Ob.lexAt e' r' z j k
  | 0, _, _, _, _ => rfl
  | k + 1, i, j, h1, h2 => by
    rw [Ob.lexAt_succ, Ob.lexAt_succ]
    have a := h1 0 (by omega)
    have b := h2 0 (by omega)
    simp only [Nat.add_zero] at a b
    rw [a, b, lexAt_shift e r e' r' z k (i + 1) (j + 1) (fun m hm => by have := h1 (m + 1) (by omega); rw [show i + 1 + m = i + (m + 1) by omega, show j + 1 + m = j + (m + 1) by omega]; exact this) (fun m hm => by have := h2 (m + 1) (by omega); rw [show i + 1 + m = i + (m + 1) by omega, show j + 1 + m = j + (m + 1) by omega]; exact this)]
theorem leI_cons (x y : Int) (ns ms : List Int) : leI (x :: ns) (y :: ms) = if x = y then leI ns ms else decide (x ≤ y) := by
  unfold leI
  rw [show min (x :: ns).length (y :: ms).length = min ns.length ms.length + 1 by simp, Ob.lexAt_succ]
  simp only [List.getD_cons_zero, decide_eq_true_eq]
  by_cases h : x = y
  · rw [if_pos h, if_pos h]
    rw [show decide ((x :: ns).length ≤ (y :: ms).length) = decide (ns.length ≤ ms.length) by simp]
    exact lexAt_shift _ _ _ _ _ _ _ _ (fun m hm => by rw [show 0 + 1 + m = (0 + m) + 1 by omega]; simp) (fun m hm => by rw [show 0 + 1 + m = (0 + m) + 1 by omega]; simp)
  · rw [if_neg h, if_neg h]
theorem lt_not_le : ∀ {ns ms : List Int}, ns.length = ms.length → HT.lexLt ns ms = !leI ms ns
  | [], [], _ => rfl
  | x :: ns, y :: ms, h => by
    rw [HT.lexLt_cons, leI_cons]
    by_cases e : x = y
    · rw [if_pos e, if_pos e.symm]; exact lt_not_le (by simpa using h)
    · rw [if_neg e, if_neg (Ne.symm e)]
      by_cases h1 : x < y
      · rw [decide_eq_true h1, decide_eq_false (by omega)]; rfl
      · rw [decide_eq_false h1, decide_eq_true (by omega)]; rfl
  | [], _ :: _, h => by cases h
  | _ :: _, [], h => by cases h
/-! ### expressions among all data -/
inductive G where | n | c
def G.kind : G → Str
  | .n => "number"
  | .c => "condition"
def G.gl : G → Str
  | .n => "n"
  | .c => "c"
/-- what stands behind a word: an item's name, or parts of these kinds -/
def plan : G → Str → Option (Option (List G))
  | .n, w => if w = "item" then some none else if w = "+" then some (some [.n, .n]) else if w = "-" then some (some [.n, .n]) else if w = "*" then some (some [.n, .n]) else none
  | .c, w => if w = "=" then some (some [.n, .n]) else if w = "<" then some (some [.n, .n]) else if w = "and" then some (some [.c, .c]) else if w = "or" then some (some [.c, .c]) else if w = "not" then some (some [.c]) else none
def fit (g : G) : PV → Bool
  | .int _ => (match g with | .n => true | .c => false)
  | .tup (.str w :: ys) => (match plan g w with
    | none => false
    | some none => (match ys with
      | [y] => nameB y
      | _ => false)
    | some (some gs) => ys.length == gs.length)
  | _ => false
def kidsOf (g : G) : PV → List (G × PV)
  | .tup (.str w :: ys) => (match plan g w with
    | some (some gs) => gs.zip ys
    | _ => [])
  | _ => []
def okF : Nat → G → PV → Bool
  | 0, _, _ => false
  | d + 1, g, x => fit g x && (kidsOf g x).all fun q => okF d q.1 q.2
def visF : Nat → G → PV → Nat
  | 0, _, _ => 1
  | d + 1, g, x => 1 + if fit g x then ((kidsOf g x).map fun q => visF d q.1 q.2).sum else 0
theorem fit_str (g : G) (w : Str) (ys : List PV) : fit g (.tup (.str w :: ys)) = (match plan g w with
    | none => false
    | some none => (match ys with
      | [y] => nameB y
      | _ => false)
    | some (some gs) => ys.length == gs.length) := rfl
theorem kids_str (g : G) (w : Str) (ys : List PV) : kidsOf g (.tup (.str w :: ys)) = (match plan g w with
    | some (some gs) => gs.zip ys
    | _ => []) := rfl
theorem zip_bk : ∀ (gs : List G) (ys : List PV), ((gs.zip ys).map fun q => q.2.bk + 1).sum ≤ PV.bkL ys
  | [], _ => by simp
  | _ :: _, [] => by simp
  | g :: gs, y :: ys => by
    have := zip_bk gs ys
    simp only [List.zip_cons_cons, List.map_cons, List.sum_cons, PV.bkL]
    omega
theorem kids_bk (g : G) (x : PV) : ((kidsOf g x).map fun q => q.2.bk + 1).sum ≤ x.bk := by
  unfold kidsOf
  split
  · rename_i w ys
    split
    · rename_i gs _
      have := zip_bk gs ys
      show _ ≤ PV.bkL _
      rw [PV.bkL]
      omega
    · simp
  · simp
theorem sum_le {α : Type} {f h : α → Nat} : ∀ {xs : List α}, (∀ x ∈ xs, f x ≤ h x) → (xs.map f).sum ≤ (xs.map h).sum
  | [], _ => Nat.le_refl _
  | x :: xs, hh => by
    simp only [List.map_cons, List.sum_cons]
    have := hh x (List.mem_cons_self ..)
    have := sum_le (f := f) (h := h) (xs := xs) fun y hy => hh y (List.mem_cons_of_mem _ hy)
    omega
theorem vis_le : ∀ (d : Nat) (g : G) (x : PV), visF d g x ≤ x.bk + 1
  | 0, _, _ => by simp [visF]
  | d + 1, g, x => by
    rw [visF]
    have h1 : ((kidsOf g x).map fun q => visF d q.1 q.2).sum ≤ ((kidsOf g x).map fun q => q.2.bk + 1).sum := sum_le fun q _ => vis_le d q.1 q.2
    have := kids_bk g x
    split <;> omega
theorem vis_pos (d : Nat) (g : G) (x : PV) : 1 ≤ visF d g x := by
  cases d with
  | zero => simp [visF]
  | succ d => rw [visF]; omega
theorem kids_mem {g : G} {x : PV} {q : G × PV} (h : q ∈ kidsOf g x) : ∃ xs, x = .tup xs ∧ q.2 ∈ xs := by
  unfold kidsOf at h
  split at h
  · split at h
    · exact ⟨_, rfl, List.mem_cons_of_mem _ (List.of_mem_zip h).2⟩
    · cases h
  · cases h
end Ev
namespace Ev
open PySem L2
/-! ### data with one part changed -/
mutual
/-- all ints within a bound -/
def PV.ib (k : Nat) : PV → Prop
  | .int i => i.natAbs ≤ 10 ^ 90 + k
  | .str s => PyData.strOk s = true
  | .tup xs => PV.ibL k xs
  | .lst xs => PV.ibL k xs
  | .non => True
  | .bl _ => True
  | _ => False
def PV.ibL (k : Nat) : List PV → Prop
  | [] => True
  | x :: xs => x.ib k ∧ PV.ibL k xs
end
theorem ibL_iff {k : Nat} : ∀ {xs : List PV}, PV.ibL k xs ↔ ∀ x ∈ xs, x.ib k
  | [] => by simp [PV.ibL]
  | x :: xs => by rw [PV.ibL, ibL_iff (xs := xs)]; simp
mutual
theorem ib_sm {k : Nat} (hk : k ≤ 1000) : ∀ {x : PV}, x.ib k → x.sm = true
  | .non, _ => rfl
  | .bl _, _ => rfl
  | .int i, h => by
    have h : i.natAbs ≤ 10 ^ 90 + k := h
    refine decide_eq_true (Nat.lt_of_le_of_lt (Nat.le_trans h (Nat.add_le_add_left hk _)) (by decide +kernel))
  | .str _, h => h
  | .tup xs, h => ibL_sm hk (xs := xs) h
  | .lst xs, h => ibL_sm hk (xs := xs) h
  | .rol _, h => h.elim
  | .cell _, h => h.elim
  | .dct _ _, h => h.elim
theorem ibL_sm {k : Nat} (hk : k ≤ 1000) : ∀ {xs : List PV}, PV.ibL k xs → PV.smL xs = true
  | [], _ => rfl
  | x :: xs, h => by rw [PV.smL, ib_sm hk h.1, ibL_sm hk h.2]; rfl
end
mutual
theorem ib_mono {k j : Nat} (hk : k ≤ j) : ∀ {x : PV}, x.ib k → x.ib j
  | .non, _ => trivial
  | .bl _, _ => trivial
  | .int i, h => Nat.le_trans h (Nat.add_le_add_left hk _)
  | .str _, h => h
  | .tup xs, h => ibL_mono hk (xs := xs) h
  | .lst xs, h => ibL_mono hk (xs := xs) h
  | .rol _, h => h
  | .cell _, h => h
  | .dct _ _, h => h
theorem ibL_mono {k j : Nat} (hk : k ≤ j) : ∀ {xs : List PV}, PV.ibL k xs → PV.ibL j xs
  | [], _ => trivial
  | x :: xs, h => ⟨ib_mono hk h.1, ibL_mono hk h.2⟩
end
/-- data within bounds -/
structure DB (k n d : Nat) (x : PV) : Prop where
  ib : x.ib k
  bk : x.bk ≤ n
  dp : x.dp ≤ d
theorem DB.sm {k n d : Nat} {x : PV} (h : DB k n d x) (hk : k ≤ 1000) : x.sm = true := ib_sm hk h.ib
theorem DB.b3 {k n d : Nat} {x : PV} (h : DB k n d x) (hk : k ≤ 1000) : B3 n d x := ⟨h.sm hk, h.bk, h.dp⟩
theorem DB.mono {k n d k' n' d' : Nat} {x : PV} (h : DB k n d x) (hk : k ≤ k') (hn : n ≤ n') (hd : d ≤ d') : DB k' n' d' x := ⟨ib_mono hk h.ib, Nat.le_trans h.bk hn, Nat.le_trans h.dp hd⟩
theorem bkL_set : ∀ {xs : List PV} {i : Nat} {x y : PV}, xs[i]? = some x → PV.bkL (xs.set i y) + x.bk = PV.bkL xs + y.bk
  | x :: xs, 0, _, y, h => by
    cases h
    simp only [List.set_cons_zero, PV.bkL]
    omega
  | x :: xs, i + 1, z, y, h => by
    have := bkL_set (xs := xs) (i := i) (x := z) (y := y) (by simpa using h)
    simp only [List.set_cons_succ, PV.bkL]
    omega
theorem bkL_erase : ∀ (xs : List PV) (i : Nat), PV.bkL (xs.eraseIdx i) ≤ PV.bkL xs
  | [], _ => by simp [PV.bkL]
  | x :: xs, 0 => by simp only [List.eraseIdx_cons_zero, PV.bkL]; omega
  | x :: xs, i + 1 => by simp only [List.eraseIdx_cons_succ, PV.bkL]; have := bkL_erase xs i; omega
theorem bkL_ins (xs : List PV) (i : Nat) (y : PV) : PV.bkL (xs.take i ++ [y] ++ xs.drop i) = PV.bkL xs + y.bk + 1 := by
  have h := bkL_append (xs.take i) (xs.drop i)
  rw [List.take_append_drop] at h
  rw [bkL_append, bkL_append, h]
  simp only [PV.bkL]
  omega
theorem db_lst {k n d : Nat} {xs : List PV} (h1 : ∀ x ∈ xs, x.ib k ∧ x.dp ≤ d) (h2 : PV.bkL xs ≤ n) : DB k n (d + 1) (.lst xs) := ⟨ibL_iff.mpr fun x hx => (h1 x hx).1, h2, Nat.succ_le_succ (dpL_of fun x hx => (h1 x hx).2)⟩
theorem db_tup {k n d : Nat} {xs : List PV} (h1 : ∀ x ∈ xs, x.ib k ∧ x.dp ≤ d) (h2 : PV.bkL xs ≤ n) : DB k n (d + 1) (.tup xs) := ⟨ibL_iff.mpr fun x hx => (h1 x hx).1, h2, Nat.succ_le_succ (dpL_of fun x hx => (h1 x hx).2)⟩
/-- whether a value is a tuple or a list -/
def seqOf : PV → Option (List PV)
  | .tup xs => some xs
  | .lst xs => some xs
  | _ => none
/-! ### sorted(set(..)) of rows -/
theorem insR_mem {k x : List Int} : ∀ {ks : List (List Int)}, x ∈ insR k ks → x = k ∨ x ∈ ks
  | [], h => by simp [insR] at h; exact .inl h
  | m :: r, h => by
    unfold insR at h
    split at h
    · exact .inr h
    · split at h
      · rcases List.mem_cons.mp h with h | h
        · exact .inl h
        · exact .inr h
      · rcases List.mem_cons.mp h with h | h
        · exact .inr (h ▸ List.mem_cons_self ..)
        · exact (insR_mem h).imp id (List.mem_cons_of_mem _)
theorem insR_len {k : List Int} : ∀ {ks : List (List Int)}, (insR k ks).length ≤ ks.length + 1
  | [] => by simp [insR]
  | m :: r => by
    unfold insR
    split
    · simp
    · split
      · simp
      · have := insR_len (k := k) (ks := r)
        simp only [List.length_cons]; omega
theorem ssetR_mem {x : List Int} : ∀ {ks : List (List Int)}, x ∈ ssetR ks → x ∈ ks
  | [], h => by cases h
  | k :: ks, h => by
    have h : x ∈ insR k (ssetR ks) := h
    rcases insR_mem h with h | h
    · exact h ▸ List.mem_cons_self ..
    · exact List.mem_cons_of_mem _ (ssetR_mem h)
theorem ssetR_len : ∀ {ks : List (List Int)}, (ssetR ks).length ≤ ks.length
  | [] => Nat.le_refl _
  | k :: ks => by
    have h1 := insR_len (k := k) (ks := ssetR ks)
    have h2 := ssetR_len (ks := ks)
    show (insR k (ssetR ks)).length ≤ ks.length + 1
    omega
theorem rowsP_map (ks : List (List Int)) : rowsP (ks.map fun k => .tup (zs k)) = some ks := by
  induction ks with
  | nil => rfl
  | cons k ks ih => rw [List.map_cons, rowsP, ih, intsP_zs]
theorem sset_ok {ks : List (List Int)} (h1 : ks.length < 64) (h2 : ∀ k ∈ ks, k ≠ []) : ssetV (.lst (ks.map fun k => .tup (zs k))) = some (.lst ((ssetR ks).map fun k => .tup (zs k))) := by
  unfold ssetV
  dsimp only
  rw [rowsP_map]
  show (if _ then _ else _) = _
  rw [if_pos]
  · rfl
  · simp only [Bool.and_eq_true, decide_eq_true_eq, List.all_eq_true, Bool.not_eq_true', List.isEmpty_eq_false_iff]
    exact ⟨h1, h2⟩
end Ev
namespace K01
open PySem L2 Ev
def topS (i : Nat) : Stmt := PySem.Challenge.pw_ownrights_k01_kinds_and_forms.main.body.getD i (.Pass ⟨0, 0, 0, 0⟩)
def b_is_integer : Ss :=
  (.cons (.ret (.and (.isa (.var 0) .int) (.not (.isa (.var 0) .bool))))
  .nil)
def D_is_integer : DefD := { nm := "is_integer", ps := ["thing"], pv := none, N := ["thing"], fr := false, st := topS 3, body := b_is_integer }
def b_is_number : Ss :=
  (.cons (.ret (.and (.call 0 (.cons (.var 0) .nil)) (.cmp .ge (.var 0) (.int 0))))
  .nil)
def D_is_number : DefD := { nm := "is_number", ps := ["thing"], pv := none, N := ["thing"], fr := false, st := topS 4, body := b_is_number }
def b_is_name : Ss :=
  (.cons (.if_ (.or (.not (.isa (.var 0) .str)) (.not (.chain .le .le (.int 1) (.len (.var 0)) (.gc 1))))
    (.cons (.ret (.bl false))
    .nil)
    .nil)
  (.cons (.ret (.all (.comp (.cmp .in_ (.var 1) (.gc 0)) [1] (.var 0) .nil [1])))
  .nil))
def D_is_name : DefD := { nm := "is_name", ps := ["thing"], pv := none, N := ["thing", "char"], fr := false, st := topS 5, body := b_is_name }
def b_is_ascending : Ss :=
  (.cons (.ret (.all (.comp (.cmp .lt (.var 1) (.var 2)) [1, 2] (.zip2 (.var 0) (.sl (.var 0) (.cons (.int 1) .nil) .nil)) .nil [1, 2])))
  .nil)
def D_is_ascending : DefD := { nm := "is_ascending", ps := ["some"], pv := none, N := ["some", "one", "other"], fr := false, st := topS 6, body := b_is_ascending }
def b_are_integers : Ss :=
  (.cons (.ret (.and (.isa (.var 0) .tuple) (.all (.comp (.call 0 (.cons (.var 1) .nil)) [1] (.var 0) .nil [1]))))
  .nil)
def D_are_integers : DefD := { nm := "are_integers", ps := ["thing"], pv := none, N := ["thing", "one"], fr := false, st := topS 7, body := b_are_integers }
def b_is_sum : Ss :=
  (.cons (.ret (.and (.call 4 (.cons (.var 0) .nil)) (.cmp .eq (.len (.var 0)) (.var 1))))
  .nil)
def D_is_sum : DefD := { nm := "is_sum", ps := ["thing", "many"], pv := none, N := ["thing", "many"], fr := false, st := topS 8, body := b_is_sum }
def b_is_sums : Ss :=
  (.cons (.ret (.and (.isa (.var 0) .tuple) (.and (.all (.comp (.call 5 (.cons (.var 2) (.cons (.var 1) .nil))) [2] (.var 0) .nil [2])) (.call 3 (.cons (.var 0) .nil)))))
  .nil)
def D_is_sums : DefD := { nm := "is_sums", ps := ["thing", "many"], pv := none, N := ["thing", "many", "one"], fr := false, st := topS 9, body := b_is_sums }
def b_wants_of : Ss :=
  (.cons (.ret (.ite (.kin false 5 (.var 0)) (.kget 5 (.var 0)) (.kget 6 (.var 0))))
  .nil)
def D_wants_of : DefD := { nm := "wants_of", ps := ["word"], pv := none, N := ["word"], fr := false, st := topS 16, body := b_wants_of }
def b_is_word_of : Ss :=
  (.cons (.ret (.ite (.cmp .eq (.var 1) (.gc 2)) (.kin false 5 (.var 0)) (.kin false 6 (.var 0))))
  .nil)
def D_is_word_of : DefD := { nm := "is_word_of", ps := ["word", "kind"], pv := none, N := ["word", "kind"], fr := false, st := topS 17, body := b_is_word_of }
def b_is_fit : Ss :=
  (.cons (.if_ (.call 0 (.cons (.var 0) .nil))
    (.cons (.ret (.cmp .eq (.var 1) (.gc 2)))
    .nil)
    .nil)
  (.cons (.if_ (.or (.not (.isa (.var 0) .tuple)) (.or (.cmp .eq (.len (.var 0)) (.int 0)) (.or (.not (.isa (.ix (.var 0) (.int 0)) .str)) (.not (.call 8 (.cons (.ix (.var 0) (.int 0)) (.cons (.var 1) .nil)))))))
    (.cons (.ret (.bl false))
    .nil)
    .nil)
  (.cons (.if_ (.cmp .ne (.len (.var 0)) (.bin .add (.len (.call 7 (.cons (.ix (.var 0) (.int 0)) .nil))) (.int 1)))
    (.cons (.ret (.bl false))
    .nil)
    .nil)
  (.cons (.if_ (.cmp .ne (.ix (.var 0) (.int 0)) (.str "item"))
    (.cons (.ret (.bl true))
    .nil)
    .nil)
  (.cons (.ret (.and (.call 2 (.cons (.ix (.var 0) (.int 1)) .nil)) (.or (.cmp .isN (.var 2) .non) (.cmp .in_ (.ix (.var 0) (.int 1)) (.var 2)))))
  .nil)))))
def D_is_fit : DefD := { nm := "is_fit", ps := ["part", "kind", "names"], pv := none, N := ["part", "kind", "names"], fr := false, st := topS 18, body := b_is_fit }
def b_inner_parts : Ss :=
  (.cons (.if_ (.call 0 (.cons (.var 1) .nil))
    (.cons (.ret (.lst .nil))
    .nil)
    .nil)
  (.cons (.asg [2] (.call 7 (.cons (.ix (.var 1) (.int 0)) .nil)))
  (.cons (.ret (.comp (.tup (.cons (.bin .add (.var 0) (.tup (.cons (.bin .add (.var 3) (.int 1)) .nil))) (.cons (.ix (.var 1) (.bin .add (.var 3) (.int 1))) (.cons (.var 4) .nil)))) [3, 4] (.enum (.var 2)) (.cons (.cmp .ne (.var 4) (.gc 4)) .nil) [3, 4]))
  .nil)))
def D_inner_parts : DefD := { nm := "inner_parts", ps := ["path", "part"], pv := none, N := ["path", "part", "wants", "k", "want"], fr := false, st := topS 19, body := b_inner_parts }
def b_wrong_path : Ss :=
  (.cons (.asgO 3 (.lst (.cons (.tup (.cons (.tup .nil) (.cons (.var 0) (.cons (.var 1) .nil)))) .nil)))
  (.cons (.while_ (.cmp .gt (.len (.bor 3)) (.int 0))
    (.cons (.popA [4, 5, 6] 3)
    (.cons (.if_ (.not (.call 9 (.cons (.var 5) (.cons (.var 6) (.cons (.var 2) .nil)))))
    (.cons (.ret (.var 4))
    .nil)
    .nil)
    (.cons (.ext 3 (.rev (.call 10 (.cons (.var 4) (.cons (.var 5) .nil)))))
    .nil))))
  (.cons (.ret .non)
  .nil)))
def D_wrong_path : DefD := { nm := "wrong_path", ps := ["thing", "kind", "names"], pv := none, N := ["thing", "kind", "names", "pile", "path", "part", "want"], fr := false, st := topS 20, body := b_wrong_path }
def b_is_count : Ss :=
  (.cons (.ret (.cmp .isN (.call 11 (.cons (.var 0) (.cons (.gc 2) (.cons .non .nil)))) .non))
  .nil)
def D_is_count : DefD := { nm := "is_count", ps := ["thing"], pv := none, N := ["thing"], fr := false, st := topS 21, body := b_is_count }
def b_is_condition : Ss :=
  (.cons (.ret (.cmp .isN (.call 11 (.cons (.var 0) (.cons (.gc 3) (.cons .non .nil)))) .non))
  .nil)
def D_is_condition : DefD := { nm := "is_condition", ps := ["thing"], pv := none, N := ["thing"], fr := false, st := topS 22, body := b_is_condition }
def b__law_reader : Ss :=
  (.cons (.ret (.lst (.cons (.sl (.var 0) .nil (.cons (.int 63) .nil)) (.cons (.int 0) (.cons (.int 0) (.cons (.int 0) .nil))))))
  .nil)
def D__law_reader : DefD := { nm := "_law_reader", ps := ["_law_script"], pv := none, N := ["_law_script"], fr := true, st := topS 24, body := b__law_reader }
def b__law_draw : Ss :=
  (.cons (.setI (.var 0) (.int 3) (.bin .add (.ix (.var 0) (.int 3)) (.int 1)))
  (.cons (.if_ (.cmp .gt (.ix (.var 0) (.int 2)) (.int 0))
    (.cons (.asg [4] (.bin .mod (.toInt (.ix (.var 0) (.int 2))) (.var 1)))
    (.cons (.setI (.var 0) (.int 2) (.bin .fdiv (.ix (.var 0) (.int 2)) (.var 1)))
    (.cons (.ret (.var 4))
    .nil)))
    .nil)
  (.cons (.asg [2] (.int 47))
  (.cons (.if_ (.cmp .ne (.ix (.var 0) (.int 0)) (.lst .nil))
    (.cons (.asg [2] (.ix (.ix (.var 0) (.int 0)) (.bin .mod (.toInt (.ix (.var 0) (.int 1))) (.len (.ix (.var 0) (.int 0))))))
    .nil)
    .nil)
  (.cons (.setI (.var 0) (.int 1) (.bin .add (.ix (.var 0) (.int 1)) (.int 1)))
  (.cons (.if_ (.and (.cmp .ge (.var 2) (.bin .pow (.int 10) (.int 18))) (.cmp .le (.ix (.var 0) (.int 1)) (.len (.ix (.var 0) (.int 0)))))
    (.cons (.setI (.var 0) (.int 2) (.bin .fdiv (.var 2) (.var 1)))
    (.cons (.ret (.bin .mod (.toInt (.var 2)) (.var 1)))
    .nil))
    .nil)
  (.cons (.asg [3] (.bin .mod (.toInt (.bin .pow (.bin .add (.bin .add (.bin .mod (.toInt (.var 2)) (.int 2147483543)) (.bin .mul (.int 7607) (.ix (.var 0) (.int 3)))) (.int 11)) (.int 5))) (.int 2147483629)))
  (.cons (.ret (.bin .mod (.toInt (.bin .fdiv (.bin .mod (.toInt (.bin .pow (.bin .add (.var 3) (.bin .mul (.int 95003) (.ix (.var 0) (.int 3)))) (.int 5))) (.int 2147483647)) (.int 64))) (.var 1)))
  .nil))))))))
def D__law_draw : DefD := { nm := "_law_draw", ps := ["_law_reader_here", "_law_many"], pv := none, N := ["_law_reader_here", "_law_many", "_law_cell", "_law_once", "_law_found"], fr := false, st := topS 25, body := b__law_draw }
def b__law_changed : Ss :=
  (.cons (.if_ (.and (.isa2 (.var 1) .tuple .list) (.and (.cmp .gt (.len (.var 1)) (.int 0)) (.cmp .gt (.call 15 (.cons (.var 0) (.cons (.int 4) .nil))) (.int 0))))
    (.cons (.par [5, 3] (.cons (.call 15 (.cons (.var 0) (.cons (.len (.var 1)) .nil))) (.cons (.call 15 (.cons (.var 0) (.cons (.int 7) .nil))) .nil)))
    (.cons (.asgO 4 (.listOf (.var 1)))
    (.cons (.if_ (.cmp .lt (.var 3) (.int 4))
    (.cons (.setO 4 (.var 5) (.call 16 (.cons (.var 0) (.cons (.ix (.bor 4) (.var 5)) (.cons (.var 2) .nil)))))
    .nil)
    (.cons (.if_ (.cmp .eq (.var 3) (.int 4))
    (.cons (.popK 4 (.var 5))
    .nil)
    (.cons (.if_ (.cmp .eq (.var 3) (.int 5))
    (.cons (.insO 4 (.var 5) (.ix (.bor 4) (.call 15 (.cons (.var 0) (.cons (.len (.bor 4)) .nil)))))
    .nil)
    (.cons (.insO 4 (.var 5) (.ix (.var 2) (.call 15 (.cons (.var 0) (.cons (.len (.var 2)) .nil)))))
    .nil))
    .nil))
    .nil))
    (.cons (.frz 4)
    (.cons (.ret (.ite (.isa (.var 1) .list) (.var 4) (.tupleOf (.bor 4))))
    .nil)))))
    .nil)
  (.cons (.asg [3] (.call 15 (.cons (.var 0) (.cons (.int 4) .nil))))
  (.cons (.if_ (.and (.cmp .eq (.var 3) (.int 0)) (.isa2 (.var 1) .tuple .list))
    (.cons (.ret (.ite (.isa (.var 1) .tuple) (.listOf (.var 1)) (.tupleOf (.var 1))))
    .nil)
    .nil)
  (.cons (.if_ (.and (.cmp .eq (.var 3) (.int 1)) (.isa (.var 1) .int))
    (.cons (.ret (.bin .add (.var 1) (.ix (.lst (.cons (.int 1) (.cons (.neg (.int 1)) .nil))) (.call 15 (.cons (.var 0) (.cons (.int 2) .nil))))))
    .nil)
    .nil)
  (.cons (.if_ (.and (.cmp .eq (.var 3) (.int 1)) (.isa (.var 1) .str))
    (.cons (.ret (.ite (.cmp .eq (.call 15 (.cons (.var 0) (.cons (.int 2) .nil))) (.int 0)) (.bin .add (.var 1) (.str "a")) (.sl (.var 1) (.cons (.int 1) .nil) .nil)))
    .nil)
    .nil)
  (.cons (.ret (.ix (.var 2) (.call 15 (.cons (.var 0) (.cons (.len (.var 2)) .nil)))))
  .nil))))))
def D__law_changed : DefD := { nm := "_law_changed", ps := ["_law_reader_here", "_law_thing", "_law_menu"], pv := none, N := ["_law_reader_here", "_law_thing", "_law_menu", "_law_way", "_law_parts", "_law_at"], fr := false, st := topS 26, body := b__law_changed }
def b__law_is_integer : Ss :=
  (.cons (.ret (.and (.isa (.var 0) .int) (.not (.isa (.var 0) .bool))))
  .nil)
def D__law_is_integer : DefD := { nm := "_law_is_integer", ps := ["_law_thing"], pv := none, N := ["_law_thing"], fr := false, st := topS 27, body := b__law_is_integer }
def b__law_is_name : Ss :=
  (.cons (.ret (.and (.isa (.var 0) .str) (.and (.chain .lt .lt (.int 0) (.len (.var 0)) (.int 9)) (.cmp .eq (.comp (.var 1) [1] (.var 0) (.cons (.not (.chain .le .le (.str "a") (.var 1) (.str "z"))) .nil) [1]) (.lst .nil)))))
  .nil)
def D__law_is_name : DefD := { nm := "_law_is_name", ps := ["_law_thing"], pv := none, N := ["_law_thing", "_law_sign"], fr := false, st := topS 28, body := b__law_is_name }
def b__law_plan : Ss :=
  (.cons (.if_ (.cmp .eq (.var 0) (.str "c"))
    (.cons (.ret (.dgetD (.dct (.cons (.str "=") (.cons (.str "nn") (.cons (.str "<") (.cons (.str "nn") (.cons (.str "and") (.cons (.str "cc") (.cons (.str "or") (.cons (.str "cc") (.cons (.str "not") (.cons (.str "c") .nil))))))))))) (.var 1)))
    .nil)
    .nil)
  (.cons (.ret (.dgetD (.dct (.cons (.str "item") (.cons (.str "s") (.cons (.str "+") (.cons (.str "nn") (.cons (.str "-") (.cons (.str "nn") (.cons (.str "*") (.cons (.str "nn") .nil))))))))) (.var 1)))
  .nil))
def D__law_plan : DefD := { nm := "_law_plan", ps := ["_law_goal", "_law_word"], pv := none, N := ["_law_goal", "_law_word"], fr := false, st := topS 29, body := b__law_plan }
def b__law_part_ok : Ss :=
  (.cons (.if_ (.not (.isa (.var 2) .tuple))
    (.cons (.ret (.and (.cmp .eq (.var 1) (.str "n")) (.call 17 (.cons (.var 2) .nil))))
    .nil)
    .nil)
  (.cons (.if_ (.or (.cmp .eq (.var 2) (.tup .nil)) (.not (.isa (.ix (.var 2) (.int 0)) .str)))
    (.cons (.ret (.bl false))
    .nil)
    .nil)
  (.cons (.asg [3] (.call 19 (.cons (.var 1) (.cons (.ix (.var 2) (.int 0)) .nil))))
  (.cons (.if_ (.or (.cmp .isN (.var 3) .non) (.cmp .ne (.len (.var 2)) (.bin .add (.len (.var 3)) (.int 1))))
    (.cons (.ret (.bl false))
    .nil)
    .nil)
  (.cons (.if_ (.cmp .ne (.var 3) (.str "s"))
    (.cons (.ret (.bl true))
    .nil)
    .nil)
  (.cons (.ret (.and (.call 18 (.cons (.ix (.var 2) (.int 1)) .nil)) (.or (.cmp .isN (.var 0) .non) (.cmp .in_ (.ix (.var 2) (.int 1)) (.var 0)))))
  .nil))))))
def D__law_part_ok : DefD := { nm := "_law_part_ok", ps := ["_law_slots", "_law_goal", "_law_item"], pv := none, N := ["_law_slots", "_law_goal", "_law_item", "_law_plan_here"], fr := false, st := topS 30, body := b__law_part_ok }
def b__law_wrong : Ss :=
  (.cons (.if_ (.not (.call 20 (.cons (.var 0) (.cons (.var 1) (.cons (.var 2) .nil)))))
    (.cons (.ret (.var 3))
    .nil)
    .nil)
  (.cons (.if_ (.or (.not (.isa (.var 2) .tuple)) (.cmp .eq (.ix (.var 2) (.int 0)) (.str "item")))
    (.cons (.ret .non)
    .nil)
    .nil)
  (.cons (.asg [4] (.call 19 (.cons (.var 1) (.cons (.ix (.var 2) (.int 0)) .nil))))
  (.cons (.for_ [5] (.rng1 (.len (.var 4)))
    (.cons (.asg [6] (.call 21 (.cons (.var 0) (.cons (.ix (.var 4) (.var 5)) (.cons (.ix (.var 2) (.bin .add (.var 5) (.int 1))) (.cons (.bin .add (.var 3) (.tup (.cons (.bin .add (.var 5) (.int 1)) .nil))) .nil))))))
    (.cons (.if_ (.cmp .notN (.var 6) .non)
    (.cons (.ret (.var 6))
    .nil)
    .nil)
    .nil)))
  (.cons (.ret .non)
  .nil)))))
def D__law_wrong : DefD := { nm := "_law_wrong", ps := ["_law_slots", "_law_goal", "_law_item", "_law_path_now"], pv := none, N := ["_law_slots", "_law_goal", "_law_item", "_law_path_now", "_law_plan_here", "_law_k", "_law_found"], fr := false, st := topS 31, body := b__law_wrong }
def b__law_leaf : Ss :=
  (.cons (.if_ (.cmp .eq (.call 15 (.cons (.var 0) (.cons (.int 3) .nil))) (.int 0))
    (.cons (.ret (.ix (.lst (.cons (.int 0) (.cons (.int 1) (.cons (.int 2) (.cons (.neg (.int 1)) (.cons (.int 3) (.cons (.neg (.int 7)) (.cons (.int 12) (.cons (.int 1) .nil))))))))) (.call 15 (.cons (.var 0) (.cons (.int 8) .nil)))))
    .nil)
    .nil)
  (.cons (.ret (.tup (.cons (.str "item") (.cons (.ix (.var 1) (.call 15 (.cons (.var 0) (.cons (.len (.var 1)) .nil)))) .nil))))
  .nil))
def D__law_leaf : DefD := { nm := "_law_leaf", ps := ["_law_reader_here", "_law_slots"], pv := none, N := ["_law_reader_here", "_law_slots"], fr := false, st := topS 32, body := b__law_leaf }
def b__law_number : Ss :=
  (.cons (.asg [3] (.call 15 (.cons (.var 0) (.cons (.int 4) .nil))))
  (.cons (.if_ (.or (.cmp .lt (.var 2) (.int 1)) (.cmp .eq (.var 3) (.int 0)))
    (.cons (.ret (.call 22 (.cons (.var 0) (.cons (.var 1) .nil))))
    .nil)
    .nil)
  (.cons (.asg [4] (.call 23 (.cons (.var 0) (.cons (.var 1) (.cons (.bin .sub (.var 2) (.int 1)) .nil)))))
  (.cons (.ret (.tup (.cons (.ix (.lst (.cons (.str "+") (.cons (.str "-") (.cons (.str "*") .nil)))) (.bin .sub (.var 3) (.int 1))) (.cons (.var 4) (.cons (.call 23 (.cons (.var 0) (.cons (.var 1) (.cons (.bin .sub (.var 2) (.int 1)) .nil)))) .nil)))))
  .nil))))
def D__law_number : DefD := { nm := "_law_number", ps := ["_law_reader_here", "_law_slots", "_law_deep"], pv := none, N := ["_law_reader_here", "_law_slots", "_law_deep", "_law_way", "_law_one"], fr := false, st := topS 33, body := b__law_number }
def b__law_condition : Ss :=
  (.cons (.asg [3] (.call 15 (.cons (.var 0) (.cons (.int 6) .nil))))
  (.cons (.if_ (.or (.cmp .lt (.var 2) (.int 1)) (.cmp .lt (.var 3) (.int 2)))
    (.cons (.ret (.tup (.cons (.ix (.lst (.cons (.str "=") (.cons (.str "<") .nil))) (.bin .fdiv (.var 3) (.int 3))) (.cons (.call 22 (.cons (.var 0) (.cons (.var 1) .nil))) (.cons (.call 23 (.cons (.var 0) (.cons (.var 1) (.cons (.bin .sub (.var 2) (.int 1)) .nil)))) .nil)))))
    .nil)
    .nil)
  (.cons (.asg [4] (.call 24 (.cons (.var 0) (.cons (.var 1) (.cons (.bin .sub (.var 2) (.int 1)) .nil)))))
  (.cons (.if_ (.cmp .lt (.var 3) (.int 4))
    (.cons (.ret (.tup (.cons (.str "not") (.cons (.var 4) .nil))))
    .nil)
    .nil)
  (.cons (.ret (.tup (.cons (.ix (.lst (.cons (.str "and") (.cons (.str "or") .nil))) (.bin .sub (.var 3) (.int 4))) (.cons (.var 4) (.cons (.call 24 (.cons (.var 0) (.cons (.var 1) (.cons (.int 0) .nil)))) .nil)))))
  .nil)))))
def D__law_condition : DefD := { nm := "_law_condition", ps := ["_law_reader_here", "_law_slots", "_law_deep"], pv := none, N := ["_law_reader_here", "_law_slots", "_law_deep", "_law_way", "_law_one"], fr := false, st := topS 34, body := b__law_condition }
def b__law_random_sum : Ss :=
  (.cons (.ret (.tupleOf (.comp (.ix (.lst (.cons (.int 0) (.cons (.int 1) (.cons (.neg (.int 1)) (.cons (.int 2) (.cons (.neg (.int 2)) (.cons (.int 12) (.cons (.neg (.int 12)) .nil)))))))) (.call 15 (.cons (.var 0) (.cons (.int 7) .nil)))) [2] (.rng1 (.var 1)) .nil [2])))
  .nil)
def D__law_random_sum : DefD := { nm := "_law_random_sum", ps := ["_law_reader_here", "_law_many"], pv := none, N := ["_law_reader_here", "_law_many", "_law_k"], fr := false, st := topS 35, body := b__law_random_sum }
def b__law_is_sum : Ss :=
  (.cons (.if_ (.or (.not (.isa (.var 0) .tuple)) (.cmp .ne (.len (.var 0)) (.var 1)))
    (.cons (.ret (.bl false))
    .nil)
    .nil)
  (.cons (.ret (.cmp .eq (.comp (.var 2) [2] (.var 0) (.cons (.not (.call 17 (.cons (.var 2) .nil))) .nil) [2]) (.lst .nil)))
  .nil))
def D__law_is_sum : DefD := { nm := "_law_is_sum", ps := ["_law_thing", "_law_many"], pv := none, N := ["_law_thing", "_law_many", "_law_one"], fr := false, st := topS 36, body := b__law_is_sum }
def b__law_are_sums : Ss :=
  (.cons (.if_ (.or (.not (.isa (.var 0) .tuple)) (.cmp .ne (.comp (.var 3) [3] (.var 0) (.cons (.not (.call 26 (.cons (.var 3) (.cons (.var 1) .nil)))) .nil) [3]) (.lst .nil)))
    (.cons (.ret (.bl false))
    .nil)
    .nil)
  (.cons (.ret (.cmp .eq (.comp (.var 2) [2] (.rng2 (.int 1) (.len (.var 0))) (.cons (.cmp .le (.ix (.var 0) (.var 2)) (.ix (.var 0) (.bin .sub (.var 2) (.int 1)))) .nil) [2]) (.lst .nil)))
  .nil))
def D__law_are_sums : DefD := { nm := "_law_are_sums", ps := ["_law_thing", "_law_many"], pv := none, N := ["_law_thing", "_law_many", "_law_k", "_law_one"], fr := false, st := topS 37, body := b__law_are_sums }
def b__law_plain_values : Ss :=
  (.cons (.asg [0] (.bin .pow (.int 10) (.int 59)))
  (.cons (.asg [1] (.lst (.cons .non (.cons (.bl true) (.cons (.bl false) (.cons (.int 0) (.cons (.int 1) (.cons (.neg (.int 1)) (.cons (.var 0) (.cons (.neg (.var 0)) (.cons (.str "") (.cons (.str "a") (.cons (.str "z") .nil)))))))))))))
  (.cons (.asg [1] (.bin .add (.var 1) (.lst (.cons (.str "abcdefgh") (.cons (.str "abcdefghi") (.cons (.str "Ann") (.cons (.str "a b") (.cons (.str "a1") (.cons (.str "{") (.cons (.str "-") (.cons (.str "a_") .nil)))))))))))
  (.cons (.asg [1] (.bin .add (.var 1) (.lst (.cons (.str "`") (.cons (.bin .mul (.str "a") (.int 3000)) (.cons (.tup .nil) (.cons (.lst .nil) (.cons (.tup (.cons (.int 0) .nil)) (.cons (.lst (.cons (.int 0) .nil)) (.cons (.tup (.cons (.int 0) (.cons (.int 1) .nil))) (.cons (.tup (.cons (.int 1) (.cons (.neg (.int 1)) (.cons (.int 2) .nil)))) (.cons (.tup (.cons (.bl true) .nil)) .nil))))))))))))
  (.cons (.asg [1] (.bin .add (.var 1) (.lst (.cons (.tup (.cons (.int 0) (.cons .non .nil))) (.cons (.tup (.cons (.str "0") .nil)) (.cons (.tup (.cons (.var 0) (.cons (.neg (.var 0)) .nil))) (.cons (.tup (.cons (.tup (.cons (.int 0) .nil)) .nil)) (.cons (.tup (.cons (.tup (.cons (.int 0) .nil)) (.cons (.tup (.cons (.int 1) .nil)) .nil))) .nil))))))))
  (.cons (.asg [1] (.bin .add (.var 1) (.lst (.cons (.tup (.cons (.tup (.cons (.int 1) .nil)) (.cons (.tup (.cons (.int 0) .nil)) .nil))) (.cons (.tup (.cons (.tup (.cons (.int 0) .nil)) (.cons (.tup (.cons (.int 0) .nil)) .nil))) (.cons (.tup (.cons (.tup (.cons (.int 0) .nil)) (.cons (.lst (.cons (.int 1) .nil)) .nil))) (.cons (.lst (.cons (.tup (.cons (.int 0) .nil)) (.cons (.tup (.cons (.int 1) .nil)) .nil))) .nil)))))))
  (.cons (.asg [1] (.bin .add (.var 1) (.lst (.cons (.tup (.cons (.tup (.cons (.int 0) (.cons (.int 1) .nil))) (.cons (.tup (.cons (.int 0) (.cons (.int 2) .nil))) .nil))) (.cons (.tup (.cons (.tup (.cons (.int 0) (.cons (.int 2) .nil))) (.cons (.tup (.cons (.int 0) (.cons (.int 1) .nil))) .nil))) (.cons (.tup (.cons (.tup (.cons (.neg (.int 1)) (.cons (.int 5) .nil))) (.cons (.tup (.cons (.int 0) (.cons (.neg (.int 5)) .nil))) (.cons (.tup (.cons (.int 0) (.cons (.int 0) .nil))) .nil)))) (.cons (.tup (.cons (.tup .nil) .nil)) .nil)))))))
  (.cons (.asg [1] (.bin .add (.var 1) (.lst (.cons (.tup (.cons (.tup (.cons (.int 0) .nil)) (.cons (.tup (.cons (.int 1) (.cons (.int 2) .nil))) .nil))) (.cons (.tup (.cons (.tup (.cons (.int 0) (.cons (.int 0) .nil))) (.cons (.tup (.cons (.int 1) .nil)) .nil))) (.cons (.tup (.cons (.tup (.cons (.int 0) (.cons (.int 0) .nil))) (.cons (.tup (.cons (.int 1) (.cons (.bl true) .nil))) .nil))) (.cons (.tup (.cons (.tup (.cons (.bl false) .nil)) .nil)) (.cons (.tup (.cons (.tup (.cons (.int 0) .nil)) (.cons (.tup (.cons .non .nil)) .nil))) (.cons (.tup (.cons (.tup .nil) (.cons (.tup .nil) .nil))) .nil)))))))))
  (.cons (.asg [2] (.tupleOf (.comp (.tup (.cons (.var 3) (.cons (.neg (.var 3)) .nil))) [3] (.rng1 (.int 300)) .nil [3])))
  (.cons (.ret (.bin .add (.var 1) (.lst (.cons (.var 2) (.cons (.revT (.var 2)) (.cons (.bin .add (.var 2) (.sl (.var 2) (.cons (.neg (.int 1)) .nil) .nil)) (.cons (.bin .add (.var 2) (.tup (.cons (.tup (.cons (.int 300) (.cons .non .nil))) .nil))) .nil)))))))
  .nil))))))))))
def D__law_plain_values : DefD := { nm := "_law_plain_values", ps := [], pv := none, N := ["_law_far", "_law_found", "_law_wide", "_law_k"], fr := false, st := topS 38, body := b__law_plain_values }
def b__law_expressions : Ss :=
  (.cons (.asg [3, 4] (.tup (.cons (.tup (.cons (.str "item") (.cons (.str "coins") .nil))) (.cons (.tup (.cons (.str "=") (.cons (.int 0) (.cons (.int 0) .nil)))) .nil))))
  (.cons (.asg [0] (.lst (.cons (.var 3) (.cons (.var 4) (.cons (.tup (.cons (.str "item") .nil)) (.cons (.tup (.cons (.str "item") (.cons (.str "coins") (.cons (.str "x") .nil)))) (.cons (.tup (.cons (.str "item") (.cons (.str "Coins") .nil))) .nil)))))))
  (.cons (.asg [0] (.bin .add (.var 0) (.lst (.cons (.tup (.cons (.str "item") (.cons (.int 1) .nil))) (.cons (.tup (.cons (.str "item") (.cons .non .nil))) (.cons (.tup (.cons (.str "Item") (.cons (.str "coins") .nil))) (.cons (.lst (.cons (.str "item") (.cons (.str "coins") .nil))) .nil)))))))
  (.cons (.asg [0] (.bin .add (.var 0) (.lst (.cons (.tup (.cons (.str "item") (.cons (.tup (.cons (.str "coins") .nil)) .nil))) (.cons (.tup (.cons (.str "item") (.cons (.str "abcdefghi") .nil))) (.cons (.tup (.cons (.str "item") (.cons (.str "") .nil))) .nil))))))
  (.cons (.for_ [1] (.tup (.cons (.str "+") (.cons (.str "-") (.cons (.str "*") (.cons (.str "=") (.cons (.str "<") (.cons (.str "and") (.cons (.str "or") (.cons (.str "/") (.cons (.str "least") (.cons (.str "if") (.cons (.str ">") (.cons (.str "<=") .nil)))))))))))))
    (.cons (.asg [0] (.bin .add (.var 0) (.lst (.cons (.tup (.cons (.var 1) (.cons (.var 3) (.cons (.int 1) .nil)))) (.cons (.tup (.cons (.var 1) (.cons (.var 3) .nil))) (.cons (.tup (.cons (.var 1) (.cons (.var 3) (.cons (.int 1) (.cons (.int 2) .nil))))) (.cons (.tup (.cons (.var 1) (.cons (.var 4) (.cons (.var 4) .nil)))) .nil)))))))
    (.cons (.asg [0] (.bin .add (.var 0) (.lst (.cons (.tup (.cons (.var 1) (.cons (.var 3) (.cons (.var 4) .nil)))) (.cons (.tup (.cons (.var 1) (.cons (.var 4) (.cons (.int 1) .nil)))) (.cons (.tup (.cons (.var 1) (.cons (.bl true) (.cons (.int 1) .nil)))) (.cons (.tup (.cons (.var 1) .nil)) .nil)))))))
    .nil)))
  (.cons (.asg [0] (.bin .add (.var 0) (.lst (.cons (.tup (.cons (.str "not") (.cons (.var 4) .nil))) (.cons (.tup (.cons (.str "not") (.cons (.var 3) .nil))) (.cons (.tup (.cons (.str "not") .nil)) (.cons (.tup (.cons (.str "not") (.cons (.var 4) (.cons (.var 4) .nil)))) .nil)))))))
  (.cons (.asg [0] (.bin .add (.var 0) (.lst (.cons (.tup (.cons (.str "not") (.cons (.tup (.cons (.str "not") (.cons (.var 4) .nil))) .nil))) (.cons (.tup (.cons (.str "+") (.cons (.tup (.cons (.str "*") (.cons (.var 3) (.cons (.var 3) .nil)))) (.cons (.tup (.cons (.str "-") (.cons (.int 0) (.cons (.var 3) .nil)))) .nil)))) .nil)))))
  (.cons (.par [5, 6] (.cons (.var 4) (.cons (.var 3) .nil)))
  (.cons (.for_ [2] (.rng1 (.int 10))
    (.cons (.par [5, 6] (.cons (.tup (.cons (.str "not") (.cons (.var 5) .nil))) (.cons (.tup (.cons (.str "+") (.cons (.var 6) (.cons (.int 1) .nil)))) .nil)))
    .nil))
  (.cons (.asg [0] (.bin .add (.var 0) (.lst (.cons (.var 5) (.cons (.var 6) (.cons (.tup (.cons (.str "=") (.cons (.var 6) (.cons (.var 6) .nil)))) (.cons (.tup (.cons (.str "and") (.cons (.var 5) (.cons (.tup (.cons (.str "not") (.cons (.var 6) .nil))) .nil)))) (.cons (.tup (.cons (.str "+") (.cons (.var 6) (.cons (.tup (.cons (.str "+") (.cons (.int 1) (.cons .non .nil)))) .nil)))) .nil))))))))
  (.cons (.ret (.var 0))
  .nil)))))))))))
def D__law_expressions : DefD := { nm := "_law_expressions", ps := [], pv := none, N := ["_law_found", "_law_sign", "_law_k", "_law_a", "_law_c", "_law_deep", "_law_far"], fr := false, st := topS 39, body := b__law_expressions }
def b_law : Ss :=
  (.cons (.asgC 1 (.call 14 (.cons (.var 0) .nil)))
  (.cons (.asg [2] (.lst (.cons .non (.cons (.bl true) (.cons (.int 0) (.cons (.neg (.int 1)) (.cons (.str "") (.cons (.str "a") (.cons (.str "item") (.cons (.str "=") (.cons (.tup .nil) (.cons (.lst .nil) (.cons (.tup (.cons (.str "item") (.cons (.str "x") .nil))) (.cons (.tup (.cons (.str "=") (.cons (.int 0) (.cons (.int 0) .nil)))) (.cons (.tup (.cons (.int 0) .nil)) (.cons (.tup (.cons (.int 1) (.cons (.int 2) .nil))) .nil))))))))))))))))
  (.cons (.asg [3] (.bin .add (.call 28 .nil) (.call 29 .nil)))
  (.cons (.for_ [4] (.rng1 (.int 14))
    (.cons (.asg [5] (.call 23 (.cons (.var 1) (.cons (.tup (.cons (.str "coins") (.cons (.str "x") .nil))) (.cons (.int 2) .nil)))))
    (.cons (.if_ (.cmp .eq (.bin .mod (.toInt (.var 4)) (.int 2)) (.int 1))
    (.cons (.asg [5] (.call 24 (.cons (.var 1) (.cons (.tup (.cons (.str "coins") (.cons (.str "x") .nil))) (.cons (.int 2) .nil)))))
    .nil)
    .nil)
    (.cons (.asg [6] (.tupleOf (.sset (.comp (.call 25 (.cons (.var 1) (.cons (.int 2) .nil))) [13] (.rng1 (.call 15 (.cons (.var 1) (.cons (.int 6) .nil)))) .nil [13]))))
    (.cons (.for_ [7] (.tup (.cons (.var 5) (.cons (.var 6) .nil)))
    (.cons (.asg [10] (.call 16 (.cons (.var 1) (.cons (.var 7) (.cons (.var 2) .nil)))))
    (.cons (.asg [3] (.bin .add (.var 3) (.lst (.cons (.var 7) (.cons (.var 10) (.cons (.call 16 (.cons (.var 1) (.cons (.var 10) (.cons (.var 2) .nil)))) .nil))))))
    .nil)))
    .nil)))))
  (.cons (.for_ [5] (.var 3)
    (.cons (.par [11, 12] (.cons (.repr (.var 5)) (.cons (.call 15 (.cons (.var 1) (.cons (.int 4) .nil))) .nil)))
    (.cons (.asgO 8 (.lst (.cons (.call 17 (.cons (.var 5) .nil)) (.cons (.and (.call 17 (.cons (.var 5) .nil)) (.cmp .ge (.var 5) (.int 0))) .nil))))
    (.cons (.asgO 8 (.cat (.bor 8) (.lst (.cons (.call 18 (.cons (.var 5) .nil)) (.cons (.call 26 (.cons (.var 5) (.cons (.var 12) .nil))) .nil)))))
    (.cons (.asgO 8 (.cat (.bor 8) (.lst (.cons (.call 27 (.cons (.var 5) (.cons (.var 12) .nil))) (.cons (.call 26 (.cons (.var 5) (.cons (.int 2) .nil))) (.cons (.call 27 (.cons (.var 5) (.cons (.int 2) .nil))) .nil))))))
    (.cons (.app 8 (.cmp .isN (.call 21 (.cons .non (.cons (.str "n") (.cons (.var 5) (.cons (.tup .nil) .nil))))) .non))
    (.cons (.app 8 (.cmp .isN (.call 21 (.cons .non (.cons (.str "c") (.cons (.var 5) (.cons (.tup .nil) .nil))))) .non))
    (.cons (.asg [9] (.lst (.cons (.call 0 (.cons (.var 5) .nil)) (.cons (.call 1 (.cons (.var 5) .nil)) (.cons (.call 2 (.cons (.var 5) .nil)) .nil)))))
    (.cons (.asg [9] (.bin .add (.var 9) (.lst (.cons (.call 5 (.cons (.var 5) (.cons (.var 12) .nil))) (.cons (.call 6 (.cons (.var 5) (.cons (.var 12) .nil))) (.cons (.call 5 (.cons (.var 5) (.cons (.int 2) .nil))) .nil))))))
    (.cons (.if_ (.or (.cmp .ne (.repr (.bin .add (.var 9) (.lst (.cons (.call 6 (.cons (.var 5) (.cons (.int 2) .nil))) (.cons (.call 12 (.cons (.var 5) .nil)) (.cons (.call 13 (.cons (.var 5) .nil)) .nil)))))) (.repr (.bor 8))) (.cmp .ne (.repr (.var 5)) (.var 11)))
    (.cons (.ret (.bl false))
    .nil)
    .nil)
    .nil))))))))))
  (.cons (.ret (.bl true))
  .nil))))))
def D_law : DefD := { nm := "law", ps := ["_law_script"], pv := none, N := ["_law_script", "_law_reader_here", "_law_menu", "_law_some", "_law_turn", "_law_item", "_law_lot", "_law_own", "_law_want", "_law_got", "_law_once", "_law_saved", "_law_many", "_law_k"], fr := false, st := topS 40, body := b_law }
def ds : List DefD := [D_is_integer, D_is_number, D_is_name, D_is_ascending, D_are_integers, D_is_sum, D_is_sums, D_wants_of, D_is_word_of, D_is_fit, D_inner_parts, D_wrong_path, D_is_count, D_is_condition, D__law_reader, D__law_draw, D__law_changed, D__law_is_integer, D__law_is_name, D__law_plan, D__law_part_ok, D__law_wrong, D__law_leaf, D__law_number, D__law_condition, D__law_random_sum, D__law_is_sum, D__law_are_sums, D__law_plain_values, D__law_expressions, D_law]
def gs : List GD := [{ nm := "ALPHABET", v := some (.str "abcdefghijklmnopqrstuvwxyz") },
  { nm := "LONGEST_NAME", v := some (.int 8) },
  { nm := "NUMBER", v := some (.str "number") },
  { nm := "CONDITION", v := some (.str "condition") },
  { nm := "NAME", v := some (.str "name") },
  { nm := "NUMBER_FORMS", tb := [("item", .tup [.str "name"]), ("+", .tup [.str "number", .str "number"]), ("-", .tup [.str "number", .str "number"]), ("*", .tup [.str "number", .str "number"])] },
  { nm := "CONDITION_FORMS", tb := [("=", .tup [.str "number", .str "number"]), ("<", .tup [.str "number", .str "number"]), ("and", .tup [.str "condition", .str "condition"]), ("or", .tup [.str "condition", .str "condition"]), ("not", .tup [.str "condition"])] }]
theorem bo_is_integer : BindOk D_is_integer := fun _ _ _ _ _ _ us hl => match us, hl with
  | [_], _ => rfl
theorem bo_is_number : BindOk D_is_number := fun _ _ _ _ _ _ us hl => match us, hl with
  | [_], _ => rfl
theorem bo_is_name : BindOk D_is_name := fun _ _ _ _ _ _ us hl => match us, hl with
  | [_], _ => rfl
theorem bo_is_ascending : BindOk D_is_ascending := fun _ _ _ _ _ _ us hl => match us, hl with
  | [_], _ => rfl
theorem bo_are_integers : BindOk D_are_integers := fun _ _ _ _ _ _ us hl => match us, hl with
  | [_], _ => rfl
theorem bo_is_sum : BindOk D_is_sum := fun _ _ _ _ _ _ us hl => match us, hl with
  | [_, _], _ => rfl
theorem bo_is_sums : BindOk D_is_sums := fun _ _ _ _ _ _ us hl => match us, hl with
  | [_, _], _ => rfl
theorem bo_wants_of : BindOk D_wants_of := fun _ _ _ _ _ _ us hl => match us, hl with
  | [_], _ => rfl
theorem bo_is_word_of : BindOk D_is_word_of := fun _ _ _ _ _ _ us hl => match us, hl with
  | [_, _], _ => rfl
theorem bo_is_fit : BindOk D_is_fit := fun _ _ _ _ _ _ us hl => match us, hl with
  | [_, _, _], _ => rfl
theorem bo_inner_parts : BindOk D_inner_parts := fun _ _ _ _ _ _ us hl => match us, hl with
  | [_, _], _ => rfl
theorem bo_wrong_path : BindOk D_wrong_path := fun _ _ _ _ _ _ us hl => match us, hl with
  | [_, _, _], _ => rfl
theorem bo_is_count : BindOk D_is_count := fun _ _ _ _ _ _ us hl => match us, hl with
  | [_], _ => rfl
theorem bo_is_condition : BindOk D_is_condition := fun _ _ _ _ _ _ us hl => match us, hl with
  | [_], _ => rfl
theorem bo__law_reader : BindOk D__law_reader := fun _ _ _ _ _ _ us hl => match us, hl with
  | [_], _ => rfl
theorem bo__law_draw : BindOk D__law_draw := fun _ _ _ _ _ _ us hl => match us, hl with
  | [_, _], _ => rfl
theorem bo__law_changed : BindOk D__law_changed := fun _ _ _ _ _ _ us hl => match us, hl with
  | [_, _, _], _ => rfl
theorem bo__law_is_integer : BindOk D__law_is_integer := fun _ _ _ _ _ _ us hl => match us, hl with
  | [_], _ => rfl
theorem bo__law_is_name : BindOk D__law_is_name := fun _ _ _ _ _ _ us hl => match us, hl with
  | [_], _ => rfl
theorem bo__law_plan : BindOk D__law_plan := fun _ _ _ _ _ _ us hl => match us, hl with
  | [_, _], _ => rfl
theorem bo__law_part_ok : BindOk D__law_part_ok := fun _ _ _ _ _ _ us hl => match us, hl with
  | [_, _, _], _ => rfl
theorem bo__law_wrong : BindOk D__law_wrong := fun _ _ _ _ _ _ us hl => match us, hl with
  | [_, _, _, _], _ => rfl
theorem bo__law_leaf : BindOk D__law_leaf := fun _ _ _ _ _ _ us hl => match us, hl with
  | [_, _], _ => rfl
theorem bo__law_number : BindOk D__law_number := fun _ _ _ _ _ _ us hl => match us, hl with
  | [_, _, _], _ => rfl
theorem bo__law_condition : BindOk D__law_condition := fun _ _ _ _ _ _ us hl => match us, hl with
  | [_, _, _], _ => rfl
theorem bo__law_random_sum : BindOk D__law_random_sum := fun _ _ _ _ _ _ us hl => match us, hl with
  | [_, _], _ => rfl
theorem bo__law_is_sum : BindOk D__law_is_sum := fun _ _ _ _ _ _ us hl => match us, hl with
  | [_, _], _ => rfl
theorem bo__law_are_sums : BindOk D__law_are_sums := fun _ _ _ _ _ _ us hl => match us, hl with
  | [_, _], _ => rfl
theorem bo__law_plain_values : BindOk D__law_plain_values := fun _ _ _ _ _ _ us hl => match us, hl with
  | [], _ => rfl
theorem bo__law_expressions : BindOk D__law_expressions := fun _ _ _ _ _ _ us hl => match us, hl with
  | [], _ => rfl
theorem bo_law : BindOk D_law := fun _ _ _ _ _ _ us hl => match us, hl with
  | [_], _ => rfl
theorem ok_is_integer : okD ds gs D_is_integer = true := by decide +kernel
theorem ok_is_number : okD ds gs D_is_number = true := by decide +kernel
theorem ok_is_name : okD ds gs D_is_name = true := by decide +kernel
theorem ok_is_ascending : okD ds gs D_is_ascending = true := by decide +kernel
theorem ok_are_integers : okD ds gs D_are_integers = true := by decide +kernel
theorem ok_is_sum : okD ds gs D_is_sum = true := by decide +kernel
theorem ok_is_sums : okD ds gs D_is_sums = true := by decide +kernel
theorem ok_wants_of : okD ds gs D_wants_of = true := by decide +kernel
theorem ok_is_word_of : okD ds gs D_is_word_of = true := by decide +kernel
theorem ok_is_fit : okD ds gs D_is_fit = true := by decide +kernel
theorem ok_inner_parts : okD ds gs D_inner_parts = true := by decide +kernel
theorem ok_wrong_path : okD ds gs D_wrong_path = true := by decide +kernel
theorem ok_is_count : okD ds gs D_is_count = true := by decide +kernel
theorem ok_is_condition : okD ds gs D_is_condition = true := by decide +kernel
theorem ok__law_reader : okD ds gs D__law_reader = true := by decide +kernel
theorem ok__law_draw : okD ds gs D__law_draw = true := by decide +kernel
theorem ok__law_changed : okD ds gs D__law_changed = true := by decide +kernel
theorem ok__law_is_integer : okD ds gs D__law_is_integer = true := by decide +kernel
theorem ok__law_is_name : okD ds gs D__law_is_name = true := by decide +kernel
theorem ok__law_plan : okD ds gs D__law_plan = true := by decide +kernel
theorem ok__law_part_ok : okD ds gs D__law_part_ok = true := by decide +kernel
theorem ok__law_wrong : okD ds gs D__law_wrong = true := by decide +kernel
theorem ok__law_leaf : okD ds gs D__law_leaf = true := by decide +kernel
theorem ok__law_number : okD ds gs D__law_number = true := by decide +kernel
theorem ok__law_condition : okD ds gs D__law_condition = true := by decide +kernel
theorem ok__law_random_sum : okD ds gs D__law_random_sum = true := by decide +kernel
theorem ok__law_is_sum : okD ds gs D__law_is_sum = true := by decide +kernel
theorem ok__law_are_sums : okD ds gs D__law_are_sums = true := by decide +kernel
theorem ok__law_plain_values : okD ds gs D__law_plain_values = true := by decide +kernel
theorem ok__law_expressions : okD ds gs D__law_expressions = true := by decide +kernel
theorem ok_law : okD ds gs D_law = true := by decide +kernel
theorem told_all {K : PySem.W.Frag} {h : Heap} {mg : Str → Option Value} (X : K.In h) (G : h.Ns mainGlobals mg) {f0 : Addr} {od0 an0 : Option Addr} {sl0 : Array (Option Value)} {oc0 kV0 dc0 pm0 cd0 ct0 : Value} {f1 : Addr} {od1 an1 : Option Addr} {sl1 : Array (Option Value)} {oc1 kV1 dc1 pm1 cd1 ct1 : Value} {f2 : Addr} {od2 an2 : Option Addr} {sl2 : Array (Option Value)} {oc2 kV2 dc2 pm2 cd2 ct2 : Value} {f3 : Addr} {od3 an3 : Option Addr} {sl3 : Array (Option Value)} {oc3 kV3 dc3 pm3 cd3 ct3 : Value} {f4 : Addr} {od4 an4 : Option Addr} {sl4 : Array (Option Value)} {oc4 kV4 dc4 pm4 cd4 ct4 : Value} {f5 : Addr} {od5 an5 : Option Addr} {sl5 : Array (Option Value)} {oc5 kV5 dc5 pm5 cd5 ct5 : Value} {f6 : Addr} {od6 an6 : Option Addr} {sl6 : Array (Option Value)} {oc6 kV6 dc6 pm6 cd6 ct6 : Value} {f7 : Addr} {od7 an7 : Option Addr} {sl7 : Array (Option Value)} {oc7 kV7 dc7 pm7 cd7 ct7 : Value} {f8 : Addr} {od8 an8 : Option Addr} {sl8 : Array (Option Value)} {oc8 kV8 dc8 pm8 cd8 ct8 : Value} {f9 : Addr} {od9 an9 : Option Addr} {sl9 : Array (Option Value)} {oc9 kV9 dc9 pm9 cd9 ct9 : Value} {f10 : Addr} {od10 an10 : Option Addr} {sl10 : Array (Option Value)} {oc10 kV10 dc10 pm10 cd10 ct10 : Value} {f11 : Addr} {od11 an11 : Option Addr} {sl11 : Array (Option Value)} {oc11 kV11 dc11 pm11 cd11 ct11 : Value} {f12 : Addr} {od12 an12 : Option Addr} {sl12 : Array (Option Value)} {oc12 kV12 dc12 pm12 cd12 ct12 : Value} {f13 : Addr} {od13 an13 : Option Addr} {sl13 : Array (Option Value)} {oc13 kV13 dc13 pm13 cd13 ct13 : Value} {f14 : Addr} {od14 an14 : Option Addr} {sl14 : Array (Option Value)} {oc14 kV14 dc14 pm14 cd14 ct14 : Value} {f15 : Addr} {od15 an15 : Option Addr} {sl15 : Array (Option Value)} {oc15 kV15 dc15 pm15 cd15 ct15 : Value} {f16 : Addr} {od16 an16 : Option Addr} {sl16 : Array (Option Value)} {oc16 kV16 dc16 pm16 cd16 ct16 : Value} {f17 : Addr} {od17 an17 : Option Addr} {sl17 : Array (Option Value)} {oc17 kV17 dc17 pm17 cd17 ct17 : Value} {f18 : Addr} {od18 an18 : Option Addr} {sl18 : Array (Option Value)} {oc18 kV18 dc18 pm18 cd18 ct18 : Value} {f19 : Addr} {od19 an19 : Option Addr} {sl19 : Array (Option Value)} {oc19 kV19 dc19 pm19 cd19 ct19 : Value} {f20 : Addr} {od20 an20 : Option Addr} {sl20 : Array (Option Value)} {oc20 kV20 dc20 pm20 cd20 ct20 : Value} {f21 : Addr} {od21 an21 : Option Addr} {sl21 : Array (Option Value)} {oc21 kV21 dc21 pm21 cd21 ct21 : Value} {f22 : Addr} {od22 an22 : Option Addr} {sl22 : Array (Option Value)} {oc22 kV22 dc22 pm22 cd22 ct22 : Value} {f23 : Addr} {od23 an23 : Option Addr} {sl23 : Array (Option Value)} {oc23 kV23 dc23 pm23 cd23 ct23 : Value} {f24 : Addr} {od24 an24 : Option Addr} {sl24 : Array (Option Value)} {oc24 kV24 dc24 pm24 cd24 ct24 : Value} {f25 : Addr} {od25 an25 : Option Addr} {sl25 : Array (Option Value)} {oc25 kV25 dc25 pm25 cd25 ct25 : Value} {f26 : Addr} {od26 an26 : Option Addr} {sl26 : Array (Option Value)} {oc26 kV26 dc26 pm26 cd26 ct26 : Value} {f27 : Addr} {od27 an27 : Option Addr} {sl27 : Array (Option Value)} {oc27 kV27 dc27 pm27 cd27 ct27 : Value} {f28 : Addr} {od28 an28 : Option Addr} {sl28 : Array (Option Value)} {oc28 kV28 dc28 pm28 cd28 ct28 : Value} {f29 : Addr} {od29 an29 : Option Addr} {sl29 : Array (Option Value)} {oc29 kV29 dc29 pm29 cd29 ct29 : Value} {f30 : Addr} {od30 an30 : Option Addr} {sl30 : Array (Option Value)} {oc30 kV30 dc30 pm30 cd30 ct30 : Value}
    (a0 : PySem.W.nsIn K mainGlobals "is_integer" = some (some (.ref f0))) (l0 : K.lookup f0 = some ⟨oc0, od0, .func (PySem.W.fnOf "is_integer" "is_integer" (defArgs D_is_integer.st) (defBody D_is_integer.st) (defScope D_is_integer.st) .none kV0 dc0 pm0 an0 cd0 ct0), sl0⟩) (c0 : PySem.W.codeIn K cd0 "is_integer" = true) (k0 : PySem.W.keepIn K (.ref f0) = true)
    (a1 : PySem.W.nsIn K mainGlobals "is_number" = some (some (.ref f1))) (l1 : K.lookup f1 = some ⟨oc1, od1, .func (PySem.W.fnOf "is_number" "is_number" (defArgs D_is_number.st) (defBody D_is_number.st) (defScope D_is_number.st) .none kV1 dc1 pm1 an1 cd1 ct1), sl1⟩) (c1 : PySem.W.codeIn K cd1 "is_number" = true) (k1 : PySem.W.keepIn K (.ref f1) = true)
    (a2 : PySem.W.nsIn K mainGlobals "is_name" = some (some (.ref f2))) (l2 : K.lookup f2 = some ⟨oc2, od2, .func (PySem.W.fnOf "is_name" "is_name" (defArgs D_is_name.st) (defBody D_is_name.st) (defScope D_is_name.st) .none kV2 dc2 pm2 an2 cd2 ct2), sl2⟩) (c2 : PySem.W.codeIn K cd2 "is_name" = true) (k2 : PySem.W.keepIn K (.ref f2) = true)
    (a3 : PySem.W.nsIn K mainGlobals "is_ascending" = some (some (.ref f3))) (l3 : K.lookup f3 = some ⟨oc3, od3, .func (PySem.W.fnOf "is_ascending" "is_ascending" (defArgs D_is_ascending.st) (defBody D_is_ascending.st) (defScope D_is_ascending.st) .none kV3 dc3 pm3 an3 cd3 ct3), sl3⟩) (c3 : PySem.W.codeIn K cd3 "is_ascending" = true) (k3 : PySem.W.keepIn K (.ref f3) = true)
    (a4 : PySem.W.nsIn K mainGlobals "are_integers" = some (some (.ref f4))) (l4 : K.lookup f4 = some ⟨oc4, od4, .func (PySem.W.fnOf "are_integers" "are_integers" (defArgs D_are_integers.st) (defBody D_are_integers.st) (defScope D_are_integers.st) .none kV4 dc4 pm4 an4 cd4 ct4), sl4⟩) (c4 : PySem.W.codeIn K cd4 "are_integers" = true) (k4 : PySem.W.keepIn K (.ref f4) = true)
    (a5 : PySem.W.nsIn K mainGlobals "is_sum" = some (some (.ref f5))) (l5 : K.lookup f5 = some ⟨oc5, od5, .func (PySem.W.fnOf "is_sum" "is_sum" (defArgs D_is_sum.st) (defBody D_is_sum.st) (defScope D_is_sum.st) .none kV5 dc5 pm5 an5 cd5 ct5), sl5⟩) (c5 : PySem.W.codeIn K cd5 "is_sum" = true) (k5 : PySem.W.keepIn K (.ref f5) = true)
    (a6 : PySem.W.nsIn K mainGlobals "is_sums" = some (some (.ref f6))) (l6 : K.lookup f6 = some ⟨oc6, od6, .func (PySem.W.fnOf "is_sums" "is_sums" (defArgs D_is_sums.st) (defBody D_is_sums.st) (defScope D_is_sums.st) .none kV6 dc6 pm6 an6 cd6 ct6), sl6⟩) (c6 : PySem.W.codeIn K cd6 "is_sums" = true) (k6 : PySem.W.keepIn K (.ref f6) = true)
    (a7 : PySem.W.nsIn K mainGlobals "wants_of" = some (some (.ref f7))) (l7 : K.lookup f7 = some ⟨oc7, od7, .func (PySem.W.fnOf "wants_of" "wants_of" (defArgs D_wants_of.st) (defBody D_wants_of.st) (defScope D_wants_of.st) .none kV7 dc7 pm7 an7 cd7 ct7), sl7⟩) (c7 : PySem.W.codeIn K cd7 "wants_of" = true) (k7 : PySem.W.keepIn K (.ref f7) = true)
    (a8 : PySem.W.nsIn K mainGlobals "is_word_of" = some (some (.ref f8))) (l8 : K.lookup f8 = some ⟨oc8, od8, .func (PySem.W.fnOf "is_word_of" "is_word_of" (defArgs D_is_word_of.st) (defBody D_is_word_of.st) (defScope D_is_word_of.st) .none kV8 dc8 pm8 an8 cd8 ct8), sl8⟩) (c8 : PySem.W.codeIn K cd8 "is_word_of" = true) (k8 : PySem.W.keepIn K (.ref f8) = true)
    (a9 : PySem.W.nsIn K mainGlobals "is_fit" = some (some (.ref f9))) (l9 : K.lookup f9 = some ⟨oc9, od9, .func (PySem.W.fnOf "is_fit" "is_fit" (defArgs D_is_fit.st) (defBody D_is_fit.st) (defScope D_is_fit.st) .none kV9 dc9 pm9 an9 cd9 ct9), sl9⟩) (c9 : PySem.W.codeIn K cd9 "is_fit" = true) (k9 : PySem.W.keepIn K (.ref f9) = true)
    (a10 : PySem.W.nsIn K mainGlobals "inner_parts" = some (some (.ref f10))) (l10 : K.lookup f10 = some ⟨oc10, od10, .func (PySem.W.fnOf "inner_parts" "inner_parts" (defArgs D_inner_parts.st) (defBody D_inner_parts.st) (defScope D_inner_parts.st) .none kV10 dc10 pm10 an10 cd10 ct10), sl10⟩) (c10 : PySem.W.codeIn K cd10 "inner_parts" = true) (k10 : PySem.W.keepIn K (.ref f10) = true)
    (a11 : PySem.W.nsIn K mainGlobals "wrong_path" = some (some (.ref f11))) (l11 : K.lookup f11 = some ⟨oc11, od11, .func (PySem.W.fnOf "wrong_path" "wrong_path" (defArgs D_wrong_path.st) (defBody D_wrong_path.st) (defScope D_wrong_path.st) .none kV11 dc11 pm11 an11 cd11 ct11), sl11⟩) (c11 : PySem.W.codeIn K cd11 "wrong_path" = true) (k11 : PySem.W.keepIn K (.ref f11) = true)
    (a12 : PySem.W.nsIn K mainGlobals "is_count" = some (some (.ref f12))) (l12 : K.lookup f12 = some ⟨oc12, od12, .func (PySem.W.fnOf "is_count" "is_count" (defArgs D_is_count.st) (defBody D_is_count.st) (defScope D_is_count.st) .none kV12 dc12 pm12 an12 cd12 ct12), sl12⟩) (c12 : PySem.W.codeIn K cd12 "is_count" = true) (k12 : PySem.W.keepIn K (.ref f12) = true)
    (a13 : PySem.W.nsIn K mainGlobals "is_condition" = some (some (.ref f13))) (l13 : K.lookup f13 = some ⟨oc13, od13, .func (PySem.W.fnOf "is_condition" "is_condition" (defArgs D_is_condition.st) (defBody D_is_condition.st) (defScope D_is_condition.st) .none kV13 dc13 pm13 an13 cd13 ct13), sl13⟩) (c13 : PySem.W.codeIn K cd13 "is_condition" = true) (k13 : PySem.W.keepIn K (.ref f13) = true)
    (a14 : PySem.W.nsIn K mainGlobals "_law_reader" = some (some (.ref f14))) (l14 : K.lookup f14 = some ⟨oc14, od14, .func (PySem.W.fnOf "_law_reader" "_law_reader" (defArgs D__law_reader.st) (defBody D__law_reader.st) (defScope D__law_reader.st) .none kV14 dc14 pm14 an14 cd14 ct14), sl14⟩) (c14 : PySem.W.codeIn K cd14 "_law_reader" = true) (k14 : PySem.W.keepIn K (.ref f14) = true)
    (a15 : PySem.W.nsIn K mainGlobals "_law_draw" = some (some (.ref f15))) (l15 : K.lookup f15 = some ⟨oc15, od15, .func (PySem.W.fnOf "_law_draw" "_law_draw" (defArgs D__law_draw.st) (defBody D__law_draw.st) (defScope D__law_draw.st) .none kV15 dc15 pm15 an15 cd15 ct15), sl15⟩) (c15 : PySem.W.codeIn K cd15 "_law_draw" = true) (k15 : PySem.W.keepIn K (.ref f15) = true)
    (a16 : PySem.W.nsIn K mainGlobals "_law_changed" = some (some (.ref f16))) (l16 : K.lookup f16 = some ⟨oc16, od16, .func (PySem.W.fnOf "_law_changed" "_law_changed" (defArgs D__law_changed.st) (defBody D__law_changed.st) (defScope D__law_changed.st) .none kV16 dc16 pm16 an16 cd16 ct16), sl16⟩) (c16 : PySem.W.codeIn K cd16 "_law_changed" = true) (k16 : PySem.W.keepIn K (.ref f16) = true)
    (a17 : PySem.W.nsIn K mainGlobals "_law_is_integer" = some (some (.ref f17))) (l17 : K.lookup f17 = some ⟨oc17, od17, .func (PySem.W.fnOf "_law_is_integer" "_law_is_integer" (defArgs D__law_is_integer.st) (defBody D__law_is_integer.st) (defScope D__law_is_integer.st) .none kV17 dc17 pm17 an17 cd17 ct17), sl17⟩) (c17 : PySem.W.codeIn K cd17 "_law_is_integer" = true) (k17 : PySem.W.keepIn K (.ref f17) = true)
    (a18 : PySem.W.nsIn K mainGlobals "_law_is_name" = some (some (.ref f18))) (l18 : K.lookup f18 = some ⟨oc18, od18, .func (PySem.W.fnOf "_law_is_name" "_law_is_name" (defArgs D__law_is_name.st) (defBody D__law_is_name.st) (defScope D__law_is_name.st) .none kV18 dc18 pm18 an18 cd18 ct18), sl18⟩) (c18 : PySem.W.codeIn K cd18 "_law_is_name" = true) (k18 : PySem.W.keepIn K (.ref f18) = true)
    (a19 : PySem.W.nsIn K mainGlobals "_law_plan" = some (some (.ref f19))) (l19 : K.lookup f19 = some ⟨oc19, od19, .func (PySem.W.fnOf "_law_plan" "_law_plan" (defArgs D__law_plan.st) (defBody D__law_plan.st) (defScope D__law_plan.st) .none kV19 dc19 pm19 an19 cd19 ct19), sl19⟩) (c19 : PySem.W.codeIn K cd19 "_law_plan" = true) (k19 : PySem.W.keepIn K (.ref f19) = true)
    (a20 : PySem.W.nsIn K mainGlobals "_law_part_ok" = some (some (.ref f20))) (l20 : K.lookup f20 = some ⟨oc20, od20, .func (PySem.W.fnOf "_law_part_ok" "_law_part_ok" (defArgs D__law_part_ok.st) (defBody D__law_part_ok.st) (defScope D__law_part_ok.st) .none kV20 dc20 pm20 an20 cd20 ct20), sl20⟩) (c20 : PySem.W.codeIn K cd20 "_law_part_ok" = true) (k20 : PySem.W.keepIn K (.ref f20) = true)
    (a21 : PySem.W.nsIn K mainGlobals "_law_wrong" = some (some (.ref f21))) (l21 : K.lookup f21 = some ⟨oc21, od21, .func (PySem.W.fnOf "_law_wrong" "_law_wrong" (defArgs D__law_wrong.st) (defBody D__law_wrong.st) (defScope D__law_wrong.st) .none kV21 dc21 pm21 an21 cd21 ct21), sl21⟩) (c21 : PySem.W.codeIn K cd21 "_law_wrong" = true) (k21 : PySem.W.keepIn K (.ref f21) = true)
    (a22 : PySem.W.nsIn K mainGlobals "_law_leaf" = some (some (.ref f22))) (l22 : K.lookup f22 = some ⟨oc22, od22, .func (PySem.W.fnOf "_law_leaf" "_law_leaf" (defArgs D__law_leaf.st) (defBody D__law_leaf.st) (defScope D__law_leaf.st) .none kV22 dc22 pm22 an22 cd22 ct22), sl22⟩) (c22 : PySem.W.codeIn K cd22 "_law_leaf" = true) (k22 : PySem.W.keepIn K (.ref f22) = true)
    (a23 : PySem.W.nsIn K mainGlobals "_law_number" = some (some (.ref f23))) (l23 : K.lookup f23 = some ⟨oc23, od23, .func (PySem.W.fnOf "_law_number" "_law_number" (defArgs D__law_number.st) (defBody D__law_number.st) (defScope D__law_number.st) .none kV23 dc23 pm23 an23 cd23 ct23), sl23⟩) (c23 : PySem.W.codeIn K cd23 "_law_number" = true) (k23 : PySem.W.keepIn K (.ref f23) = true)
    (a24 : PySem.W.nsIn K mainGlobals "_law_condition" = some (some (.ref f24))) (l24 : K.lookup f24 = some ⟨oc24, od24, .func (PySem.W.fnOf "_law_condition" "_law_condition" (defArgs D__law_condition.st) (defBody D__law_condition.st) (defScope D__law_condition.st) .none kV24 dc24 pm24 an24 cd24 ct24), sl24⟩) (c24 : PySem.W.codeIn K cd24 "_law_condition" = true) (k24 : PySem.W.keepIn K (.ref f24) = true)
    (a25 : PySem.W.nsIn K mainGlobals "_law_random_sum" = some (some (.ref f25))) (l25 : K.lookup f25 = some ⟨oc25, od25, .func (PySem.W.fnOf "_law_random_sum" "_law_random_sum" (defArgs D__law_random_sum.st) (defBody D__law_random_sum.st) (defScope D__law_random_sum.st) .none kV25 dc25 pm25 an25 cd25 ct25), sl25⟩) (c25 : PySem.W.codeIn K cd25 "_law_random_sum" = true) (k25 : PySem.W.keepIn K (.ref f25) = true)
    (a26 : PySem.W.nsIn K mainGlobals "_law_is_sum" = some (some (.ref f26))) (l26 : K.lookup f26 = some ⟨oc26, od26, .func (PySem.W.fnOf "_law_is_sum" "_law_is_sum" (defArgs D__law_is_sum.st) (defBody D__law_is_sum.st) (defScope D__law_is_sum.st) .none kV26 dc26 pm26 an26 cd26 ct26), sl26⟩) (c26 : PySem.W.codeIn K cd26 "_law_is_sum" = true) (k26 : PySem.W.keepIn K (.ref f26) = true)
    (a27 : PySem.W.nsIn K mainGlobals "_law_are_sums" = some (some (.ref f27))) (l27 : K.lookup f27 = some ⟨oc27, od27, .func (PySem.W.fnOf "_law_are_sums" "_law_are_sums" (defArgs D__law_are_sums.st) (defBody D__law_are_sums.st) (defScope D__law_are_sums.st) .none kV27 dc27 pm27 an27 cd27 ct27), sl27⟩) (c27 : PySem.W.codeIn K cd27 "_law_are_sums" = true) (k27 : PySem.W.keepIn K (.ref f27) = true)
    (a28 : PySem.W.nsIn K mainGlobals "_law_plain_values" = some (some (.ref f28))) (l28 : K.lookup f28 = some ⟨oc28, od28, .func (PySem.W.fnOf "_law_plain_values" "_law_plain_values" (defArgs D__law_plain_values.st) (defBody D__law_plain_values.st) (defScope D__law_plain_values.st) .none kV28 dc28 pm28 an28 cd28 ct28), sl28⟩) (c28 : PySem.W.codeIn K cd28 "_law_plain_values" = true) (k28 : PySem.W.keepIn K (.ref f28) = true)
    (a29 : PySem.W.nsIn K mainGlobals "_law_expressions" = some (some (.ref f29))) (l29 : K.lookup f29 = some ⟨oc29, od29, .func (PySem.W.fnOf "_law_expressions" "_law_expressions" (defArgs D__law_expressions.st) (defBody D__law_expressions.st) (defScope D__law_expressions.st) .none kV29 dc29 pm29 an29 cd29 ct29), sl29⟩) (c29 : PySem.W.codeIn K cd29 "_law_expressions" = true) (k29 : PySem.W.keepIn K (.ref f29) = true)
    (a30 : PySem.W.nsIn K mainGlobals "law" = some (some (.ref f30))) (l30 : K.lookup f30 = some ⟨oc30, od30, .func (PySem.W.fnOf "law" "law" (defArgs D_law.st) (defBody D_law.st) (defScope D_law.st) .none kV30 dc30 pm30 an30 cd30 ct30), sl30⟩) (c30 : PySem.W.codeIn K cd30 "law" = true) (k30 : PySem.W.keepIn K (.ref f30) = true) : AllP (Told K mg) ds :=
  ⟨⟨f0, _, PySem.W.mg_of X G a0, k0, fun_mk (st := D_is_integer.st) l0 c0 k0⟩, ⟨f1, _, PySem.W.mg_of X G a1, k1, fun_mk (st := D_is_number.st) l1 c1 k1⟩, ⟨f2, _, PySem.W.mg_of X G a2, k2, fun_mk (st := D_is_name.st) l2 c2 k2⟩, ⟨f3, _, PySem.W.mg_of X G a3, k3, fun_mk (st := D_is_ascending.st) l3 c3 k3⟩, ⟨f4, _, PySem.W.mg_of X G a4, k4, fun_mk (st := D_are_integers.st) l4 c4 k4⟩, ⟨f5, _, PySem.W.mg_of X G a5, k5, fun_mk (st := D_is_sum.st) l5 c5 k5⟩, ⟨f6, _, PySem.W.mg_of X G a6, k6, fun_mk (st := D_is_sums.st) l6 c6 k6⟩, ⟨f7, _, PySem.W.mg_of X G a7, k7, fun_mk (st := D_wants_of.st) l7 c7 k7⟩, ⟨f8, _, PySem.W.mg_of X G a8, k8, fun_mk (st := D_is_word_of.st) l8 c8 k8⟩, ⟨f9, _, PySem.W.mg_of X G a9, k9, fun_mk (st := D_is_fit.st) l9 c9 k9⟩, ⟨f10, _, PySem.W.mg_of X G a10, k10, fun_mk (st := D_inner_parts.st) l10 c10 k10⟩, ⟨f11, _, PySem.W.mg_of X G a11, k11, fun_mk (st := D_wrong_path.st) l11 c11 k11⟩, ⟨f12, _, PySem.W.mg_of X G a12, k12, fun_mk (st := D_is_count.st) l12 c12 k12⟩, ⟨f13, _, PySem.W.mg_of X G a13, k13, fun_mk (st := D_is_condition.st) l13 c13 k13⟩, ⟨f14, _, PySem.W.mg_of X G a14, k14, fun_mk (st := D__law_reader.st) l14 c14 k14⟩, ⟨f15, _, PySem.W.mg_of X G a15, k15, fun_mk (st := D__law_draw.st) l15 c15 k15⟩, ⟨f16, _, PySem.W.mg_of X G a16, k16, fun_mk (st := D__law_changed.st) l16 c16 k16⟩, ⟨f17, _, PySem.W.mg_of X G a17, k17, fun_mk (st := D__law_is_integer.st) l17 c17 k17⟩, ⟨f18, _, PySem.W.mg_of X G a18, k18, fun_mk (st := D__law_is_name.st) l18 c18 k18⟩, ⟨f19, _, PySem.W.mg_of X G a19, k19, fun_mk (st := D__law_plan.st) l19 c19 k19⟩, ⟨f20, _, PySem.W.mg_of X G a20, k20, fun_mk (st := D__law_part_ok.st) l20 c20 k20⟩, ⟨f21, _, PySem.W.mg_of X G a21, k21, fun_mk (st := D__law_wrong.st) l21 c21 k21⟩, ⟨f22, _, PySem.W.mg_of X G a22, k22, fun_mk (st := D__law_leaf.st) l22 c22 k22⟩, ⟨f23, _, PySem.W.mg_of X G a23, k23, fun_mk (st := D__law_number.st) l23 c23 k23⟩, ⟨f24, _, PySem.W.mg_of X G a24, k24, fun_mk (st := D__law_condition.st) l24 c24 k24⟩, ⟨f25, _, PySem.W.mg_of X G a25, k25, fun_mk (st := D__law_random_sum.st) l25 c25 k25⟩, ⟨f26, _, PySem.W.mg_of X G a26, k26, fun_mk (st := D__law_is_sum.st) l26 c26 k26⟩, ⟨f27, _, PySem.W.mg_of X G a27, k27, fun_mk (st := D__law_are_sums.st) l27 c27 k27⟩, ⟨f28, _, PySem.W.mg_of X G a28, k28, fun_mk (st := D__law_plain_values.st) l28 c28 k28⟩, ⟨f29, _, PySem.W.mg_of X G a29, k29, fun_mk (st := D__law_expressions.st) l29 c29 k29⟩, ⟨f30, _, PySem.W.mg_of X G a30, k30, fun_mk (st := D_law.st) l30 c30 k30⟩, trivial⟩
theorem bind_all : AllP BindOk ds := ⟨bo_is_integer, bo_is_number, bo_is_name, bo_is_ascending, bo_are_integers, bo_is_sum, bo_is_sums, bo_wants_of, bo_is_word_of, bo_is_fit, bo_inner_parts, bo_wrong_path, bo_is_count, bo_is_condition, bo__law_reader, bo__law_draw, bo__law_changed, bo__law_is_integer, bo__law_is_name, bo__law_plan, bo__law_part_ok, bo__law_wrong, bo__law_leaf, bo__law_number, bo__law_condition, bo__law_random_sum, bo__law_is_sum, bo__law_are_sums, bo__law_plain_values, bo__law_expressions, bo_law, trivial⟩
theorem okD_all : AllP (fun D => okD ds gs D = true) ds := ⟨ok_is_integer, ok_is_number, ok_is_name, ok_is_ascending, ok_are_integers, ok_is_sum, ok_is_sums, ok_wants_of, ok_is_word_of, ok_is_fit, ok_inner_parts, ok_wrong_path, ok_is_count, ok_is_condition, ok__law_reader, ok__law_draw, ok__law_changed, ok__law_is_integer, ok__law_is_name, ok__law_plan, ok__law_part_ok, ok__law_wrong, ok__law_leaf, ok__law_number, ok__law_condition, ok__law_random_sum, ok__law_is_sum, ok__law_are_sums, ok__law_plain_values, ok__law_expressions, ok_law, trivial⟩
end K01
namespace K01
open PySem L2 Ev
abbrev FU : Nat := 1000000
@[irreducible] def P (n : Nat) := Phi ds gs FU n
theorem s_is_integer {n : Nat} {x0 : PV}  {st : Cel} {Q : Kp PV} (h : @RS.w (evSs (P n) FU b_is_integer [.val x0] st) ⟨fun _ st => Q.run .non st, Q.run, fun _ _ => False, fun _ _ => False⟩) : @R.w _ (P (n + 1) 0 ([x0]) st) Q := by
  have e : P (n + 1) 0 ([x0]) st = fin (evSs (P n) FU b_is_integer [.val x0] st) := by
    unfold P
    rfl
  rw [e, w_fin]
  exact h
theorem s_is_number {n : Nat} {x0 : PV}  {st : Cel} {Q : Kp PV} (h : @RS.w (evSs (P n) FU b_is_number [.val x0] st) ⟨fun _ st => Q.run .non st, Q.run, fun _ _ => False, fun _ _ => False⟩) : @R.w _ (P (n + 1) 1 ([x0]) st) Q := by
  have e : P (n + 1) 1 ([x0]) st = fin (evSs (P n) FU b_is_number [.val x0] st) := by
    unfold P
    rfl
  rw [e, w_fin]
  exact h
theorem s_is_name {n : Nat} {x0 : PV}  {st : Cel} {Q : Kp PV} (h : @RS.w (evSs (P n) FU b_is_name [.val x0, .emp] st) ⟨fun _ st => Q.run .non st, Q.run, fun _ _ => False, fun _ _ => False⟩) : @R.w _ (P (n + 1) 2 ([x0]) st) Q := by
  have e : P (n + 1) 2 ([x0]) st = fin (evSs (P n) FU b_is_name [.val x0, .emp] st) := by
    unfold P
    rfl
  rw [e, w_fin]
  exact h
theorem s_is_ascending {n : Nat} {x0 : PV}  {st : Cel} {Q : Kp PV} (h : @RS.w (evSs (P n) FU b_is_ascending [.val x0, .emp, .emp] st) ⟨fun _ st => Q.run .non st, Q.run, fun _ _ => False, fun _ _ => False⟩) : @R.w _ (P (n + 1) 3 ([x0]) st) Q := by
  have e : P (n + 1) 3 ([x0]) st = fin (evSs (P n) FU b_is_ascending [.val x0, .emp, .emp] st) := by
    unfold P
    rfl
  rw [e, w_fin]
  exact h
theorem s_are_integers {n : Nat} {x0 : PV}  {st : Cel} {Q : Kp PV} (h : @RS.w (evSs (P n) FU b_are_integers [.val x0, .emp] st) ⟨fun _ st => Q.run .non st, Q.run, fun _ _ => False, fun _ _ => False⟩) : @R.w _ (P (n + 1) 4 ([x0]) st) Q := by
  have e : P (n + 1) 4 ([x0]) st = fin (evSs (P n) FU b_are_integers [.val x0, .emp] st) := by
    unfold P
    rfl
  rw [e, w_fin]
  exact h
theorem s_is_sum {n : Nat} {x0 x1 : PV}  {st : Cel} {Q : Kp PV} (h : @RS.w (evSs (P n) FU b_is_sum [.val x0, .val x1] st) ⟨fun _ st => Q.run .non st, Q.run, fun _ _ => False, fun _ _ => False⟩) : @R.w _ (P (n + 1) 5 ([x0, x1]) st) Q := by
  have e : P (n + 1) 5 ([x0, x1]) st = fin (evSs (P n) FU b_is_sum [.val x0, .val x1] st) := by
    unfold P
    rfl
  rw [e, w_fin]
  exact h
theorem s_is_sums {n : Nat} {x0 x1 : PV}  {st : Cel} {Q : Kp PV} (h : @RS.w (evSs (P n) FU b_is_sums [.val x0, .val x1, .emp] st) ⟨fun _ st => Q.run .non st, Q.run, fun _ _ => False, fun _ _ => False⟩) : @R.w _ (P (n + 1) 6 ([x0, x1]) st) Q := by
  have e : P (n + 1) 6 ([x0, x1]) st = fin (evSs (P n) FU b_is_sums [.val x0, .val x1, .emp] st) := by
    unfold P
    rfl
  rw [e, w_fin]
  exact h
theorem s_wants_of {n : Nat} {x0 : PV}  {st : Cel} {Q : Kp PV} (h : @RS.w (evSs (P n) FU b_wants_of [.val x0] st) ⟨fun _ st => Q.run .non st, Q.run, fun _ _ => False, fun _ _ => False⟩) : @R.w _ (P (n + 1) 7 ([x0]) st) Q := by
  have e : P (n + 1) 7 ([x0]) st = fin (evSs (P n) FU b_wants_of [.val x0] st) := by
    unfold P
    rfl
  rw [e, w_fin]
  exact h
theorem s_is_word_of {n : Nat} {x0 x1 : PV}  {st : Cel} {Q : Kp PV} (h : @RS.w (evSs (P n) FU b_is_word_of [.val x0, .val x1] st) ⟨fun _ st => Q.run .non st, Q.run, fun _ _ => False, fun _ _ => False⟩) : @R.w _ (P (n + 1) 8 ([x0, x1]) st) Q := by
  have e : P (n + 1) 8 ([x0, x1]) st = fin (evSs (P n) FU b_is_word_of [.val x0, .val x1] st) := by
    unfold P
    rfl
  rw [e, w_fin]
  exact h
theorem s_is_fit {n : Nat} {x0 x1 x2 : PV}  {st : Cel} {Q : Kp PV} (h : @RS.w (evSs (P n) FU b_is_fit [.val x0, .val x1, .val x2] st) ⟨fun _ st => Q.run .non st, Q.run, fun _ _ => False, fun _ _ => False⟩) : @R.w _ (P (n + 1) 9 ([x0, x1, x2]) st) Q := by
  have e : P (n + 1) 9 ([x0, x1, x2]) st = fin (evSs (P n) FU b_is_fit [.val x0, .val x1, .val x2] st) := by
    unfold P
    rfl
  rw [e, w_fin]
  exact h
theorem s_inner_parts {n : Nat} {x0 x1 : PV}  {st : Cel} {Q : Kp PV} (h : @RS.w (evSs (P n) FU b_inner_parts [.val x0, .val x1, .emp, .emp, .emp] st) ⟨fun _ st => Q.run .non st, Q.run, fun _ _ => False, fun _ _ => False⟩) : @R.w _ (P (n + 1) 10 ([x0, x1]) st) Q := by
  have e : P (n + 1) 10 ([x0, x1]) st = fin (evSs (P n) FU b_inner_parts [.val x0, .val x1, .emp, .emp, .emp] st) := by
    unfold P
    rfl
  rw [e, w_fin]
  exact h
theorem s_wrong_path {n : Nat} {x0 x1 x2 : PV}  {st : Cel} {Q : Kp PV} (h : @RS.w (evSs (P n) FU b_wrong_path [.val x0, .val x1, .val x2, .emp, .emp, .emp, .emp] st) ⟨fun _ st => Q.run .non st, Q.run, fun _ _ => False, fun _ _ => False⟩) : @R.w _ (P (n + 1) 11 ([x0, x1, x2]) st) Q := by
  have e : P (n + 1) 11 ([x0, x1, x2]) st = fin (evSs (P n) FU b_wrong_path [.val x0, .val x1, .val x2, .emp, .emp, .emp, .emp] st) := by
    unfold P
    rfl
  rw [e, w_fin]
  exact h
theorem s_is_count {n : Nat} {x0 : PV}  {st : Cel} {Q : Kp PV} (h : @RS.w (evSs (P n) FU b_is_count [.val x0] st) ⟨fun _ st => Q.run .non st, Q.run, fun _ _ => False, fun _ _ => False⟩) : @R.w _ (P (n + 1) 12 ([x0]) st) Q := by
  have e : P (n + 1) 12 ([x0]) st = fin (evSs (P n) FU b_is_count [.val x0] st) := by
    unfold P
    rfl
  rw [e, w_fin]
  exact h
theorem s_is_condition {n : Nat} {x0 : PV}  {st : Cel} {Q : Kp PV} (h : @RS.w (evSs (P n) FU b_is_condition [.val x0] st) ⟨fun _ st => Q.run .non st, Q.run, fun _ _ => False, fun _ _ => False⟩) : @R.w _ (P (n + 1) 13 ([x0]) st) Q := by
  have e : P (n + 1) 13 ([x0]) st = fin (evSs (P n) FU b_is_condition [.val x0] st) := by
    unfold P
    rfl
  rw [e, w_fin]
  exact h
theorem s__law_reader {n : Nat} {x0 : PV}  {st : Cel} {Q : Kp PV} (h : @RS.w (evSs (P n) FU b__law_reader [.val x0] st) ⟨fun _ st => Q.run .non st, Q.run, fun _ _ => False, fun _ _ => False⟩) : @R.w _ (P (n + 1) 14 ([x0]) st) Q := by
  have e : P (n + 1) 14 ([x0]) st = fin (evSs (P n) FU b__law_reader [.val x0] st) := by
    unfold P
    rfl
  rw [e, w_fin]
  exact h
theorem s__law_draw {n : Nat} {x0 x1 : PV}  {st : Cel} {Q : Kp PV} (h : @RS.w (evSs (P n) FU b__law_draw [.val x0, .val x1, .emp, .emp, .emp] st) ⟨fun _ st => Q.run .non st, Q.run, fun _ _ => False, fun _ _ => False⟩) : @R.w _ (P (n + 1) 15 ([x0, x1]) st) Q := by
  have e : P (n + 1) 15 ([x0, x1]) st = fin (evSs (P n) FU b__law_draw [.val x0, .val x1, .emp, .emp, .emp] st) := by
    unfold P
    rfl
  rw [e, w_fin]
  exact h
theorem s__law_changed {n : Nat} {x0 x1 x2 : PV}  {st : Cel} {Q : Kp PV} (h : @RS.w (evSs (P n) FU b__law_changed [.val x0, .val x1, .val x2, .emp, .emp, .emp] st) ⟨fun _ st => Q.run .non st, Q.run, fun _ _ => False, fun _ _ => False⟩) : @R.w _ (P (n + 1) 16 ([x0, x1, x2]) st) Q := by
  have e : P (n + 1) 16 ([x0, x1, x2]) st = fin (evSs (P n) FU b__law_changed [.val x0, .val x1, .val x2, .emp, .emp, .emp] st) := by
    unfold P
    rfl
  rw [e, w_fin]
  exact h
theorem s__law_is_integer {n : Nat} {x0 : PV}  {st : Cel} {Q : Kp PV} (h : @RS.w (evSs (P n) FU b__law_is_integer [.val x0] st) ⟨fun _ st => Q.run .non st, Q.run, fun _ _ => False, fun _ _ => False⟩) : @R.w _ (P (n + 1) 17 ([x0]) st) Q := by
  have e : P (n + 1) 17 ([x0]) st = fin (evSs (P n) FU b__law_is_integer [.val x0] st) := by
    unfold P
    rfl
  rw [e, w_fin]
  exact h
theorem s__law_is_name {n : Nat} {x0 : PV}  {st : Cel} {Q : Kp PV} (h : @RS.w (evSs (P n) FU b__law_is_name [.val x0, .emp] st) ⟨fun _ st => Q.run .non st, Q.run, fun _ _ => False, fun _ _ => False⟩) : @R.w _ (P (n + 1) 18 ([x0]) st) Q := by
  have e : P (n + 1) 18 ([x0]) st = fin (evSs (P n) FU b__law_is_name [.val x0, .emp] st) := by
    unfold P
    rfl
  rw [e, w_fin]
  exact h
theorem s__law_plan {n : Nat} {x0 x1 : PV}  {st : Cel} {Q : Kp PV} (h : @RS.w (evSs (P n) FU b__law_plan [.val x0, .val x1] st) ⟨fun _ st => Q.run .non st, Q.run, fun _ _ => False, fun _ _ => False⟩) : @R.w _ (P (n + 1) 19 ([x0, x1]) st) Q := by
  have e : P (n + 1) 19 ([x0, x1]) st = fin (evSs (P n) FU b__law_plan [.val x0, .val x1] st) := by
    unfold P
    rfl
  rw [e, w_fin]
  exact h
theorem s__law_part_ok {n : Nat} {x0 x1 x2 : PV}  {st : Cel} {Q : Kp PV} (h : @RS.w (evSs (P n) FU b__law_part_ok [.val x0, .val x1, .val x2, .emp] st) ⟨fun _ st => Q.run .non st, Q.run, fun _ _ => False, fun _ _ => False⟩) : @R.w _ (P (n + 1) 20 ([x0, x1, x2]) st) Q := by
  have e : P (n + 1) 20 ([x0, x1, x2]) st = fin (evSs (P n) FU b__law_part_ok [.val x0, .val x1, .val x2, .emp] st) := by
    unfold P
    rfl
  rw [e, w_fin]
  exact h
theorem s__law_wrong {n : Nat} {x0 x1 x2 x3 : PV}  {st : Cel} {Q : Kp PV} (h : @RS.w (evSs (P n) FU b__law_wrong [.val x0, .val x1, .val x2, .val x3, .emp, .emp, .emp] st) ⟨fun _ st => Q.run .non st, Q.run, fun _ _ => False, fun _ _ => False⟩) : @R.w _ (P (n + 1) 21 ([x0, x1, x2, x3]) st) Q := by
  have e : P (n + 1) 21 ([x0, x1, x2, x3]) st = fin (evSs (P n) FU b__law_wrong [.val x0, .val x1, .val x2, .val x3, .emp, .emp, .emp] st) := by
    unfold P
    rfl
  rw [e, w_fin]
  exact h
theorem s__law_leaf {n : Nat} {x0 x1 : PV}  {st : Cel} {Q : Kp PV} (h : @RS.w (evSs (P n) FU b__law_leaf [.val x0, .val x1] st) ⟨fun _ st => Q.run .non st, Q.run, fun _ _ => False, fun _ _ => False⟩) : @R.w _ (P (n + 1) 22 ([x0, x1]) st) Q := by
  have e : P (n + 1) 22 ([x0, x1]) st = fin (evSs (P n) FU b__law_leaf [.val x0, .val x1] st) := by
    unfold P
    rfl
  rw [e, w_fin]
  exact h
theorem s__law_number {n : Nat} {x0 x1 x2 : PV}  {st : Cel} {Q : Kp PV} (h : @RS.w (evSs (P n) FU b__law_number [.val x0, .val x1, .val x2, .emp, .emp] st) ⟨fun _ st => Q.run .non st, Q.run, fun _ _ => False, fun _ _ => False⟩) : @R.w _ (P (n + 1) 23 ([x0, x1, x2]) st) Q := by
  have e : P (n + 1) 23 ([x0, x1, x2]) st = fin (evSs (P n) FU b__law_number [.val x0, .val x1, .val x2, .emp, .emp] st) := by
    unfold P
    rfl
  rw [e, w_fin]
  exact h
theorem s__law_condition {n : Nat} {x0 x1 x2 : PV}  {st : Cel} {Q : Kp PV} (h : @RS.w (evSs (P n) FU b__law_condition [.val x0, .val x1, .val x2, .emp, .emp] st) ⟨fun _ st => Q.run .non st, Q.run, fun _ _ => False, fun _ _ => False⟩) : @R.w _ (P (n + 1) 24 ([x0, x1, x2]) st) Q := by
  have e : P (n + 1) 24 ([x0, x1, x2]) st = fin (evSs (P n) FU b__law_condition [.val x0, .val x1, .val x2, .emp, .emp] st) := by
    unfold P
    rfl
  rw [e, w_fin]
  exact h
theorem s__law_random_sum {n : Nat} {x0 x1 : PV}  {st : Cel} {Q : Kp PV} (h : @RS.w (evSs (P n) FU b__law_random_sum [.val x0, .val x1, .emp] st) ⟨fun _ st => Q.run .non st, Q.run, fun _ _ => False, fun _ _ => False⟩) : @R.w _ (P (n + 1) 25 ([x0, x1]) st) Q := by
  have e : P (n + 1) 25 ([x0, x1]) st = fin (evSs (P n) FU b__law_random_sum [.val x0, .val x1, .emp] st) := by
    unfold P
    rfl
  rw [e, w_fin]
  exact h
theorem s__law_is_sum {n : Nat} {x0 x1 : PV}  {st : Cel} {Q : Kp PV} (h : @RS.w (evSs (P n) FU b__law_is_sum [.val x0, .val x1, .emp] st) ⟨fun _ st => Q.run .non st, Q.run, fun _ _ => False, fun _ _ => False⟩) : @R.w _ (P (n + 1) 26 ([x0, x1]) st) Q := by
  have e : P (n + 1) 26 ([x0, x1]) st = fin (evSs (P n) FU b__law_is_sum [.val x0, .val x1, .emp] st) := by
    unfold P
    rfl
  rw [e, w_fin]
  exact h
theorem s__law_are_sums {n : Nat} {x0 x1 : PV}  {st : Cel} {Q : Kp PV} (h : @RS.w (evSs (P n) FU b__law_are_sums [.val x0, .val x1, .emp, .emp] st) ⟨fun _ st => Q.run .non st, Q.run, fun _ _ => False, fun _ _ => False⟩) : @R.w _ (P (n + 1) 27 ([x0, x1]) st) Q := by
  have e : P (n + 1) 27 ([x0, x1]) st = fin (evSs (P n) FU b__law_are_sums [.val x0, .val x1, .emp, .emp] st) := by
    unfold P
    rfl
  rw [e, w_fin]
  exact h
theorem s__law_plain_values {n : Nat}  {st : Cel} {Q : Kp PV} (h : @RS.w (evSs (P n) FU b__law_plain_values [.emp, .emp, .emp, .emp] st) ⟨fun _ st => Q.run .non st, Q.run, fun _ _ => False, fun _ _ => False⟩) : @R.w _ (P (n + 1) 28 ([]) st) Q := by
  have e : P (n + 1) 28 [] st = fin (evSs (P n) FU b__law_plain_values [.emp, .emp, .emp, .emp] st) := by
    unfold P
    rw [Phi_d (D := D__law_plain_values) rfl (by decide)]
    unfold Ev.run
    rw [if_neg (by decide), if_pos (by rfl)]
    rfl
  rw [e, w_fin]
  exact h
theorem s__law_expressions {n : Nat}  {st : Cel} {Q : Kp PV} (h : @RS.w (evSs (P n) FU b__law_expressions [.emp, .emp, .emp, .emp, .emp, .emp, .emp] st) ⟨fun _ st => Q.run .non st, Q.run, fun _ _ => False, fun _ _ => False⟩) : @R.w _ (P (n + 1) 29 ([]) st) Q := by
  have e : P (n + 1) 29 [] st = fin (evSs (P n) FU b__law_expressions [.emp, .emp, .emp, .emp, .emp, .emp, .emp] st) := by
    unfold P
    rw [Phi_d (D := D__law_expressions) rfl (by decide)]
    unfold Ev.run
    rw [if_neg (by decide), if_pos (by rfl)]
    rfl
  rw [e, w_fin]
  exact h
theorem s_law {n : Nat} {x0 : PV}  {st : Cel} {Q : Kp PV} (h : @RS.w (evSs (P n) FU b_law [.val x0, .emp, .emp, .emp, .emp, .emp, .emp, .emp, .emp, .emp, .emp, .emp, .emp, .emp] st) ⟨fun _ st => Q.run .non st, Q.run, fun _ _ => False, fun _ _ => False⟩) : @R.w _ (P (n + 1) 30 ([x0]) st) Q := by
  have e : P (n + 1) 30 ([x0]) st = fin (evSs (P n) FU b_law [.val x0, .emp, .emp, .emp, .emp, .emp, .emp, .emp, .emp, .emp, .emp, .emp, .emp, .emp] st) := by
    unfold P
    rfl
  rw [e, w_fin]
  exact h
@[simp] theorem g_ALPHABET {n : Nat} {st : Cel} : P n 1000 [] st = .ok (.str "abcdefghijklmnopqrstuvwxyz") st := by unfold P; rw [Phi_g (by decide)]; rfl
@[simp] theorem g_LONGEST_NAME {n : Nat} {st : Cel} : P n 1001 [] st = .ok (.int 8) st := by unfold P; rw [Phi_g (by decide)]; rfl
@[simp] theorem g_NUMBER {n : Nat} {st : Cel} : P n 1002 [] st = .ok (.str "number") st := by unfold P; rw [Phi_g (by decide)]; rfl
@[simp] theorem g_CONDITION {n : Nat} {st : Cel} : P n 1003 [] st = .ok (.str "condition") st := by unfold P; rw [Phi_g (by decide)]; rfl
@[simp] theorem g_NAME {n : Nat} {st : Cel} : P n 1004 [] st = .ok (.str "name") st := by unfold P; rw [Phi_g (by decide)]; rfl
@[simp] theorem t_NUMBER_FORMS_0 {n : Nat} {st : Cel} : P n 2005 [.str "item"] st = .ok (.tup [.str "name"]) st := by unfold P; rw [Phi_g (by decide)]; rfl
@[simp] theorem t_NUMBER_FORMS_1 {n : Nat} {st : Cel} : P n 2005 [.str "+"] st = .ok (.tup [.str "number", .str "number"]) st := by unfold P; rw [Phi_g (by decide)]; rfl
@[simp] theorem t_NUMBER_FORMS_2 {n : Nat} {st : Cel} : P n 2005 [.str "-"] st = .ok (.tup [.str "number", .str "number"]) st := by unfold P; rw [Phi_g (by decide)]; rfl
@[simp] theorem t_NUMBER_FORMS_3 {n : Nat} {st : Cel} : P n 2005 [.str "*"] st = .ok (.tup [.str "number", .str "number"]) st := by unfold P; rw [Phi_g (by decide)]; rfl
theorem k_NUMBER_FORMS {n : Nat} {st : Cel} {w : Str} : P n 3005 [.str w] st = .ok (.bl (([("item", .tup [.str "name"]), ("+", .tup [.str "number", .str "number"]), ("-", .tup [.str "number", .str "number"]), ("*", .tup [.str "number", .str "number"])] : List (Str × PV)).lookup w).isSome) st := by unfold P; rw [Phi_g (by decide)]; rfl
@[simp] theorem i_NUMBER_FORMS_0 {n : Nat} {st : Cel} : P n 3005 [.str "item"] st = .ok (.bl true) st := by unfold P; rw [Phi_g (by decide)]; rfl
@[simp] theorem i_NUMBER_FORMS_1 {n : Nat} {st : Cel} : P n 3005 [.str "+"] st = .ok (.bl true) st := by unfold P; rw [Phi_g (by decide)]; rfl
@[simp] theorem i_NUMBER_FORMS_2 {n : Nat} {st : Cel} : P n 3005 [.str "-"] st = .ok (.bl true) st := by unfold P; rw [Phi_g (by decide)]; rfl
@[simp] theorem i_NUMBER_FORMS_3 {n : Nat} {st : Cel} : P n 3005 [.str "*"] st = .ok (.bl true) st := by unfold P; rw [Phi_g (by decide)]; rfl
@[simp] theorem i_NUMBER_FORMS_4 {n : Nat} {st : Cel} : P n 3005 [.str "="] st = .ok (.bl false) st := by unfold P; rw [Phi_g (by decide)]; rfl
@[simp] theorem i_NUMBER_FORMS_5 {n : Nat} {st : Cel} : P n 3005 [.str "<"] st = .ok (.bl false) st := by unfold P; rw [Phi_g (by decide)]; rfl
@[simp] theorem i_NUMBER_FORMS_6 {n : Nat} {st : Cel} : P n 3005 [.str "and"] st = .ok (.bl false) st := by unfold P; rw [Phi_g (by decide)]; rfl
@[simp] theorem i_NUMBER_FORMS_7 {n : Nat} {st : Cel} : P n 3005 [.str "or"] st = .ok (.bl false) st := by unfold P; rw [Phi_g (by decide)]; rfl
@[simp] theorem i_NUMBER_FORMS_8 {n : Nat} {st : Cel} : P n 3005 [.str "not"] st = .ok (.bl false) st := by unfold P; rw [Phi_g (by decide)]; rfl
@[simp] theorem t_CONDITION_FORMS_0 {n : Nat} {st : Cel} : P n 2006 [.str "="] st = .ok (.tup [.str "number", .str "number"]) st := by unfold P; rw [Phi_g (by decide)]; rfl
@[simp] theorem t_CONDITION_FORMS_1 {n : Nat} {st : Cel} : P n 2006 [.str "<"] st = .ok (.tup [.str "number", .str "number"]) st := by unfold P; rw [Phi_g (by decide)]; rfl
@[simp] theorem t_CONDITION_FORMS_2 {n : Nat} {st : Cel} : P n 2006 [.str "and"] st = .ok (.tup [.str "condition", .str "condition"]) st := by unfold P; rw [Phi_g (by decide)]; rfl
@[simp] theorem t_CONDITION_FORMS_3 {n : Nat} {st : Cel} : P n 2006 [.str "or"] st = .ok (.tup [.str "condition", .str "condition"]) st := by unfold P; rw [Phi_g (by decide)]; rfl
@[simp] theorem t_CONDITION_FORMS_4 {n : Nat} {st : Cel} : P n 2006 [.str "not"] st = .ok (.tup [.str "condition"]) st := by unfold P; rw [Phi_g (by decide)]; rfl
theorem k_CONDITION_FORMS {n : Nat} {st : Cel} {w : Str} : P n 3006 [.str w] st = .ok (.bl (([("=", .tup [.str "number", .str "number"]), ("<", .tup [.str "number", .str "number"]), ("and", .tup [.str "condition", .str "condition"]), ("or", .tup [.str "condition", .str "condition"]), ("not", .tup [.str "condition"])] : List (Str × PV)).lookup w).isSome) st := by unfold P; rw [Phi_g (by decide)]; rfl
@[simp] theorem i_CONDITION_FORMS_0 {n : Nat} {st : Cel} : P n 3006 [.str "item"] st = .ok (.bl false) st := by unfold P; rw [Phi_g (by decide)]; rfl
@[simp] theorem i_CONDITION_FORMS_1 {n : Nat} {st : Cel} : P n 3006 [.str "+"] st = .ok (.bl false) st := by unfold P; rw [Phi_g (by decide)]; rfl
@[simp] theorem i_CONDITION_FORMS_2 {n : Nat} {st : Cel} : P n 3006 [.str "-"] st = .ok (.bl false) st := by unfold P; rw [Phi_g (by decide)]; rfl
@[simp] theorem i_CONDITION_FORMS_3 {n : Nat} {st : Cel} : P n 3006 [.str "*"] st = .ok (.bl false) st := by unfold P; rw [Phi_g (by decide)]; rfl
@[simp] theorem i_CONDITION_FORMS_4 {n : Nat} {st : Cel} : P n 3006 [.str "="] st = .ok (.bl true) st := by unfold P; rw [Phi_g (by decide)]; rfl
@[simp] theorem i_CONDITION_FORMS_5 {n : Nat} {st : Cel} : P n 3006 [.str "<"] st = .ok (.bl true) st := by unfold P; rw [Phi_g (by decide)]; rfl
@[simp] theorem i_CONDITION_FORMS_6 {n : Nat} {st : Cel} : P n 3006 [.str "and"] st = .ok (.bl true) st := by unfold P; rw [Phi_g (by decide)]; rfl
@[simp] theorem i_CONDITION_FORMS_7 {n : Nat} {st : Cel} : P n 3006 [.str "or"] st = .ok (.bl true) st := by unfold P; rw [Phi_g (by decide)]; rfl
@[simp] theorem i_CONDITION_FORMS_8 {n : Nat} {st : Cel} : P n 3006 [.str "not"] st = .ok (.bl true) st := by unfold P; rw [Phi_g (by decide)]; rfl
@[simp] theorem q_0_0 : Ev.eqV (.str "item") (.str "item") = some true := by rw [eqV_str]; decide +kernel
@[simp] theorem q_0_1 : Ev.eqV (.str "item") (.str "+") = some false := by rw [eqV_str]; decide +kernel
@[simp] theorem q_0_2 : Ev.eqV (.str "item") (.str "-") = some false := by rw [eqV_str]; decide +kernel
@[simp] theorem q_0_3 : Ev.eqV (.str "item") (.str "*") = some false := by rw [eqV_str]; decide +kernel
@[simp] theorem q_0_4 : Ev.eqV (.str "item") (.str "=") = some false := by rw [eqV_str]; decide +kernel
@[simp] theorem q_0_5 : Ev.eqV (.str "item") (.str "<") = some false := by rw [eqV_str]; decide +kernel
@[simp] theorem q_0_6 : Ev.eqV (.str "item") (.str "and") = some false := by rw [eqV_str]; decide +kernel
@[simp] theorem q_0_7 : Ev.eqV (.str "item") (.str "or") = some false := by rw [eqV_str]; decide +kernel
@[simp] theorem q_0_8 : Ev.eqV (.str "item") (.str "not") = some false := by rw [eqV_str]; decide +kernel
@[simp] theorem q_1_0 : Ev.eqV (.str "+") (.str "item") = some false := by rw [eqV_str]; decide +kernel
@[simp] theorem q_1_1 : Ev.eqV (.str "+") (.str "+") = some true := by rw [eqV_str]; decide +kernel
@[simp] theorem q_1_2 : Ev.eqV (.str "+") (.str "-") = some false := by rw [eqV_str]; decide +kernel
@[simp] theorem q_1_3 : Ev.eqV (.str "+") (.str "*") = some false := by rw [eqV_str]; decide +kernel
@[simp] theorem q_1_4 : Ev.eqV (.str "+") (.str "=") = some false := by rw [eqV_str]; decide +kernel
@[simp] theorem q_1_5 : Ev.eqV (.str "+") (.str "<") = some false := by rw [eqV_str]; decide +kernel
@[simp] theorem q_1_6 : Ev.eqV (.str "+") (.str "and") = some false := by rw [eqV_str]; decide +kernel
@[simp] theorem q_1_7 : Ev.eqV (.str "+") (.str "or") = some false := by rw [eqV_str]; decide +kernel
@[simp] theorem q_1_8 : Ev.eqV (.str "+") (.str "not") = some false := by rw [eqV_str]; decide +kernel
@[simp] theorem q_2_0 : Ev.eqV (.str "-") (.str "item") = some false := by rw [eqV_str]; decide +kernel
@[simp] theorem q_2_1 : Ev.eqV (.str "-") (.str "+") = some false := by rw [eqV_str]; decide +kernel
@[simp] theorem q_2_2 : Ev.eqV (.str "-") (.str "-") = some true := by rw [eqV_str]; decide +kernel
@[simp] theorem q_2_3 : Ev.eqV (.str "-") (.str "*") = some false := by rw [eqV_str]; decide +kernel
@[simp] theorem q_2_4 : Ev.eqV (.str "-") (.str "=") = some false := by rw [eqV_str]; decide +kernel
@[simp] theorem q_2_5 : Ev.eqV (.str "-") (.str "<") = some false := by rw [eqV_str]; decide +kernel
@[simp] theorem q_2_6 : Ev.eqV (.str "-") (.str "and") = some false := by rw [eqV_str]; decide +kernel
@[simp] theorem q_2_7 : Ev.eqV (.str "-") (.str "or") = some false := by rw [eqV_str]; decide +kernel
@[simp] theorem q_2_8 : Ev.eqV (.str "-") (.str "not") = some false := by rw [eqV_str]; decide +kernel
@[simp] theorem q_3_0 : Ev.eqV (.str "*") (.str "item") = some false := by rw [eqV_str]; decide +kernel
@[simp] theorem q_3_1 : Ev.eqV (.str "*") (.str "+") = some false := by rw [eqV_str]; decide +kernel
@[simp] theorem q_3_2 : Ev.eqV (.str "*") (.str "-") = some false := by rw [eqV_str]; decide +kernel
@[simp] theorem q_3_3 : Ev.eqV (.str "*") (.str "*") = some true := by rw [eqV_str]; decide +kernel
@[simp] theorem q_3_4 : Ev.eqV (.str "*") (.str "=") = some false := by rw [eqV_str]; decide +kernel
@[simp] theorem q_3_5 : Ev.eqV (.str "*") (.str "<") = some false := by rw [eqV_str]; decide +kernel
@[simp] theorem q_3_6 : Ev.eqV (.str "*") (.str "and") = some false := by rw [eqV_str]; decide +kernel
@[simp] theorem q_3_7 : Ev.eqV (.str "*") (.str "or") = some false := by rw [eqV_str]; decide +kernel
@[simp] theorem q_3_8 : Ev.eqV (.str "*") (.str "not") = some false := by rw [eqV_str]; decide +kernel
@[simp] theorem q_4_0 : Ev.eqV (.str "=") (.str "item") = some false := by rw [eqV_str]; decide +kernel
@[simp] theorem q_4_1 : Ev.eqV (.str "=") (.str "+") = some false := by rw [eqV_str]; decide +kernel
@[simp] theorem q_4_2 : Ev.eqV (.str "=") (.str "-") = some false := by rw [eqV_str]; decide +kernel
@[simp] theorem q_4_3 : Ev.eqV (.str "=") (.str "*") = some false := by rw [eqV_str]; decide +kernel
@[simp] theorem q_4_4 : Ev.eqV (.str "=") (.str "=") = some true := by rw [eqV_str]; decide +kernel
@[simp] theorem q_4_5 : Ev.eqV (.str "=") (.str "<") = some false := by rw [eqV_str]; decide +kernel
@[simp] theorem q_4_6 : Ev.eqV (.str "=") (.str "and") = some false := by rw [eqV_str]; decide +kernel
@[simp] theorem q_4_7 : Ev.eqV (.str "=") (.str "or") = some false := by rw [eqV_str]; decide +kernel
@[simp] theorem q_4_8 : Ev.eqV (.str "=") (.str "not") = some false := by rw [eqV_str]; decide +kernel
@[simp] theorem q_5_0 : Ev.eqV (.str "<") (.str "item") = some false := by rw [eqV_str]; decide +kernel
@[simp] theorem q_5_1 : Ev.eqV (.str "<") (.str "+") = some false := by rw [eqV_str]; decide +kernel
@[simp] theorem q_5_2 : Ev.eqV (.str "<") (.str "-") = some false := by rw [eqV_str]; decide +kernel
@[simp] theorem q_5_3 : Ev.eqV (.str "<") (.str "*") = some false := by rw [eqV_str]; decide +kernel
@[simp] theorem q_5_4 : Ev.eqV (.str "<") (.str "=") = some false := by rw [eqV_str]; decide +kernel
@[simp] theorem q_5_5 : Ev.eqV (.str "<") (.str "<") = some true := by rw [eqV_str]; decide +kernel
@[simp] theorem q_5_6 : Ev.eqV (.str "<") (.str "and") = some false := by rw [eqV_str]; decide +kernel
@[simp] theorem q_5_7 : Ev.eqV (.str "<") (.str "or") = some false := by rw [eqV_str]; decide +kernel
@[simp] theorem q_5_8 : Ev.eqV (.str "<") (.str "not") = some false := by rw [eqV_str]; decide +kernel
@[simp] theorem q_6_0 : Ev.eqV (.str "and") (.str "item") = some false := by rw [eqV_str]; decide +kernel
@[simp] theorem q_6_1 : Ev.eqV (.str "and") (.str "+") = some false := by rw [eqV_str]; decide +kernel
@[simp] theorem q_6_2 : Ev.eqV (.str "and") (.str "-") = some false := by rw [eqV_str]; decide +kernel
@[simp] theorem q_6_3 : Ev.eqV (.str "and") (.str "*") = some false := by rw [eqV_str]; decide +kernel
@[simp] theorem q_6_4 : Ev.eqV (.str "and") (.str "=") = some false := by rw [eqV_str]; decide +kernel
@[simp] theorem q_6_5 : Ev.eqV (.str "and") (.str "<") = some false := by rw [eqV_str]; decide +kernel
@[simp] theorem q_6_6 : Ev.eqV (.str "and") (.str "and") = some true := by rw [eqV_str]; decide +kernel
@[simp] theorem q_6_7 : Ev.eqV (.str "and") (.str "or") = some false := by rw [eqV_str]; decide +kernel
@[simp] theorem q_6_8 : Ev.eqV (.str "and") (.str "not") = some false := by rw [eqV_str]; decide +kernel
@[simp] theorem q_7_0 : Ev.eqV (.str "or") (.str "item") = some false := by rw [eqV_str]; decide +kernel
@[simp] theorem q_7_1 : Ev.eqV (.str "or") (.str "+") = some false := by rw [eqV_str]; decide +kernel
@[simp] theorem q_7_2 : Ev.eqV (.str "or") (.str "-") = some false := by rw [eqV_str]; decide +kernel
@[simp] theorem q_7_3 : Ev.eqV (.str "or") (.str "*") = some false := by rw [eqV_str]; decide +kernel
@[simp] theorem q_7_4 : Ev.eqV (.str "or") (.str "=") = some false := by rw [eqV_str]; decide +kernel
@[simp] theorem q_7_5 : Ev.eqV (.str "or") (.str "<") = some false := by rw [eqV_str]; decide +kernel
@[simp] theorem q_7_6 : Ev.eqV (.str "or") (.str "and") = some false := by rw [eqV_str]; decide +kernel
@[simp] theorem q_7_7 : Ev.eqV (.str "or") (.str "or") = some true := by rw [eqV_str]; decide +kernel
@[simp] theorem q_7_8 : Ev.eqV (.str "or") (.str "not") = some false := by rw [eqV_str]; decide +kernel
@[simp] theorem q_8_0 : Ev.eqV (.str "not") (.str "item") = some false := by rw [eqV_str]; decide +kernel
@[simp] theorem q_8_1 : Ev.eqV (.str "not") (.str "+") = some false := by rw [eqV_str]; decide +kernel
@[simp] theorem q_8_2 : Ev.eqV (.str "not") (.str "-") = some false := by rw [eqV_str]; decide +kernel
@[simp] theorem q_8_3 : Ev.eqV (.str "not") (.str "*") = some false := by rw [eqV_str]; decide +kernel
@[simp] theorem q_8_4 : Ev.eqV (.str "not") (.str "=") = some false := by rw [eqV_str]; decide +kernel
@[simp] theorem q_8_5 : Ev.eqV (.str "not") (.str "<") = some false := by rw [eqV_str]; decide +kernel
@[simp] theorem q_8_6 : Ev.eqV (.str "not") (.str "and") = some false := by rw [eqV_str]; decide +kernel
@[simp] theorem q_8_7 : Ev.eqV (.str "not") (.str "or") = some false := by rw [eqV_str]; decide +kernel
@[simp] theorem q_8_8 : Ev.eqV (.str "not") (.str "not") = some true := by rw [eqV_str]; decide +kernel
end K01
namespace K01
open PySem L2 Ev
/-! ### kinds -/
theorem is_integer_ok {n : Nat} {st : Cel} {x : PV} {Q : Kp PV} (hx : x.sm = true) (hn : 1 ≤ n) (q : Q.run (.bl (isI x)) st) : @R.w _ (P n 0 [x] st) Q := by
  obtain ⟨n, rfl⟩ : ∃ k, n = k + 1 := ⟨n - 1, by omega⟩
  apply s_is_integer; unfold b_is_integer
  cases x <;> first | (cases hx; done) | (simpa [isI] using q)
theorem law_is_integer {n : Nat} {st : Cel} {x : PV} {Q : Kp PV} (hx : x.sm = true) (hn : 1 ≤ n) (q : Q.run (.bl (isI x)) st) : @R.w _ (P n 17 [x] st) Q := by
  obtain ⟨n, rfl⟩ : ∃ k, n = k + 1 := ⟨n - 1, by omega⟩
  apply s__law_is_integer; unfold b__law_is_integer
  cases x <;> first | (cases hx; done) | (simpa [isI] using q)
theorem is_number_ok {n : Nat} {st : Cel} {x : PV} {Q : Kp PV} (hx : x.sm = true) (hn : 2 ≤ n) (q : Q.run (.bl (isNu x)) st) : @R.w _ (P n 1 [x] st) Q := by
  obtain ⟨n, rfl⟩ : ∃ k, n = k + 1 := ⟨n - 1, by omega⟩
  apply s_is_number; unfold b_is_number
  simp
  refine is_integer_ok hx (by omega) ?_
  cases x <;> first | (cases hx; done) | (simpa [isI, isNu] using q)
theorem str_len {s : Str} {m : Nat} (h : (PV.str s).bk ≤ m) (hm : m ≤ 150000) : lenV (.str s) = some (.int s.length) := by
  have h : s.length ≤ m := h
  show (if szOk s.length then some (PV.int s.length) else none) = _
  rw [if_pos (szOk_big (by omega))]
theorem is_name_ok {n : Nat} {st : Cel} {x : PV} {Q : Kp PV} (hx : x.sm = true) (hb : x.bk ≤ 150000) (hn : 1 ≤ n) (q : Q.run (.bl (nameB x)) st) : @R.w _ (P n 2 [x] st) Q := by
  obtain ⟨n, rfl⟩ : ∃ k, n = k + 1 := ⟨n - 1, by omega⟩
  apply s_is_name; unfold b_is_name
  cases x with
  | str s =>
    have hl := str_len hb (Nat.le_refl _)
    by_cases h1 : (1 : Int) ≤ s.length
    · by_cases h2 : (s.length : Int) ≤ 8
      · simp [hl, h1, h2]
        unfold signsP
        refine compL_wq (fun c => .bl (low c)) ?_ ?_
        · intro c hc
          refine R.w_is ?_
          simp [w_turn, in_low]
        · have hs : szOk s.cps.size = true := szOk_of (by have : s.cps.size = s.length := rfl; omega)
          have e : nameB (.str s) = s.cps.toList.all low := by
            show (decide (1 ≤ s.length ∧ s.length ≤ 8) && _) = _
            rw [decide_eq_true ⟨by omega, by omega⟩]
            rfl
          rw [e] at q
          simp [hs, allV_map]
          simpa using q
      · simp [hl, h1, h2]
        have e : nameB (.str s) = false := by
          show (decide (1 ≤ s.length ∧ s.length ≤ 8) && _) = _
          rw [decide_eq_false (by omega)]
          rfl
        rw [e] at q
        exact q
    · simp [hl, h1]
      have e : nameB (.str s) = false := by
        show (decide (1 ≤ s.length ∧ s.length ≤ 8) && _) = _
        rw [decide_eq_false (by omega)]
        rfl
      rw [e] at q
      exact q
  | _ => first | (cases hx; done) | (simpa [nameB] using q)
theorem law_is_name {n : Nat} {st : Cel} {x : PV} {Q : Kp PV} (hx : x.sm = true) (hb : x.bk ≤ 150000) (hn : 1 ≤ n) (q : Q.run (.bl (nameB x)) st) : @R.w _ (P n 18 [x] st) Q := by
  obtain ⟨n, rfl⟩ : ∃ k, n = k + 1 := ⟨n - 1, by omega⟩
  apply s__law_is_name; unfold b__law_is_name
  cases x with
  | str s =>
    have hl := str_len hb (Nat.le_refl _)
    by_cases h1 : (0 : Int) < s.length
    · by_cases h2 : (s.length : Int) < 9
      · have h1' : 0 < s.length := by omega
        simp [hl, h1', h2]
        unfold signsP
        refine compL_wfil (fun c => !low c) (fun c => .str ⟨#[c]⟩) ?_ ?_
        · intro c hc
          refine R.w_is ?_
          simp [w_turn, le_a, le_z]
          unfold low
          by_cases h1 : 97 ≤ c <;> by_cases h2 : c ≤ 122 <;> simp [h1, h2] <;> omega
        · have e : nameB (.str s) = s.cps.toList.all low := by
            show (decide (1 ≤ s.length ∧ s.length ≤ 8) && _) = _
            rw [decide_eq_true ⟨by omega, by omega⟩]
            rfl
          rw [e, ← filter_isEmpty] at q
          have hf : (s.cps.toList.filter fun c => !low c).length ≤ 8 := Nat.le_trans (List.length_filter_le ..) (by have : s.cps.toList.length = s.length := rfl; omega)
          have hm : ∀ x ∈ (s.cps.toList.filter fun c => !low c).map (fun c => PV.str ⟨#[c]⟩), x.sm = true ∧ x.dp = 0 := by
            intro x hxx
            obtain ⟨c, hc, rfl⟩ := List.mem_map.mp hxx
            exact ⟨sm_sign s hx c (List.mem_filter.mp hc).1, rfl⟩
          have := eqV_lnil (smL_of fun x h => (hm x h).1) (dpL_of (d := 50) fun x h => by rw [(hm x h).2]; omega)
          have hz := szOk_big (n := (s.cps.toList.filter fun c => !low c).length) (by omega)
          simp [hz, this]
          exact q
      · have h1' : 0 < s.length := by omega
        simp [hl, h1', h2]
        have e : nameB (.str s) = false := by
          show (decide (1 ≤ s.length ∧ s.length ≤ 8) && _) = _
          rw [decide_eq_false (by omega)]
          rfl
        rw [e] at q
        exact q
    · have h1' : ¬ 0 < s.length := by omega
      simp [hl, h1']
      have e : nameB (.str s) = false := by
        show (decide (1 ≤ s.length ∧ s.length ≤ 8) && _) = _
        rw [decide_eq_false (by omega)]
        rfl
      rw [e] at q
      exact q
  | _ => first | (cases hx; done) | (simpa [nameB] using q)
/-! ### sums -/
theorem are_integers_ok {n : Nat} {st : Cel} {x : PV} {Q : Kp PV} (hx : x.sm = true) (hb : x.bk ≤ 150000) (hn : 2 ≤ n) (q : Q.run (.bl (match x with
    | .tup xs => xs.all isI
    | _ => false)) st) : @R.w _ (P n 4 [x] st) Q := by
  obtain ⟨n, rfl⟩ : ∃ k, n = k + 1 := ⟨n - 1, by omega⟩
  apply s_are_integers; unfold b_are_integers
  cases x with
  | tup xs =>
    simp
    refine compL_wmap (fun x => .bl (isI x)) ?_ ?_
    · intro y hy
      refine R.w_is ?_
      simp [w_turn]
      refine is_integer_ok (smL_all hx y hy) (by omega) ?_
      simp
    · have := bkL_len xs
      have hb : PV.bkL xs ≤ 150000 := hb
      simp [szOk_big (show xs.length ≤ 1000000 by omega), allV_map]
      exact q
  | _ => first | (cases hx; done) | (simpa using q)
theorem is_sum_ok {n m : Nat} {st : Cel} {x : PV} {Q : Kp PV} (hx : x.sm = true) (hb : x.bk ≤ 150000) (hn : 3 ≤ n) (q : Q.run (.bl (sumB m x)) st) : @R.w _ (P n 5 [x, .int (m : Nat)] st) Q := by
  obtain ⟨n, rfl⟩ : ∃ k, n = k + 1 := ⟨n - 1, by omega⟩
  apply s_is_sum; unfold b_is_sum
  simp
  refine are_integers_ok hx hb (by omega) ?_
  cases x with
  | tup xs =>
    have e : sumB m (.tup xs) = (xs.all isI && xs.length == m) := rfl
    rw [e] at q
    cases h : xs.all isI with
    | true =>
      rw [h] at q
      simp [h]
      have e : ((xs.length : Int) == (m : Int)) = (xs.length == m) := by rw [Bool.eq_iff_iff, beq_iff_eq, beq_iff_eq]; omega
      simpa [e] using q
    | false => rw [h] at q; simp [h]; simpa using q
  | _ => first | (cases hx; done) | (simpa [sumB] using q)
theorem law_is_sum {n m : Nat} {st : Cel} {x : PV} {Q : Kp PV} (hx : x.sm = true) (hb : x.bk ≤ 150000) (hd : x.dp ≤ 50) (hn : 2 ≤ n) (q : Q.run (.bl (sumB m x)) st) : @R.w _ (P n 26 [x, .int (m : Nat)] st) Q := by
  obtain ⟨n, rfl⟩ : ∃ k, n = k + 1 := ⟨n - 1, by omega⟩
  apply s__law_is_sum; unfold b__law_is_sum
  cases x with
  | tup xs =>
    have e : sumB m (.tup xs) = (xs.all isI && xs.length == m) := rfl
    rw [e] at q
    by_cases hh : xs.length = m
    · subst hh
      simp
      refine compL_wfP (fun x => !isI x) ?_ ?_
      · intro y hy
        refine R.w_is ?_
        simp [w_turn]
        refine law_is_integer (smL_all hx y hy) (by omega) ?_
        cases hi : isI y <;> simp [hi]
      · have := bkL_len xs
        have hb : PV.bkL xs ≤ 150000 := hb
        have hd : PV.dpL xs + 1 ≤ 50 := hd
        have hl : (xs.filter fun x => !isI x).length ≤ xs.length := List.length_filter_le ..
        have hz := szOk_big (n := (xs.filter fun x => !isI x).length) (by omega)
        have hm : ∀ x ∈ xs.filter (fun x => !isI x), x ∈ xs := fun x h => (List.mem_filter.mp h).1
        have := eqV_lnil (smL_of fun x h => smL_all hx x (hm x h)) (dpL_of (d := 50) fun x h => by have := dpL_mem (hm x h); omega)
        rw [filter_isEmpty] at this
        simp [hz, this]
        simpa using q
    · have : ¬ ((xs.length : Int) = m) := by omega
      have e2 : (xs.length == m) = false := by simpa using hh
      rw [e2, Bool.and_false] at q
      simp [this]
      exact q
  | _ => first | (cases hx; done) | (simpa [sumB] using q)
/-! ### sets of sums -/
def upB : List PV → Bool
  | .tup a :: .tup b :: r => (match intsP a, intsP b with
    | some x, some y => HT.lexLt x y
    | _, _ => false) && upB (.tup b :: r)
  | _ => true
def sumsB (m : Nat) : PV → Bool
  | .tup xs => xs.all (sumB m) && upB xs
  | _ => false
def rowsV (rs : List (List Int)) : List PV := rs.map fun r => .tup (zs r)
@[simp] theorem rowsV_len (rs : List (List Int)) : (rowsV rs).length = rs.length := by simp [rowsV]
theorem rows_of {m : Nat} : ∀ {xs : List PV}, xs.all (sumB m) = true → ∃ rs : List (List Int), xs = rowsV rs ∧ ∀ r ∈ rs, r.length = m
  | [], _ => ⟨[], rfl, fun r h => by cases h⟩
  | x :: xs, h => by
    rw [List.all_cons, Bool.and_eq_true] at h
    obtain ⟨rs, rfl, h2⟩ := rows_of h.2
    cases x with
    | tup ys =>
      have h1 : (ys.all isI && ys.length == m) = true := h.1
      rw [Bool.and_eq_true] at h1
      obtain ⟨ns, rfl⟩ := intsP_all h1.1
      refine ⟨ns :: rs, rfl, fun r hr => ?_⟩
      rcases List.mem_cons.mp hr with rfl | hr
      · simpa using h1.2
      · exact h2 r hr
    | _ => cases h.1
theorem upB_cons (a b : List Int) (r : List (List Int)) : upB (rowsV (a :: b :: r)) = (HT.lexLt a b && upB (rowsV (b :: r))) := by
  show ((match intsP (zs a), intsP (zs b) with
    | some x, some y => HT.lexLt x y
    | _, _ => false) && upB (rowsV (b :: r))) = _
  rw [intsP_zs, intsP_zs]
theorem zip_up : ∀ rs : List (List Int), ((rs.zip rs.tail).all fun p => HT.lexLt p.1 p.2) = upB (rowsV rs)
  | [] => rfl
  | [a] => rfl
  | a :: b :: r => by
    rw [upB_cons, ← zip_up (b :: r)]
    rfl
theorem rowsV_zip (rs ss : List (List Int)) : (rowsV rs).zip (rowsV ss) = (rs.zip ss).map fun p => (PV.tup (zs p.1), PV.tup (zs p.2)) := by
  unfold rowsV
  rw [List.zip_map]
  rfl
theorem cut1_rows (rs : List (List Int)) : cutP (rowsV rs) (some 1) none = rowsV rs.tail := by
  cases rs with
  | nil => rfl
  | cons a r => show cutP (PV.tup (zs a) :: rowsV r) (some 1) none = _; rw [cutP_1]; rfl
theorem is_ascending_ok {n : Nat} {st : Cel} {rs : List (List Int)} {Q : Kp PV} (hl : rs.length ≤ 150000) (hn : 1 ≤ n) (q : Q.run (.bl (upB (rowsV rs))) st) : @R.w _ (P n 3 [.tup (rowsV rs)] st) Q := by
  obtain ⟨n, rfl⟩ : ∃ k, n = k + 1 := ⟨n - 1, by omega⟩
  apply s_is_ascending; unfold b_is_ascending
  simp [cut1_rows, rowsV_zip]
  refine compL_wq (fun p => .bl (HT.lexLt p.1 p.2)) ?_ ?_
  · intro p hp
    refine R.w_is ?_
    simp [w_turn, cmpT_zs]
  · have hz := szOk_big (n := rs.length - 1) (by omega)
    rw [← zip_up] at q
    simp [allV_map, hz]
    simpa using q
theorem is_sums_ok {n m : Nat} {st : Cel} {x : PV} {Q : Kp PV} (hx : x.sm = true) (hb : x.bk ≤ 150000) (hn : 4 ≤ n) (q : Q.run (.bl (sumsB m x)) st) : @R.w _ (P n 6 [x, .int (m : Nat)] st) Q := by
  obtain ⟨n, rfl⟩ : ∃ k, n = k + 1 := ⟨n - 1, by omega⟩
  apply s_is_sums; unfold b_is_sums
  cases x with
  | tup xs =>
    have e : sumsB m (.tup xs) = (xs.all (sumB m) && upB xs) := rfl
    rw [e] at q
    have hl := bkL_len xs
    have hb : PV.bkL xs ≤ 150000 := hb
    simp
    refine compL_wmap (fun x => .bl (sumB m x)) ?_ ?_
    · intro y hy
      refine R.w_is ?_
      simp [w_turn]
      refine is_sum_ok (smL_all hx y hy) (by have := bkL_mem hy; omega) (by omega) ?_
      simp
    · simp [szOk_big (show xs.length ≤ 1000000 by omega), allV_map, -List.all_eq_true]
      cases h : xs.all (sumB m) with
      | false =>
        rw [h] at q
        simp
        exact q
      | true =>
        rw [h] at q
        obtain ⟨rs, rfl, hr⟩ := rows_of h
        simp
        refine is_ascending_ok (by rw [rowsV_len] at hl; omega) (by omega) ?_
        simpa using q
  | _ => first | (cases hx; done) | (simpa [sumsB] using q)
theorem row_at {rs : List (List Int)} {i : Int} {j : Nat} (h : i = (j : Int)) (hj : j < rs.length) : atP (rowsV rs) i = some (.tup (zs (rs.getD j []))) := by
  subst h
  rw [atP_nat (by simpa using hj)]
  unfold rowsV
  simp [hj]
theorem range_up : ∀ (rs : List (List Int)) (k : Nat), (∀ r ∈ rs, r.length = k) → ((List.range (rs.length - 1)).all fun j => !leI (rs.getD (j + 1) []) (rs.getD j [])) = upB (rowsV rs)
  | [], _, _ => rfl
  | [a], _, _ => rfl
  | a :: b :: r, k, h => by
    have ih := range_up (b :: r) k fun x hx => h x (List.mem_cons_of_mem _ hx)
    rw [upB_cons, ← ih, lt_not_le (by rw [h a (by simp), h b (by simp)])]
    rw [show (a :: b :: r).length - 1 = ((b :: r).length - 1) + 1 by simp, List.range_succ_eq_map, List.all_cons, List.all_map]
    rfl
theorem law_are_sums {n m : Nat} {st : Cel} {x : PV} {Q : Kp PV} (hx : x.sm = true) (hb : x.bk ≤ 150000) (hd : x.dp ≤ 50) (hn : 3 ≤ n) (q : Q.run (.bl (sumsB m x)) st) : @R.w _ (P n 27 [x, .int (m : Nat)] st) Q := by
  obtain ⟨n, rfl⟩ : ∃ k, n = k + 1 := ⟨n - 1, by omega⟩
  apply s__law_are_sums; unfold b__law_are_sums
  cases x with
  | tup xs =>
    have e : sumsB m (.tup xs) = (xs.all (sumB m) && upB xs) := rfl
    rw [e] at q
    have hl := bkL_len xs
    have hb : PV.bkL xs ≤ 150000 := hb
    have hd : PV.dpL xs + 1 ≤ 50 := hd
    simp
    refine compL_wfP (fun x => !sumB m x) ?_ ?_
    · intro y hy
      refine R.w_is ?_
      simp [w_turn]
      refine law_is_sum (smL_all hx y hy) (by have := bkL_mem hy; omega) (by have := dpL_mem hy; omega) (by omega) ?_
      cases hi : sumB m y <;> simp
    · have hl2 : (xs.filter fun x => !sumB m x).length ≤ xs.length := List.length_filter_le ..
      have hz := szOk_big (n := (xs.filter fun x => !sumB m x).length) (by omega)
      have hm : ∀ x ∈ xs.filter (fun x => !sumB m x), x ∈ xs := fun x h => (List.mem_filter.mp h).1
      have := eqV_lnil (smL_of fun x h => smL_all hx x (hm x h)) (dpL_of (d := 50) fun x h => by have := dpL_mem (hm x h); omega)
      rw [filter_isEmpty] at this
      cases h : xs.all (sumB m) with
      | false =>
        rw [h] at q this
        simp [hz, this]
        exact q
      | true =>
        rw [h] at q this
        simp [hz, this]
        obtain ⟨rs, rfl, hr⟩ := rows_of h
        have hl : rs.length ≤ 150000 := by rw [rowsV_len] at hl; omega
        rw [← range_up rs m hr] at q
        have er : (rng2V (.int 1) (.int (rs.length : Nat))) = some (.lst ((List.range (rs.length - 1)).map fun j => .int ((j : Nat) + 1))) := by
          show (if (rOk 1 && rOk (rs.length : Nat)) = true then some (PV.lst (rngP 1 (rs.length : Nat))) else none) = _
          rw [if_pos (by unfold rOk; simp; omega)]
          unfold rngP
          rw [show ((rs.length : Int) - 1).toNat = rs.length - 1 by omega]
          congr 2
          apply List.map_congr_left
          intro j _
          congr 1
          omega
        simp [er]
        refine compL_wfil (fun j => leI (rs.getD (j + 1) []) (rs.getD j [])) (fun j => .int ((j : Nat) + 1)) ?_ ?_
        · intro j hj
          refine R.w_is ?_
          have hj := List.mem_range.mp hj
          have a1 : atP (rowsV rs) ((j : Int) + 1) = some (.tup (zs (rs.getD (j + 1) []))) := row_at (by omega) (by omega)
          have a2 : atP (rowsV rs) (j : Int) = some (.tup (zs (rs.getD j []))) := row_at (by omega) (by omega)
          simp [w_turn, a1, a2, cmpT_zs, show (j : Int) + 1 - 1 = j by omega]
        · have hl3 : ((List.range (rs.length - 1)).filter fun j => leI (rs.getD (j + 1) []) (rs.getD j [])).length ≤ rs.length := Nat.le_trans (List.length_filter_le ..) (by simp)
          have hz := szOk_big (n := ((List.range (rs.length - 1)).filter fun j => leI (rs.getD (j + 1) []) (rs.getD j [])).length) (by omega)
          have hm : ∀ x ∈ ((List.range (rs.length - 1)).filter fun j => leI (rs.getD (j + 1) []) (rs.getD j [])).map (fun j => PV.int ((j : Nat) + 1)), x.sm = true ∧ x.dp = 0 := by
            intro x hx
            obtain ⟨j, hj, rfl⟩ := List.mem_map.mp hx
            have hj := List.mem_range.mp (List.mem_filter.mp hj).1
            exact ⟨decide_eq_true (Nat.lt_of_le_of_lt (by omega : ((j : Int) + 1).natAbs ≤ 1000000) (by decide +kernel)), rfl⟩
          have h2 := eqV_lnil (smL_of fun x h => (hm x h).1) (dpL_of (d := 50) fun x h => by rw [(hm x h).2]; omega)
          rw [List.isEmpty_map] at h2
          have h3 := filter_isEmpty (fun j => !leI (rs.getD (j + 1) []) (rs.getD j [])) (List.range (rs.length - 1))
          simp only [Bool.not_not] at h3
          rw [h3] at h2
          simp only [Bool.true_and] at q
          generalize (List.range (rs.length - 1)).all (fun j => !leI (rs.getD (j + 1) []) (rs.getD j [])) = bb at h2 q
          generalize (List.range (rs.length - 1)).filter (fun j => leI (rs.getD (j + 1) []) (rs.getD j [])) = L at hz h2 ⊢
          simp [hz, h2]
          exact q
  | _ => first | (cases hx; done) | (simpa [sumsB] using q)
/-! ### words -/
theorem kin_num {w : Str} : (([("item", .tup [.str "name"]), ("+", .tup [.str "number", .str "number"]), ("-", .tup [.str "number", .str "number"]), ("*", .tup [.str "number", .str "number"])] : List (Str × PV)).lookup w).isSome = (plan .n w).isSome := by
  unfold plan
  simp only [List.lookup_cons, beq_iff_eq]
  by_cases h1 : w = "item"
  · subst h1; rfl
  by_cases h2 : w = "+"
  · subst h2; rfl
  by_cases h3 : w = "-"
  · subst h3; rfl
  by_cases h4 : w = "*"
  · subst h4; rfl
  have e1 : (w == "item") = false := by simpa using h1
  have e2 : (w == "+") = false := by simpa using h2
  have e3 : (w == "-") = false := by simpa using h3
  have e4 : (w == "*") = false := by simpa using h4
  simp [e1, e2, e3, e4, h1, h2, h3, h4]
theorem kin_cond {w : Str} : (([("=", .tup [.str "number", .str "number"]), ("<", .tup [.str "number", .str "number"]), ("and", .tup [.str "condition", .str "condition"]), ("or", .tup [.str "condition", .str "condition"]), ("not", .tup [.str "condition"])] : List (Str × PV)).lookup w).isSome = (plan .c w).isSome := by
  unfold plan
  simp only [List.lookup_cons, beq_iff_eq]
  by_cases h1 : w = "="
  · subst h1; rfl
  by_cases h2 : w = "<"
  · subst h2; rfl
  by_cases h3 : w = "and"
  · subst h3; rfl
  by_cases h4 : w = "or"
  · subst h4; rfl
  by_cases h5 : w = "not"
  · subst h5; rfl
  have e1 : (w == "=") = false := by simpa using h1
  have e2 : (w == "<") = false := by simpa using h2
  have e3 : (w == "and") = false := by simpa using h3
  have e4 : (w == "or") = false := by simpa using h4
  have e5 : (w == "not") = false := by simpa using h5
  simp [e1, e2, e3, e4, e5, h1, h2, h3, h4, h5]
@[simp] theorem eq_nn : Ev.eqV (.str "number") (.str "number") = some true := by rw [eqV_str]; decide +kernel
@[simp] theorem eq_cn : Ev.eqV (.str "condition") (.str "number") = some false := by rw [eqV_str]; decide +kernel
theorem is_word_of_ok {n : Nat} {st : Cel} {g : G} {w : Str} {Q : Kp PV} (hn : 1 ≤ n) (q : Q.run (.bl (plan g w).isSome) st) : @R.w _ (P n 8 [.str w, .str g.kind] st) Q := by
  obtain ⟨n, rfl⟩ : ∃ k, n = k + 1 := ⟨n - 1, by omega⟩
  apply s_is_word_of; unfold b_is_word_of
  cases g with
  | n =>
    have e := kin_num (w := w)
    generalize hb : (plan .n w).isSome = bb at e q
    simp [G.kind, k_NUMBER_FORMS, e]
    exact q
  | c =>
    have e := kin_cond (w := w)
    generalize hb : (plan .c w).isSome = bb at e q
    simp [G.kind, k_CONDITION_FORMS, e]
    exact q
def wantsV : Option (List G) → PV
  | none => .tup [.str "name"]
  | some gs => .tup (gs.map fun g => .str g.kind)
theorem plan_cases {g : G} {w : Str} {p : Option (List G)} (h : plan g w = some p) : (g = .n ∧ w = "item" ∧ p = none) ∨ (g = .n ∧ (w = "+" ∨ w = "-" ∨ w = "*") ∧ p = some [.n, .n]) ∨
    (g = .c ∧ (w = "=" ∨ w = "<") ∧ p = some [.n, .n]) ∨ (g = .c ∧ (w = "and" ∨ w = "or") ∧ p = some [.c, .c]) ∨ (g = .c ∧ w = "not" ∧ p = some [.c]) := by
  cases g with
  | n =>
    have h : (if w = "item" then some none else if w = "+" then some (some [G.n, .n]) else if w = "-" then some (some [.n, .n]) else if w = "*" then some (some [.n, .n]) else none) = some p := h
    split at h
    · rename_i e; cases h; exact .inl ⟨rfl, e, rfl⟩
    split at h
    · rename_i e; cases h; exact .inr (.inl ⟨rfl, .inl e, rfl⟩)
    split at h
    · rename_i e; cases h; exact .inr (.inl ⟨rfl, .inr (.inl e), rfl⟩)
    split at h
    · rename_i e; cases h; exact .inr (.inl ⟨rfl, .inr (.inr e), rfl⟩)
    cases h
  | c =>
    have h : (if w = "=" then some (some [G.n, .n]) else if w = "<" then some (some [.n, .n]) else if w = "and" then some (some [.c, .c]) else if w = "or" then some (some [.c, .c]) else if w = "not" then some (some [.c]) else none) = some p := h
    split at h
    · rename_i e; cases h; exact .inr (.inr (.inl ⟨rfl, .inl e, rfl⟩))
    split at h
    · rename_i e; cases h; exact .inr (.inr (.inl ⟨rfl, .inr e, rfl⟩))
    split at h
    · rename_i e; cases h; exact .inr (.inr (.inr (.inl ⟨rfl, .inl e, rfl⟩)))
    split at h
    · rename_i e; cases h; exact .inr (.inr (.inr (.inl ⟨rfl, .inr e, rfl⟩)))
    split at h
    · rename_i e; cases h; exact .inr (.inr (.inr (.inr ⟨rfl, e, rfl⟩)))
    cases h
theorem wants_of_ok {n : Nat} {st : Cel} {g : G} {w : Str} {p : Option (List G)} {Q : Kp PV} (h : plan g w = some p) (hn : 1 ≤ n) (q : Q.run (wantsV p) st) : @R.w _ (P n 7 [.str w] st) Q := by
  obtain ⟨n, rfl⟩ : ∃ k, n = k + 1 := ⟨n - 1, by omega⟩
  apply s_wants_of; unfold b_wants_of
  rcases plan_cases h with ⟨rfl, rfl, rfl⟩ | ⟨rfl, rfl | rfl | rfl, rfl⟩ | ⟨rfl, rfl | rfl, rfl⟩ | ⟨rfl, rfl | rfl, rfl⟩ | ⟨rfl, rfl, rfl⟩ <;> simpa [wantsV, G.kind] using q
theorem plan_item {g : G} {w : Str} {p : Option (List G)} (h : plan g w = some p) : Ev.eqV (.str w) (.str "item") = some p.isNone := by
  rcases plan_cases h with ⟨rfl, rfl, rfl⟩ | ⟨rfl, rfl | rfl | rfl, rfl⟩ | ⟨rfl, rfl | rfl, rfl⟩ | ⟨rfl, rfl | rfl, rfl⟩ | ⟨rfl, rfl, rfl⟩ <;> (rw [eqV_str]; decide +kernel)
theorem is_fit_ok {n : Nat} {st : Cel} {g : G} {x : PV} {Q : Kp PV} (hx : x.sm = true) (hb : x.bk ≤ 150000) (hn : 2 ≤ n) (q : Q.run (.bl (fit g x)) st) : @R.w _ (P n 9 [x, .str g.kind, .non] st) Q := by
  obtain ⟨n, rfl⟩ : ∃ k, n = k + 1 := ⟨n - 1, by omega⟩
  apply s_is_fit; unfold b_is_fit
  simp
  refine is_integer_ok hx (by omega) ?_
  cases x with
  | int i => cases g <;> (simp [isI, G.kind]; exact q)
  | tup xs =>
    cases xs with
    | nil => simp [isI]; exact q
    | cons y ys =>
      have hy : y.sm = true := smL_all hx y (List.mem_cons_self ..)
      have h0 : ¬ ((ys.length : Int) + 1 = 0) := by omega
      cases y with
      | str w =>
        simp [isI, h0]
        refine is_word_of_ok (by omega) ?_
        rw [fit_str] at q
        cases hp : plan g w with
        | none =>
          rw [hp] at q
          simp
          exact q
        | some p =>
          rw [hp] at q
          simp
          refine wants_of_ok hp (by omega) ?_
          have e3 := plan_item hp
          cases p with
          | none =>
            simp [wantsV, e3]
            match ys, q with
            | [], q => simp; exact q
            | [y], q =>
              simp
              refine is_name_ok (smL_all hx y (by simp)) (by have := bkL_mem (xs := [PV.str w, y]) (x := y) (by simp); have : PV.bkL [PV.str w, y] ≤ 150000 := hb; omega) (by omega) ?_
              have q : Q.run (.bl (nameB y)) st := q
              cases hq : nameB y <;> (rw [hq] at q; simp; exact q)
            | y :: z :: r, q =>
              have : ¬ ((r.length : Int) + 1 + 1 + 1 = 2) := by omega
              simp [this]
              exact q
          | some gs =>
            simp [wantsV, e3]
            have q : Q.run (.bl (ys.length == gs.length)) st := q
            by_cases hh : ys.length = gs.length
            · rw [if_pos (by omega)]
              rw [show (ys.length == gs.length) = true by simpa using hh] at q
              exact q
            · rw [if_neg (by omega)]
              rw [show (ys.length == gs.length) = false by simpa using hh] at q
              exact q
      | _ => first | (cases hy; done) | (simp [isI, h0]; exact q)
  | _ => first | (cases hx; done) | (simp [isI]; exact q)
/-! ### the first wrong part -/
abbrev Ent := List Int × G × PV
def entV (e : Ent) : PV := .tup [.tup (zs e.1), e.2.2, .str e.2.1.kind]
def kidE (p : List Int) (g : G) (x : PV) : List Ent := match kidsOf g x with
  | [a] => [(p ++ [1], a.1, a.2)]
  | [a, b] => [(p ++ [1], a.1, a.2), (p ++ [2], b.1, b.2)]
  | _ => []
@[simp] theorem eq_ny : Ev.eqV (.str "name") (.str "name") = some true := by rw [eqV_str]; decide +kernel
@[simp] theorem eq_nu : Ev.eqV (.str "number") (.str "name") = some false := by rw [eqV_str]; decide +kernel
@[simp] theorem eq_nc : Ev.eqV (.str "condition") (.str "name") = some false := by rw [eqV_str]; decide +kernel
theorem cat1 {p : List Int} {k : Int} (h : p.length ≤ 1000) : binV .add (.tup (zs p)) (.tup [.int k]) = some (.tup (zs (p ++ [k]))) := by
  rw [bin_catT (by rw [zs_length]; exact szOk_of (by simp; omega)), zs_snoc]
theorem inner_parts_ok {n : Nat} {st : Cel} {p : List Int} {g : G} {x : PV} {Q : Kp PV} (hx : x.sm = true) (hf : fit g x = true) (hp : p.length ≤ 1000) (hn : 2 ≤ n) (q : Q.run (.lst ((kidE p g x).map entV)) st) : @R.w _ (P n 10 [.tup (zs p), x] st) Q := by
  obtain ⟨n, rfl⟩ : ∃ k, n = k + 1 := ⟨n - 1, by omega⟩
  have c1 := cat1 (k := 1) hp
  have c2 := cat1 (k := 2) hp
  apply s_inner_parts; unfold b_inner_parts
  simp
  refine is_integer_ok hx (by omega) ?_
  cases x with
  | int i => simp [isI]; exact q
  | tup xs =>
    match xs, hf, hx, q with
    | .str w :: ys, hf, hx, q =>
      rw [fit_str] at hf
      have ek : kidE p g (.tup (.str w :: ys)) = (match (match plan g w with
        | some (some gs) => gs.zip ys
        | _ => []) with
        | [a] => [(p ++ [1], a.1, a.2)]
        | [a, b] => [(p ++ [1], a.1, a.2), (p ++ [2], b.1, b.2)]
        | _ => []) := rfl
      rw [ek] at q
      simp [isI]
      cases hpl : plan g w with
      | none => rw [hpl] at hf; cases hf
      | some pp =>
        refine wants_of_ok hpl (by omega) ?_
        rw [hpl] at hf q
        rcases plan_cases hpl with ⟨rfl, rfl, rfl⟩ | ⟨rfl, _, rfl⟩ | ⟨rfl, _, rfl⟩ | ⟨rfl, _, rfl⟩ | ⟨rfl, rfl, rfl⟩
        · simp [wantsV, w_compL_cons, w_compL_nil, w_turn]
          exact q
        all_goals
          match ys, hf, q with
          | [y, z], hf, q =>
            first
              | (simp at hf; done)
              | (simp [wantsV, G.kind, w_compL_cons, w_compL_nil, w_turn, c1, c2]
                 exact q)
          | [y], hf, q =>
            first
              | (simp at hf; done)
              | (simp [wantsV, G.kind, w_compL_cons, w_compL_nil, w_turn, c1, c2]
                 exact q)
          | [], hf, q => simp at hf
          | _ :: _ :: _ :: _, hf, q => simp at hf
  | _ => first | (cases hx; done) | (cases hf; done) | (cases g <;> cases hf; done)
theorem kids_two {g : G} {x : PV} (hf : fit g x = true) : (∃ a b, kidsOf g x = [a, b]) ∨ (∃ a, kidsOf g x = [a]) ∨ kidsOf g x = [] := by
  cases x with
  | tup xs =>
    match xs, hf with
    | .str w :: ys, hf =>
      rw [fit_str] at hf
      rw [kids_str]
      cases hpl : plan g w with
      | none => rw [hpl] at hf; cases hf
      | some pp =>
        rw [hpl] at hf
        rcases plan_cases hpl with ⟨rfl, rfl, rfl⟩ | ⟨rfl, _, rfl⟩ | ⟨rfl, _, rfl⟩ | ⟨rfl, _, rfl⟩ | ⟨rfl, rfl, rfl⟩
        · exact .inr (.inr rfl)
        all_goals
          match ys, hf with
          | [y, z], hf => first | (simp at hf; done) | exact .inl ⟨_, _, rfl⟩
          | [y], hf => first | (simp at hf; done) | exact .inr (.inl ⟨_, rfl⟩)
          | [], hf => simp at hf
          | _ :: _ :: _ :: _, hf => simp at hf
  | _ => exact .inr (.inr rfl)
theorem kidE_of {p : List Int} {g : G} {x : PV} (hf : fit g x = true) : (kidE p g x).map (fun e => (e.2.1, e.2.2)) = kidsOf g x ∧ ∀ e ∈ kidE p g x, e.1.length = p.length + 1 ∧ (e.2.1, e.2.2) ∈ kidsOf g x := by
  unfold kidE
  rcases kids_two hf with ⟨a, b, h⟩ | ⟨a, h⟩ | h <;> (rw [h]; simp)
def WI (D : Nat) (x0 k0 : PV) (st0 : Cel) (good : Bool) (m : Nat) (ρ : En) (st : Cel) : Prop := ∃ (stack : List Ent) (a b c : Slot), ρ = [.val x0, .val k0, .val .non, .own (.lst (stack.map entV).reverse), a, b, c] ∧ st = st0 ∧ m ≤ 150001 ∧
  (stack.map fun e => e.2.2.bk + 1).sum ≤ m ∧ (∀ e ∈ stack, e.1.length + e.2.2.dp < D ∧ e.2.2.sm = true ∧ e.2.2.bk ≤ 150000) ∧ good = stack.all fun e => okF (D - e.1.length) e.2.1 e.2.2
theorem ent_len : ∀ es : List Ent, es.length ≤ (es.map fun e => e.2.2.bk + 1).sum
  | [] => Nat.le_refl _
  | e :: es => by have := ent_len es; simp only [List.length_cons, List.map_cons, List.sum_cons]; omega
theorem wrong_path_ok {n D : Nat} {st : Cel} {g : G} {x : PV} {Q : Kp PV} (hx : x.sm = true) (hb : x.bk ≤ 150000) (hd : x.dp < D) (hD : D ≤ 60) (hn : 4 ≤ n) (q : ∀ v : PV, (v = .non ∨ ∃ p, v = .tup p) → v.isNone = okF D g x → Q.run v st) : @R.w _ (P n 11 [x, .str g.kind, .non] st) Q := by
  obtain ⟨n, rfl⟩ : ∃ k, n = k + 1 := ⟨n - 1, by omega⟩
  apply s_wrong_path; unfold b_wrong_path
  simp
  refine whileL_w (WI D x (.str g.kind) st (okF D g x)) ?_ (x.bk + 1) (by show x.bk + 1 < 1000000; omega) ⟨[([], g, x)], _, _, _, rfl, rfl, by omega, by simp, by simp [hx, hb, hd], by simp⟩
  rintro m ρ s ⟨stack, a, b, c, rfl, rfl, hm0, hm, hent, hg⟩
  cases stack with
  | nil =>
    simp
    exact q .non (.inl rfl) hg.symm
  | cons e r =>
    obtain ⟨p, g1, y⟩ := e
    obtain ⟨h1, h2, h3⟩ := hent _ (List.mem_cons_self ..)
    simp only at h1 h2 h3
    simp only [List.map_cons, List.sum_cons] at hm
    simp [last_snoc]
    obtain ⟨m', rfl⟩ : ∃ m', m = m' + 1 := ⟨m - 1, by omega⟩
    refine ⟨m', rfl, ?_⟩
    have e1 : entV (p, g1, y) = .tup [.tup (zs p), y, .str g1.kind] := rfl
    simp [e1]
    refine is_fit_ok h2 h3 (by omega) ?_
    rw [List.all_cons] at hg
    simp only at hg
    obtain ⟨d, hdd⟩ : ∃ d, D - p.length = d + 1 := ⟨D - p.length - 1, by omega⟩
    rw [hdd, okF] at hg
    cases hf : fit g1 y with
    | false =>
      rw [hf] at hg
      simp
      exact q _ (.inr ⟨_, rfl⟩) (by rw [hg]; rfl)
    | true =>
      rw [hf, Bool.true_and] at hg
      simp
      refine inner_parts_ok h2 hf (by omega) (by omega) ?_
      obtain ⟨k1, k2⟩ := kidE_of (p := p) hf
      have k3 := kids_bk g1 y
      rw [← k1, List.map_map] at k3
      have k3 : ((kidE p g1 y).map fun e => e.2.2.bk + 1).sum ≤ y.bk := k3
      have l1 := ent_len (kidE p g1 y)
      have l2 := ent_len r
      simp [szOk_big (show r.length + (kidE p g1 y).length ≤ 1000000 by omega)]
      refine ⟨kidE p g1 y ++ r, .val (.tup (zs p)), .val y, .val (.str g1.kind), ?_, rfl, by omega, ?_, ?_, ?_⟩
      · simp
      · simp only [List.map_append, List.sum_append]; omega
      · intro e he
        rcases List.mem_append.mp he with he | he
        · obtain ⟨z1, z2⟩ := k2 e he
          obtain ⟨xs, rfl, z3⟩ := kids_mem z2
          have z4 := dpL_mem z3
          have z5 := bkL_mem z3
          simp only at z3 z4 z5
          have h1 : p.length + (PV.dpL xs + 1) < D := h1
          have h3 : PV.bkL xs ≤ 150000 := h3
          exact ⟨by omega, smL_all h2 _ z3, by omega⟩
        · exact hent e (List.mem_cons_of_mem _ he)
      · rw [hg, List.all_append]
        congr 1
        rw [← k1, List.all_map]
        rw [Bool.eq_iff_iff, List.all_eq_true, List.all_eq_true]
        constructor
        · intro h e he
          have := h e he
          obtain ⟨z1, _⟩ := k2 e he
          rw [show D - e.1.length = d by omega]
          exact this
        · intro h e he
          have := h e he
          obtain ⟨z1, _⟩ := k2 e he
          rw [show D - e.1.length = d by omega] at this
          exact this
theorem is_count_ok {n : Nat} {st : Cel} {x : PV} {Q : Kp PV} (hx : x.sm = true) (hb : x.bk ≤ 150000) (hd : x.dp < 20) (hn : 5 ≤ n) (q : Q.run (.bl (okF 20 .n x)) st) : @R.w _ (P n 12 [x] st) Q := by
  obtain ⟨n, rfl⟩ : ∃ k, n = k + 1 := ⟨n - 1, by omega⟩
  apply s_is_count; unfold b_is_count
  simp
  refine wrong_path_ok (g := .n) (D := 20) hx hb hd (by omega) (by omega) fun v h1 h2 => ?_
  simp [h2]
  exact q
theorem is_condition_ok {n : Nat} {st : Cel} {x : PV} {Q : Kp PV} (hx : x.sm = true) (hb : x.bk ≤ 150000) (hd : x.dp < 20) (hn : 5 ≤ n) (q : Q.run (.bl (okF 20 .c x)) st) : @R.w _ (P n 13 [x] st) Q := by
  obtain ⟨n, rfl⟩ : ∃ k, n = k + 1 := ⟨n - 1, by omega⟩
  apply s_is_condition; unfold b_is_condition
  simp
  refine wrong_path_ok (g := .c) (D := 20) hx hb hd (by omega) (by omega) fun v h1 h2 => ?_
  simp [h2]
  exact q
/-! ### the law's own look -/
def planV : Option (Option (List G)) → PV
  | none => .non
  | some none => .str "s"
  | some (some [.n, .n]) => .str "nn"
  | some (some [.c, .c]) => .str "cc"
  | some (some [.c]) => .str "c"
  | _ => .non
theorem d1 : dctV [.str "=", .str "nn", .str "<", .str "nn", .str "and", .str "cc", .str "or", .str "cc", .str "not", .str "c"] = some (.dct [.inr "=", .inr "<", .inr "and", .inr "or", .inr "not"] [.str "nn", .str "nn", .str "cc", .str "cc", .str "c"]) := by
  unfold dctV
  simp only [pairsP, keyP]
  rw [if_pos (by decide +kernel)]
theorem d2 : dctV [.str "item", .str "s", .str "+", .str "nn", .str "-", .str "nn", .str "*", .str "nn"] = some (.dct [.inr "item", .inr "+", .inr "-", .inr "*"] [.str "s", .str "nn", .str "nn", .str "nn"]) := by
  unfold dctV
  simp only [pairsP, keyP]
  rw [if_pos (by decide +kernel)]
theorem g1 (w : Str) : dgetN (.dct [.inr "=", .inr "<", .inr "and", .inr "or", .inr "not"] [.str "nn", .str "nn", .str "cc", .str "cc", .str "c"]) (.str w) = some (planV (plan .c w)) := by
  show some ((valP _ _ (.inr w)).getD .non) = _
  by_cases h1 : w = "="
  · subst h1; rfl
  by_cases h2 : w = "<"
  · subst h2; rfl
  by_cases h3 : w = "and"
  · subst h3; rfl
  by_cases h4 : w = "or"
  · subst h4; rfl
  by_cases h5 : w = "not"
  · subst h5; rfl
  have e : plan .c w = none := by unfold plan; simp [h1, h2, h3, h4, h5]
  rw [e]
  have i1 : ¬ ((Sum.inr "=" : Key) = Sum.inr w) := fun h => h1 (Sum.inr.inj h).symm
  have i2 : ¬ ((Sum.inr "<" : Key) = Sum.inr w) := fun h => h2 (Sum.inr.inj h).symm
  have i3 : ¬ ((Sum.inr "and" : Key) = Sum.inr w) := fun h => h3 (Sum.inr.inj h).symm
  have i4 : ¬ ((Sum.inr "or" : Key) = Sum.inr w) := fun h => h4 (Sum.inr.inj h).symm
  have i5 : ¬ ((Sum.inr "not" : Key) = Sum.inr w) := fun h => h5 (Sum.inr.inj h).symm
  simp only [valP, if_neg i1, if_neg i2, if_neg i3, if_neg i4, if_neg i5]
  rfl
theorem g2 (w : Str) : dgetN (.dct [.inr "item", .inr "+", .inr "-", .inr "*"] [.str "s", .str "nn", .str "nn", .str "nn"]) (.str w) = some (planV (plan .n w)) := by
  show some ((valP _ _ (.inr w)).getD .non) = _
  by_cases h1 : w = "item"
  · subst h1; rfl
  by_cases h2 : w = "+"
  · subst h2; rfl
  by_cases h3 : w = "-"
  · subst h3; rfl
  by_cases h4 : w = "*"
  · subst h4; rfl
  have e : plan .n w = none := by unfold plan; simp [h1, h2, h3, h4]
  rw [e]
  have i1 : ¬ ((Sum.inr "item" : Key) = Sum.inr w) := fun h => h1 (Sum.inr.inj h).symm
  have i2 : ¬ ((Sum.inr "+" : Key) = Sum.inr w) := fun h => h2 (Sum.inr.inj h).symm
  have i3 : ¬ ((Sum.inr "-" : Key) = Sum.inr w) := fun h => h3 (Sum.inr.inj h).symm
  have i4 : ¬ ((Sum.inr "*" : Key) = Sum.inr w) := fun h => h4 (Sum.inr.inj h).symm
  simp only [valP, if_neg i1, if_neg i2, if_neg i3, if_neg i4]
  rfl
theorem eq_gc : Ev.eqV (.str "n") (.str "c") = some false := by rw [eqV_str]; decide +kernel
theorem eq_cc : Ev.eqV (.str "c") (.str "c") = some true := by rw [eqV_str]; decide +kernel
theorem eq_gn : Ev.eqV (.str "n") (.str "n") = some true := by rw [eqV_str]; decide +kernel
theorem eq_cg : Ev.eqV (.str "c") (.str "n") = some false := by rw [eqV_str]; decide +kernel
theorem law_plan {n : Nat} {st : Cel} {g : G} {w : Str} {Q : Kp PV} (hn : 1 ≤ n) (q : Q.run (planV (plan g w)) st) : @R.w _ (P n 19 [.str g.gl, .str w] st) Q := by
  obtain ⟨n, rfl⟩ : ∃ k, n = k + 1 := ⟨n - 1, by omega⟩
  apply s__law_plan; unfold b__law_plan
  cases g with
  | n =>
    simp [G.gl, eq_gc, d2, g2, -eqV_str]
    exact q
  | c =>
    simp [G.gl, eq_cc, d1, g1, -eqV_str]
    exact q
end K01
namespace K01
open PySem L2 Ev
/-! ### the law's own look at an expression -/
theorem len_s : lenV (.str "s") = some (.int 1) := by rfl
theorem len_c : lenV (.str "c") = some (.int 1) := by rfl
theorem len_nn : lenV (.str "nn") = some (.int 2) := by rfl
theorem len_cc : lenV (.str "cc") = some (.int 2) := by rfl
theorem ne_nns : Ev.eqV (.str "nn") (.str "s") = some false := by rw [eqV_str]; decide +kernel
theorem ne_ccs : Ev.eqV (.str "cc") (.str "s") = some false := by rw [eqV_str]; decide +kernel
theorem ne_cs : Ev.eqV (.str "c") (.str "s") = some false := by rw [eqV_str]; decide +kernel
theorem ne_ss : Ev.eqV (.str "s") (.str "s") = some true := by rw [eqV_str]; decide +kernel
theorem law_part_ok {n : Nat} {st : Cel} {g : G} {x : PV} {Q : Kp PV} (hx : x.sm = true) (hb : x.bk ≤ 150000) (hd : x.dp ≤ 50) (hn : 2 ≤ n) (q : Q.run (.bl (fit g x)) st) : @R.w _ (P n 20 [.non, .str g.gl, x] st) Q := by
  obtain ⟨n, rfl⟩ : ∃ k, n = k + 1 := ⟨n - 1, by omega⟩
  apply s__law_part_ok; unfold b__law_part_ok
  cases x with
  | tup xs =>
    have hd : PV.dpL xs + 1 ≤ 50 := hd
    have e0 := eqV_tnil (ys := xs) hx (by omega)
    cases xs with
    | nil => simp [e0]; exact q
    | cons y ys =>
      have hy : y.sm = true := smL_all hx y (List.mem_cons_self ..)
      cases y with
      | str w =>
        simp [e0]
        refine law_plan (by omega) ?_
        rw [fit_str] at q
        cases hpl : plan g w with
        | none =>
          rw [hpl] at q
          simp [planV]
          exact q
        | some pp =>
          rw [hpl] at q
          rcases plan_cases hpl with ⟨rfl, rfl, rfl⟩ | ⟨rfl, _, rfl⟩ | ⟨rfl, _, rfl⟩ | ⟨rfl, _, rfl⟩ | ⟨rfl, rfl, rfl⟩
          · simp [planV, len_s, ne_ss, -eqV_str]
            match ys, q with
            | [], q => simp; exact q
            | [y], q =>
              simp
              refine law_is_name (smL_all hx y (by simp)) (by have := bkL_mem (xs := [PV.str "item", y]) (x := y) (by simp); have : PV.bkL [PV.str "item", y] ≤ 150000 := hb; omega) (by omega) ?_
              have q : Q.run (.bl (nameB y)) st := q
              cases hq : nameB y <;> (rw [hq] at q; simp; exact q)
            | y :: z :: r, q =>
              have : ¬ ((r.length : Int) + 1 + 1 + 1 = 2) := by omega
              simp [this]
              exact q
          all_goals
            simp [planV, len_nn, len_cc, len_c, ne_nns, ne_ccs, ne_cs, -eqV_str]
            match ys, q with
            | [], q => simp; exact q
            | [y], q => simp; exact q
            | [y, z], q => simp; exact q
            | y :: z :: u :: r, q =>
              have : ¬ ((r.length : Int) + 1 + 1 + 1 + 1 = 2) := by omega
              have : ¬ ((r.length : Int) + 1 + 1 + 1 + 1 = 3) := by omega
              simp [*]
              exact q
      | _ => first | (cases hy; done) | (simp [e0]; exact q)
  | int i =>
    cases g with
    | n =>
      simp [G.gl, eq_gn, -eqV_str]
      refine law_is_integer hx (by omega) ?_
      exact q
    | c =>
      simp [G.gl, eq_cg, -eqV_str]
      exact q
  | _ =>
    first
      | (cases hx; done)
      | (cases g with
         | n =>
           simp [G.gl, eq_gn, -eqV_str]
           refine law_is_integer hx (by omega) ?_
           exact q
         | c =>
           simp [G.gl, eq_cg, -eqV_str]
           exact q)
theorem ix_nn0 (st : Cel) : ixV st (.str "nn") (.int 0) = some (.str "n") := by rfl
theorem ix_nn1 (st : Cel) : ixV st (.str "nn") (.int 1) = some (.str "n") := by rfl
theorem ix_cc0 (st : Cel) : ixV st (.str "cc") (.int 0) = some (.str "c") := by rfl
theorem ix_cc1 (st : Cel) : ixV st (.str "cc") (.int 1) = some (.str "c") := by rfl
theorem ix_c0 (st : Cel) : ixV st (.str "c") (.int 0) = some (.str "c") := by rfl
theorem rng_2 : rng1V (.int 2) = some (.lst [.int 0, .int 1]) := by rfl
theorem rng_1 : rng1V (.int 1) = some (.lst [.int 0]) := by rfl
theorem law_wrong : ∀ (d : Nat) {n : Nat} {st : Cel} {g : G} {x : PV} {p : List Int} {Q : Kp PV}, x.sm = true → x.bk ≤ 150000 → x.dp < d → d ≤ 50 → p.length + d ≤ 100 → d + 2 ≤ n → (∀ v : PV, (v = .non ∨ ∃ p, v = .tup p) → v.isNone = okF d g x → Q.run v st) → @R.w _ (P n 21 [.non, .str g.gl, x, .tup (zs p)] st) Q
  | 0, n, st, g, x, p, Q, hx, hb, hd, hD, hp, hn, q => absurd hd (Nat.not_lt_zero _)
  | d + 1, n, st, g, x, p, Q, hx, hb, hd, hD, hp, hn, q => by
    obtain ⟨n, rfl⟩ : ∃ k, n = k + 1 := ⟨n - 1, by omega⟩
    have c1 := cat1 (k := 1) (p := p) (by omega)
    have c2 := cat1 (k := 2) (p := p) (by omega)
    apply s__law_wrong; unfold b__law_wrong
    simp
    refine law_part_ok hx hb (by omega) (by omega) ?_
    have eo : okF (d + 1) g x = (fit g x && (kidsOf g x).all fun q => okF d q.1 q.2) := rfl
    rw [eo] at q
    cases hf : fit g x with
    | false =>
      rw [hf] at q
      simp
      exact q _ (.inr ⟨_, rfl⟩) rfl
    | true =>
      rw [hf, Bool.true_and] at q
      cases x with
      | int i =>
        simp
        exact q _ (.inl rfl) rfl
      | tup xs =>
        match xs, hf, hx, hb, hd, q with
        | .str w :: ys, hf, hx, hb, hd, q =>
          have hb : PV.bkL (.str w :: ys) ≤ 150000 := hb
          have hd : PV.dpL (.str w :: ys) + 1 < d + 1 := hd
          rw [fit_str] at hf
          rw [kids_str] at q
          cases hpl : plan g w with
          | none => rw [hpl] at hf; cases hf
          | some pp =>
            rw [hpl] at hf q
            have e3 := plan_item hpl
            cases pp with
            | none =>
              simp [e3, -eqV_str]
              exact q _ (.inl rfl) rfl
            | some gs =>
              simp [e3, -eqV_str]
              refine law_plan (by omega) ?_
              rw [hpl]
              have hys : ∀ y ∈ ys, y.sm = true ∧ y.bk ≤ 150000 ∧ y.dp < d := fun y hy => by
                have := bkL_mem (List.mem_cons_of_mem (PV.str w) hy)
                have := dpL_mem (List.mem_cons_of_mem (PV.str w) hy)
                exact ⟨smL_all hx y (List.mem_cons_of_mem _ hy), by omega, by omega⟩
              rcases plan_cases hpl with ⟨rfl, rfl, h⟩ | ⟨rfl, _, h⟩ | ⟨rfl, _, h⟩ | ⟨rfl, _, h⟩ | ⟨rfl, rfl, h⟩
              · cases h
              all_goals
                cases h
                match ys, hf, q, hys with
                | [], hf, q, _ => simp at hf
                | _ :: _ :: _ :: _, hf, q, _ => simp at hf
                | [y], hf, q, hys =>
                  first
                    | (simp at hf; done)
                    | (obtain ⟨a1, a2, a3⟩ := hys y (by simp)
                       simp [planV, len_c, rng_1, ix_c0, w_forL_cons, w_forL_nil, bodyL_1, c1, -eqV_str]
                       refine law_wrong d (g := .c) a1 a2 a3 (by omega) (by simp; omega) (by omega) fun v h1 h2 => ?_
                       simp only [List.zip_cons_cons, List.zip_nil_right, List.all_cons, List.all_nil, Bool.and_true] at q
                       rcases h1 with rfl | ⟨pp, rfl⟩
                       · simp [w_forL_nil]
                         exact q _ (.inl rfl) h2
                       · simp
                         exact q _ (.inr ⟨_, rfl⟩) h2)
                | [y, z], hf, q, hys =>
                  first
                    | (simp at hf; done)
                    | (obtain ⟨a1, a2, a3⟩ := hys y (by simp)
                       obtain ⟨b1, b2, b3⟩ := hys z (by simp)
                       simp only [List.zip_cons_cons, List.zip_nil_right, List.all_cons, List.all_nil, Bool.and_true] at q
                       simp [planV, len_nn, len_cc, rng_2, ix_nn0, ix_nn1, ix_cc0, ix_cc1, w_forL_cons, w_forL_nil, bodyL_1, c1, c2, -eqV_str]
                       first
                         | refine law_wrong d (g := .n) a1 a2 a3 (by omega) (by simp; omega) (by omega) fun v h1 h2 => ?_
                         | refine law_wrong d (g := .c) a1 a2 a3 (by omega) (by simp; omega) (by omega) fun v h1 h2 => ?_
                       rw [← h2] at q
                       rcases h1 with rfl | ⟨pp, rfl⟩
                       · simp [planV, len_nn, len_cc, rng_2, ix_nn0, ix_nn1, ix_cc0, ix_cc1, w_forL_cons, w_forL_nil, bodyL_1, c1, c2, -eqV_str]
                         first
                           | refine law_wrong d (g := .n) b1 b2 b3 (by omega) (by simp; omega) (by omega) fun v h1 h2 => ?_
                           | refine law_wrong d (g := .c) b1 b2 b3 (by omega) (by simp; omega) (by omega) fun v h1 h2 => ?_
                         rw [← h2] at q
                         rcases h1 with rfl | ⟨pp, rfl⟩
                         · simp [w_forL_nil]
                           exact q _ (.inl rfl) rfl
                         · simp
                           exact q _ (.inr ⟨_, rfl⟩) rfl
                       · simp
                         exact q _ (.inr ⟨_, rfl⟩) rfl)
      | _ => first | (cases hx; done) | (cases hf; done) | (cases g <;> cases hf; done)
end K01
namespace K01
open PySem L2 Ev
/-! ### the reader, what is drawn -/
/-- the reader, with at most so many draws behind it -/
def Rd (ns : List Int) (T : Nat) (st : Cel) : Prop := ∃ a b c : Int, st = [.lst [.lst (zs ns), .int a, .int b, .int c]] ∧ 0 ≤ a ∧ 0 ≤ b ∧ 0 ≤ c ∧ c ≤ T
theorem Rd.mono {ns : List Int} {T T' : Nat} {st : Cel} (h : Rd ns T st) (hT : T ≤ T') : Rd ns T' st := by
  obtain ⟨a, b, c, e, h1, h2, h3, h4⟩ := h
  exact ⟨a, b, c, e, h1, h2, h3, by omega⟩
theorem draw {ns : List Int} {T n : Nat} {st : Cel} {m : Int} {Q : Kp PV} (h : Rd ns T st) (hT : T < 1000000) (h1 : 1 ≤ m) (h2 : m < 1000000000) (hn : 1 ≤ n) (hQ : ∀ d st', 0 ≤ d → d < m → Rd ns (T + 1) st' → Q.run (.int d) st') : @R.w _ (P n 15 [.cell 0, .int m] st) Q := by
  obtain ⟨n, rfl⟩ : ∃ k, n = k + 1 := ⟨n - 1, by omega⟩
  obtain ⟨a, b, c, rfl, ha, hb, hc, hc2⟩ := h
  apply s__law_draw
  unfold b__law_draw
  simp (disch := omega) [bin_mod, bin_fdiv]
  split
  · exact hQ _ _ (Int.emod_nonneg _ (by omega)) (Int.emod_lt_of_pos _ (by omega)) ⟨_, _, _, rfl, ha, Int.ediv_nonneg hb (by omega), by omega, by omega⟩
  split
  · rename_i hn
    subst hn
    simp (disch := omega) [bin_mod, bin_fdiv, bin_mulc, bin_pow5]
    exact hQ _ _ (Int.emod_nonneg _ (by omega)) (Int.emod_lt_of_pos _ (by omega)) ⟨_, _, _, rfl, by omega, hb, by omega, by omega⟩
  · rename_i hn
    have hl : 0 < ns.length := List.length_pos_iff.mpr hn
    obtain ⟨x, hx, hm⟩ := atP_mem (xs := zs ns) (i := a % (ns.length : Int)) (Int.emod_nonneg _ (by omega)) (by rw [zs_length]; exact Int.emod_lt_of_pos _ (by omega))
    obtain ⟨k, hk, rfl⟩ := List.mem_map.mp hm
    simp (disch := omega) [bin_mod, bin_fdiv, bin_mulc, bin_pow5, hx]
    split
    · rename_i hk
      have : 0 ≤ k / m := Int.ediv_nonneg (by omega) (by omega)
      split
      · exact hQ _ _ (Int.emod_nonneg _ (by omega)) (Int.emod_lt_of_pos _ (by omega)) ⟨_, _, _, rfl, by omega, this, by omega, by omega⟩
      · exact hQ _ _ (Int.emod_nonneg _ (by omega)) (Int.emod_lt_of_pos _ (by omega)) ⟨_, _, _, rfl, by omega, hb, by omega, by omega⟩
    · exact hQ _ _ (Int.emod_nonneg _ (by omega)) (Int.emod_lt_of_pos _ (by omega)) ⟨_, _, _, rfl, by omega, hb, by omega, by omega⟩
theorem pick {xs : List PV} {P : PV → Prop} {i : Int} (h : ∀ x ∈ xs, P x) (h0 : 0 ≤ i) (h1 : i < xs.length) : ∃ x, atP xs i = some x ∧ P x := by
  obtain ⟨x, e, m⟩ := atP_mem h0 h1
  exact ⟨x, e, h x m⟩
theorem law_reader {ns : List Int} {n : Nat} {Q : Kp PV} (hl : ns.length ≤ 63) (hn : 1 ≤ n) (q : Q.run (.lst [.lst (zs ns), .int 0, .int 0, .int 0]) []) : @R.w _ (P n 14 [.rol (ns.map .int)] []) Q := by
  obtain ⟨n, rfl⟩ : ∃ k, n = k + 1 := ⟨n - 1, by omega⟩
  have e : cutP (ns.map PV.int) none (some 63) = zs ns := by
    unfold cutP
    rw [show (63 : Int) = ((63 : Nat) : Int) from rfl, HT.sIx_nat, HT.sIx_none, List.drop_zero, List.take_of_length_le (by rw [List.length_map]; omega)]
    rfl
  apply s__law_reader; unfold b__law_reader
  simp [e]
  exact q
/-! expressions -/
def nms (ss : List Str) : PV := .tup (ss.map .str)
theorem leaf {ss : List Str} {ns : List Int} {T n : Nat} {st : Cel} {Q : Kp PV} (h1 : 1 ≤ ss.length) (h2 : ss.length ≤ 20) (h : Rd ns T st) (hT : T < 900000) (hn : 2 ≤ n) (q : ∀ (x : Ex) st', x.dr ss → x.num → x.sz = 1 → x.dep = 0 → Rd ns (T + 2) st' → Q.run x.pv st') : @R.w _ (P n 22 [.cell 0, nms ss] st) Q := by
  obtain ⟨n, rfl⟩ : ∃ k, n = k + 1 := ⟨n - 1, by omega⟩
  unfold nms
  apply s__law_leaf; unfold b__law_leaf
  simp
  refine draw h (by omega) (by omega) (by omega) (by omega) fun d st1 d0 d1 r1 => ?_
  simp
  split
  · refine draw r1 (by omega) (by omega) (by omega) (by omega) fun d st2 d0 d1 r2 => ?_
    obtain ⟨x, hx, i, rfl, hi⟩ := pick (xs := [.int 0, .int 1, .int 2, .int (-1), .int 3, .int (-7), .int 12, .int 1]) (P := fun x => ∃ i : Int, x = .int i ∧ i.natAbs ≤ 12) (by simp) d0 (by simpa using d1)
    simp [hx]
    exact q (.lit i) st2 hi trivial rfl rfl r2
  · refine draw r1 (by omega) (by omega) (by omega) (by omega) fun d st2 d0 d1 r2 => ?_
    obtain ⟨x, hx, s, rfl, hs⟩ := pick (xs := ss.map PV.str) (P := fun x => ∃ s, x = .str s ∧ s ∈ ss) (by simp) d0 (by simpa using d1)
    simp [hx]
    exact q (.item s) st2 hs trivial rfl rfl r2
theorem number0 {ss : List Str} {ns : List Int} {T n : Nat} {dp : Int} {st : Cel} {Q : Kp PV} (h1 : 1 ≤ ss.length) (h2 : ss.length ≤ 20) (h : Rd ns T st) (hT : T < 800000) (hd : dp < 1) (hn : 3 ≤ n) (q : ∀ (x : Ex) st', x.dr ss → x.num → x.sz = 1 → x.dep = 0 → Rd ns (T + 3) st' → Q.run x.pv st') : @R.w _ (P n 23 [.cell 0, nms ss, .int dp] st) Q := by
  obtain ⟨n, rfl⟩ : ∃ k, n = k + 1 := ⟨n - 1, by omega⟩
  apply s__law_number; unfold b__law_number
  simp
  refine draw h (by omega) (by omega) (by omega) (by omega) fun d st1 d0 d1 r1 => ?_
  simp [hd]
  refine leaf h1 h2 r1 (by omega) (by omega) fun x st2 a b c e r2 => ?_
  simp
  exact q x st2 a b c e r2
def nsz : Nat → Nat
  | 0 => 1
  | k + 1 => 2 * nsz k + 1
def nco : Nat → Nat
  | 0 => 3
  | k + 1 => 2 * nco k + 3
theorem number {ss : List Str} {ns : List Int} (h1 : 1 ≤ ss.length) (h2 : ss.length ≤ 20) : ∀ (k : Nat) {T n : Nat} {st : Cel} {Q : Kp PV}, Rd ns T st → T + nco k < 800000 → k + 3 ≤ n → (∀ (x : Ex) st', x.dr ss → x.num → x.sz ≤ nsz k → x.dep ≤ k → Rd ns (T + nco k) st' → Q.run x.pv st') → @R.w _ (P n 23 [.cell 0, nms ss, .int (k : Nat)] st) Q
  | 0, T, n, st, Q, h, hT, hn, q => number0 h1 h2 h (by unfold nco at hT; omega) (by omega) hn fun x st' a b c d r => q x st' a b (Nat.le_of_eq c) (Nat.le_of_eq d) r
  | k + 1, T, n, st, Q, h, hT, hn, q => by
    obtain ⟨n, rfl⟩ : ∃ k, n = k + 1 := ⟨n - 1, by omega⟩
    have c1 : nco (k + 1) = 2 * nco k + 3 := rfl
    have c2 : nsz (k + 1) = 2 * nsz k + 1 := rfl
    rw [c1] at hT q
    rw [c2] at q
    have c3 : 1 ≤ nsz k := by cases k <;> simp [nsz] <;> omega
    apply s__law_number; unfold b__law_number
    simp
    refine draw h (by omega) (by omega) (by omega) (by omega) fun d st1 d0 d1 r1 => ?_
    have e1 : ¬ ((k : Int) + 1 < 1) := by omega
    have e2 : (k : Int) + 1 - 1 = (k : Nat) := by omega
    simp [e1, e2]
    split
    · refine leaf h1 h2 r1 (by omega) (by omega) fun x st2 a b c e r2 => ?_
      simp
      exact q x st2 a b (by omega) (by omega) (r2.mono (by omega))
    · refine number h1 h2 k r1 (by omega) (by omega) fun x st2 a b c e r2 => ?_
      obtain ⟨w, hw, o, rfl, ho⟩ := pick (xs := [.str "+", .str "-", .str "*"]) (i := d - 1) (P := fun x => ∃ o : W2, x = .str o.s ∧ o.isN = true) (by
        intro x hx
        simp at hx
        rcases hx with rfl | rfl | rfl
        · exact ⟨.add, rfl, rfl⟩
        · exact ⟨.sub, rfl, rfl⟩
        · exact ⟨.mul, rfl, rfl⟩) (by omega) (by simp; omega)
      simp [hw]
      refine number h1 h2 k r2 (by omega) (by omega) fun y st3 a2 b2 c2 e2 r3 => ?_
      simp
      refine q (.n2 o x y) st3 ⟨a, a2⟩ ⟨ho, b, b2⟩ ?_ ?_ (r3.mono (by omega))
      · show x.sz + y.sz + 1 ≤ _; omega
      · show max x.dep y.dep + 1 ≤ _; omega
def csz : Nat → Nat
  | 0 => 3
  | k + 1 => csz k + nsz k + 4
def cco : Nat → Nat
  | 0 => 6
  | k + 1 => cco k + nco k + 9
theorem condition0 {ss : List Str} {ns : List Int} {T n : Nat} {dp : Int} {st : Cel} {Q : Kp PV} (h1 : 1 ≤ ss.length) (h2 : ss.length ≤ 20) (h : Rd ns T st) (hT : T < 700000) (hd : dp < 1) (hn : 4 ≤ n) (q : ∀ (x : Ex) st', x.dr ss → x.cond → x.sz ≤ 3 → x.dep ≤ 1 → Rd ns (T + 6) st' → Q.run x.pv st') : @R.w _ (P n 24 [.cell 0, nms ss, .int dp] st) Q := by
  obtain ⟨n, rfl⟩ : ∃ k, n = k + 1 := ⟨n - 1, by omega⟩
  apply s__law_condition; unfold b__law_condition
  simp
  refine draw h (by omega) (by omega) (by omega) (by omega) fun d st1 d0 d1 r1 => ?_
  simp [hd]
  obtain ⟨w, hw, o, rfl, ho⟩ := pick (xs := [.str "=", .str "<"]) (i := d / 3) (P := fun x => ∃ o : W2, x = .str o.s ∧ o.isR = true) (by
    intro x hx
    simp at hx
    rcases hx with rfl | rfl
    · exact ⟨.eq, rfl, rfl⟩
    · exact ⟨.lt, rfl, rfl⟩) (by omega) (by simp; omega)
  simp (disch := omega) [bin_fdiv, hw]
  refine leaf h1 h2 r1 (by omega) (by omega) fun x st2 a b c d r2 => ?_
  simp
  refine number0 h1 h2 r2 (by omega) (by omega) (by omega) fun y st3 a2 b2 c2 e2 r3 => ?_
  simp
  refine q (.n2 o x y) st3 ⟨a, a2⟩ (.inl ⟨ho, b, b2⟩) ?_ ?_ r3
  · show x.sz + y.sz + 1 ≤ _; omega
  · show max x.dep y.dep + 1 ≤ _; omega
theorem condition {ss : List Str} {ns : List Int} (h1 : 1 ≤ ss.length) (h2 : ss.length ≤ 20) : ∀ (k : Nat) {T n : Nat} {st : Cel} {Q : Kp PV}, Rd ns T st → T + cco k < 700000 → k + 4 ≤ n → (∀ (x : Ex) st', x.dr ss → x.cond → x.sz ≤ csz k → x.dep ≤ k + 1 → Rd ns (T + cco k) st' → Q.run x.pv st') → @R.w _ (P n 24 [.cell 0, nms ss, .int (k : Nat)] st) Q
  | 0, T, n, st, Q, h, hT, hn, q => condition0 h1 h2 h (by unfold cco at hT; omega) (by omega) hn fun x st' a b c d r => q x st' a b c d r
  | k + 1, T, n, st, Q, h, hT, hn, q => by
    obtain ⟨n, rfl⟩ : ∃ k, n = k + 1 := ⟨n - 1, by omega⟩
    have c1 : cco (k + 1) = cco k + nco k + 9 := rfl
    have c2 : csz (k + 1) = csz k + nsz k + 4 := rfl
    rw [c1] at hT q
    rw [c2] at q
    apply s__law_condition; unfold b__law_condition
    simp
    refine draw h (by omega) (by omega) (by omega) (by omega) fun d st1 d0 d1 r1 => ?_
    have e1 : ¬ ((k : Int) + 1 < 1) := by omega
    have e2 : (k : Int) + 1 - 1 = (k : Nat) := by omega
    simp [e1, e2]
    split
    · have e3 : d / 3 = 0 := by omega
      simp (disch := omega) [bin_fdiv, e3]
      refine leaf h1 h2 r1 (by omega) (by omega) fun x st2 a b c e r2 => ?_
      simp
      refine number h1 h2 k r2 (by omega) (by omega) fun y st3 a2 b2 c2 e2 r3 => ?_
      simp
      refine q (.n2 .eq x y) st3 ⟨a, a2⟩ (.inl ⟨rfl, b, b2⟩) ?_ ?_ (r3.mono (by omega))
      · show x.sz + y.sz + 1 ≤ _; omega
      · show max x.dep y.dep + 1 ≤ _; omega
    · refine condition h1 h2 k r1 (by omega) (by omega) fun x st2 a b c e r2 => ?_
      simp
      split
      · refine q (.n1 x) st2 a b ?_ ?_ (r2.mono (by omega))
        · show x.sz + 1 ≤ _; omega
        · show x.dep + 1 ≤ _; omega
      · obtain ⟨w, hw, o, rfl, ho⟩ := pick (xs := [.str "and", .str "or"]) (i := d - 4) (P := fun x => ∃ o : W2, x = .str o.s ∧ o.isL = true) (by
          intro x hx
          simp at hx
          rcases hx with rfl | rfl
          · exact ⟨.and, rfl, rfl⟩
          · exact ⟨.or, rfl, rfl⟩) (by omega) (by simp; omega)
        simp [hw]
        refine condition0 h1 h2 r2 (by omega) (by omega) (by omega) fun y st3 a2 b2 c2 e2 r3 => ?_
        simp
        refine q (.n2 o x y) st3 ⟨a, a2⟩ (.inr ⟨ho, b, b2⟩) ?_ ?_ (r3.mono (by omega))
        · show x.sz + y.sz + 1 ≤ _; omega
        · show max x.dep y.dep + 1 ≤ _; omega
end K01
namespace K01
open PySem L2 Ev
/-! ### a value with one part changed -/
def ctl : Ss := match b__law_changed with
  | .cons _ r => r
  | .nil => .nil
def chd : S := match b__law_changed with
  | .cons s _ => s
  | .nil => .pass
theorem ch_split : b__law_changed = .cons chd ctl := rfl
theorem ctl_w {menu : List PV} {ns : List Int} (hm : ∀ x ∈ menu, DB 0 40 1 x) (hm1 : 1 ≤ menu.length) (hm2 : menu.length ≤ 100) {T n k d : Nat} {st : Cel} {x : PV} {a3 a4 a5 : Slot} {K : Kq} (hr : Rd ns T st) (hT : T < 900000) (hib : x.ib k) (hk : k ≤ 900) (hbk : x.bk ≤ 100000) (hdp : x.dp ≤ d) (hn : 1 ≤ n)
    (q : ∀ y st', y.ib (k + 1) → y.bk ≤ 2 * x.bk + 40 → y.dp ≤ d + 1 → Rd ns (T + 2) st' → K.T y st') : @RS.w (evSs (P n) FU ctl [.val (.cell 0), .val x, .val (.lst menu), a3, a4, a5] st) K := by
  have menu_w : ∀ {i : Int} {st1 : Cel}, 0 ≤ i → i < menu.length → Rd ns (T + 2) st1 → ∃ y, atP menu i = some y ∧ K.T y st1 := by
    intro i st1 h0 h1 r
    obtain ⟨y, e, hy⟩ := pick hm h0 h1
    exact ⟨y, e, q y st1 (ib_mono (by omega) hy.ib) (by have := hy.bk; omega) (by have := hy.dp; omega) r⟩
  unfold ctl b__law_changed
  simp
  refine draw hr (by omega) (by omega) (by omega) (by omega) fun w st1 w0 w1 r1 => ?_
  by_cases e0 : w = 0
  · subst e0
    cases x with
    | tup xs =>
      simp
      exact q _ _ (ib_mono (by omega) (x := .lst xs) hib) (by show PV.bkL xs ≤ _; have : (PV.tup xs).bk = PV.bkL xs := rfl; omega) (by have : (PV.tup xs).dp = (PV.lst xs).dp := rfl; omega) (r1.mono (by omega))
    | lst xs =>
      simp
      exact q _ _ (ib_mono (by omega) (x := .tup xs) hib) (by show PV.bkL xs ≤ _; have : (PV.lst xs).bk = PV.bkL xs := rfl; omega) (by have : (PV.tup xs).dp = (PV.lst xs).dp := rfl; omega) (r1.mono (by omega))
    | rol _ => exact hib.elim
    | cell _ => exact hib.elim
    | dct _ _ => exact hib.elim
    | _ =>
      simp
      refine draw r1 (by omega) (by omega) (by omega) (by omega) fun i st2 i0 i1 r2 => ?_
      obtain ⟨y, e, hy⟩ := menu_w i0 i1 r2
      simp [e]
      exact hy
  · by_cases e1 : w = 1
    · subst e1
      cases x with
      | int j =>
        simp
        refine draw r1 (by omega) (by omega) (by omega) (by omega) fun i st2 i0 i1 r2 => ?_
        obtain ⟨y, e, z, rfl, hz⟩ := pick (xs := [.int 1, .int (-1)]) (P := fun x => ∃ i : Int, x = .int i ∧ i.natAbs ≤ 1) (by simp) i0 (by simpa using i1)
        simp [e]
        have h : j.natAbs ≤ 10 ^ 90 + k := hib
        exact q _ _ (by show (j + z).natAbs ≤ 10 ^ 90 + (k + 1); omega) (by show 0 ≤ _; omega) (by show 0 ≤ _; omega) r2
      | bl b =>
        simp
        refine draw r1 (by omega) (by omega) (by omega) (by omega) fun i st2 i0 i1 r2 => ?_
        obtain ⟨y, e, z, rfl, hz⟩ := pick (xs := [.int 1, .int (-1)]) (P := fun x => ∃ i : Int, x = .int i ∧ i.natAbs ≤ 1) (by simp) i0 (by simpa using i1)
        simp [e]
        refine q _ _ ?_ (by show 0 ≤ _; omega) (by show 0 ≤ _; omega) r2
        show ((if b = true then 1 else 0) + z).natAbs ≤ 10 ^ 90 + (k + 1)
        have : 2 ≤ 10 ^ 90 := by decide +kernel
        split <;> omega
      | str s =>
        have hs : PyData.strOk s = true := hib
        have hl : s.length ≤ 100000 := hbk
        simp
        refine draw r1 (by omega) (by omega) (by omega) (by omega) fun i st2 i0 i1 r2 => ?_
        have ea : binV .add (.str s) (.str "a") = some (.str (s ++ "a")) := by
          show (if szOk (s.length + ("a" : Str).length) then some (PV.str (s ++ "a")) else none) = _
          have la : ("a" : Str).length = 1 := by decide +kernel
          rw [if_pos (szOk_big (by omega))]
        have es : slV (.str s) (some 1) none = some (.str (cutS s (some 1) none)) := by
          show (if szOk s.length then some (PV.str (cutS s (some 1) none)) else none) = _
          rw [if_pos (szOk_big (by omega))]
        have ta : TB (s.length + 1) (s ++ "a") := TB.append ⟨Nat.le_refl _, strOk_low hs⟩ (TB.lit _ (by decide))
        simp [ea, es]
        split
        · exact q _ _ (strOk_of ta.low) (by show (s ++ "a").length ≤ 2 * s.length + 40; have := ta.len; omega) (by show 0 ≤ _; omega) r2
        · refine q _ _ (strOk_of fun c hc => ?_) (by show (cutS s (some 1) none).length ≤ 2 * s.length + 40; have := cutS_length s (some 1) none; omega) (by show 0 ≤ _; omega) r2
          exact strOk_low hs c (List.mem_of_mem_drop (List.mem_of_mem_take (by simpa [cutS] using hc)))
      | rol _ => exact hib.elim
      | cell _ => exact hib.elim
      | dct _ _ => exact hib.elim
      | _ =>
        simp
        refine draw r1 (by omega) (by omega) (by omega) (by omega) fun i st2 i0 i1 r2 => ?_
        obtain ⟨y, e, hy⟩ := menu_w i0 i1 r2
        simp [e]
        exact hy
    · simp [e0, e1]
      refine draw r1 (by omega) (by omega) (by omega) (by omega) fun i st2 i0 i1 r2 => ?_
      obtain ⟨y, e, hy⟩ := menu_w i0 i1 r2
      simp [e]
      exact hy
theorem popI_nat {xs : List PV} {k : Nat} (h1 : k < xs.length) (h2 : xs.length ≤ 1000000) : popI xs (.int (k : Nat)) = some (xs.eraseIdx k) := by
  show (if rOk (k : Int) = true then (ixP xs.length (k : Int)).map (fun m => xs.eraseIdx m) else none) = _
  rw [if_pos (by unfold rOk; simp; omega), ixP_nat h1]
  rfl
theorem insI_nat {xs : List PV} {k : Nat} {x : PV} (h1 : k < xs.length) (h2 : xs.length ≤ 900000) : insI xs (.int (k : Nat)) x = some (xs.take k ++ [x] ++ xs.drop k) := by
  have c : (decide (0 ≤ (k : Int)) && decide ((k : Int) < 2 ^ 62) && szOk (xs.length + 1)) = true := by
    rw [szOk_big (by omega), decide_eq_true (by omega : 0 ≤ (k : Int)), decide_eq_true (by omega : (k : Int) < 2 ^ 62)]
    rfl
  unfold insI
  split
  · rename_i m e
    cases e
    rw [if_pos c, Int.toNat_natCast]
  · rename_i e
    exact absurd rfl (e _)
theorem setI_nat {xs : List PV} {k : Nat} {x : PV} (h1 : k < xs.length) : setI' xs (.int (k : Nat)) x = some (xs.set k x) := by
  show (ixP xs.length (k : Int)).map (fun m => xs.set m x) = _
  rw [ixP_nat h1]
  rfl
/-- the parts behind the change -/
structure NP (k n d : Nat) (zs : List PV) : Prop where
  all : ∀ z ∈ zs, z.ib k ∧ z.dp ≤ d
  bk : PV.bkL zs ≤ n
theorem np_set {k n d i : Nat} {xs : List PV} {x y : PV} (hi : ∀ z ∈ xs, z.ib k) (hd : PV.dpL xs ≤ d) (hb : PV.bkL xs = n) (hx : xs[i]? = some x) (h1 : y.ib (k + 1)) (h2 : y.bk ≤ 2 * x.bk + 40) (h3 : y.dp ≤ d + 1) : NP (k + 1) (2 * n + 40) (d + 1) (xs.set i y) := by
  refine ⟨fun z hz => ?_, ?_⟩
  · rcases List.mem_or_eq_of_mem_set hz with hz | rfl
    · exact ⟨ib_mono (by omega) (hi z hz), by have := dpL_mem hz; omega⟩
    · exact ⟨h1, h3⟩
  · have := bkL_set (y := y) hx
    have := bkL_mem (List.mem_of_getElem? hx)
    omega
theorem np_erase {k n d i : Nat} {xs : List PV} (hi : ∀ z ∈ xs, z.ib k) (hd : PV.dpL xs ≤ d) (hb : PV.bkL xs = n) : NP (k + 1) (2 * n + 40) (d + 1) (xs.eraseIdx i) := by
  refine ⟨fun z hz => ?_, ?_⟩
  · have hz := List.mem_of_mem_eraseIdx hz
    exact ⟨ib_mono (by omega) (hi z hz), by have := dpL_mem hz; omega⟩
  · have := bkL_erase xs i
    omega
theorem np_ins {k n d i : Nat} {xs : List PV} {y : PV} (hi : ∀ z ∈ xs, z.ib k) (hd : PV.dpL xs ≤ d) (hb : PV.bkL xs = n) (h1 : y.ib (k + 1)) (h2 : y.bk + 1 ≤ n + 40 ∨ y.bk + 1 ≤ 41) (h3 : y.dp ≤ d + 1) (hn : 1 ≤ n) : NP (k + 1) (2 * n + 40) (d + 1) (xs.take i ++ [y] ++ xs.drop i) := by
  refine ⟨fun z hz => ?_, ?_⟩
  · rw [List.mem_append, List.mem_append, List.mem_singleton] at hz
    rcases hz with (hz | rfl) | hz
    · have hz := List.mem_of_mem_take hz
      exact ⟨ib_mono (by omega) (hi z hz), by have := dpL_mem hz; omega⟩
    · exact ⟨h1, h3⟩
    · have hz := List.mem_of_mem_drop hz
      exact ⟨ib_mono (by omega) (hi z hz), by have := dpL_mem hz; omega⟩
  · rw [bkL_ins]
    omega
theorem changed {menu : List PV} {ns : List Int} (hm : ∀ x ∈ menu, DB 0 40 1 x) (hm1 : 1 ≤ menu.length) (hm2 : menu.length ≤ 100) : ∀ (d : Nat) {T n k : Nat} {st : Cel} {x : PV} {Q : Kp PV}, Rd ns T st → T + 4 * (d + 1) < 900000 → x.ib k → k ≤ 900 → x.bk ≤ 100000 → x.dp ≤ d → d + 2 ≤ n →
    (∀ y st', y.ib (k + 1) → y.bk ≤ 2 * x.bk + 40 → y.dp ≤ d + 1 → Rd ns (T + 4 * (d + 1)) st' → Q.run y st') → @R.w _ (P n 16 [.cell 0, x, .lst menu] st) Q := by
  intro d
  induction d with
  | zero =>
    intro T n k st x Q hr hT hib hk hbk hdp hn q
    obtain ⟨n, rfl⟩ : ∃ k, n = k + 1 := ⟨n - 1, by omega⟩
    apply s__law_changed
    rw [ch_split]
    unfold chd b__law_changed
    cases x with
    | tup xs => exact absurd hdp (by show ¬ (_ + 1 ≤ 0); omega)
    | lst xs => exact absurd hdp (by show ¬ (_ + 1 ≤ 0); omega)
    | rol _ => exact hib.elim
    | cell _ => exact hib.elim
    | dct _ _ => exact hib.elim
    | _ =>
      simp
      exact ctl_w hm hm1 hm2 hr (by omega) hib hk hbk hdp (by omega) fun y st' a b c r => q y st' a b c (r.mono (by omega))
  | succ d ih =>
    intro T n k st x Q hr hT hib hk hbk hdp hn q
    obtain ⟨n, rfl⟩ : ∃ k, n = k + 1 := ⟨n - 1, by omega⟩
    apply s__law_changed
    rw [ch_split]
    unfold chd b__law_changed
    have tail : ∀ {st1 : Cel} {a3 a4 a5 : Slot}, Rd ns (T + 1) st1 → @RS.w (evSs (P n) FU ctl [.val (.cell 0), .val x, .val (.lst menu), a3, a4, a5] st1) ⟨fun _ st => Q.run .non st, Q.run, fun _ _ => False, fun _ _ => False⟩ := fun r =>
      ctl_w hm hm1 hm2 r (by omega) hib hk hbk hdp (by omega) fun y st' a b c r => q y st' a b c (r.mono (by omega))
    cases x with
    | tup xs =>
      have hb : PV.bkL xs ≤ 100000 := hbk
      have hd : PV.dpL xs ≤ d := Nat.le_of_succ_le_succ hdp
      have hi := ibL_iff.mp (show PV.ibL k xs from hib)
      have hl := bkL_len xs
      simp
      split
      · rename_i h0
        refine draw hr (by omega) (by omega) (by omega) (by omega) fun w st1 w0 w1 r1 => ?_
        simp
        split
        · refine draw r1 (by omega) (by omega) (by omega) (by omega) fun at_ st2 at0 at1 r2 => ?_
          simp
          refine draw r2 (by omega) (by omega) (by omega) (by omega) fun way st3 y0 y1 r3 => ?_
          obtain ⟨at_, rfl⟩ := Int.eq_ofNat_of_zero_le at0
          have ha : at_ < xs.length := by omega
          have hbq : (PV.tup xs).bk = PV.bkL xs := rfl
          obtain ⟨p, hp⟩ : ∃ p, xs[at_]? = some p := ⟨xs[at_], by simp [ha]⟩
          have hp2 : atP xs (at_ : Int) = some p := by rw [atP_nat ha]; exact hp
          have pm := List.mem_of_getElem? hp
          have pb := bkL_mem pm
          have pd := dpL_mem pm
          have fin : ∀ {zs : List PV} {st' : Cel}, NP (k + 1) (2 * PV.bkL xs + 40) (d + 1) zs → Rd ns (T + 4 * (d + 1 + 1)) st' → Q.run (.tup zs) st' := fun z r => by
            have := db_tup z.all z.bk
            exact q _ _ this.ib (by rw [hbq]; exact this.bk) this.dp r
          simp
          split
          · simp [hp2]
            refine ih r3 (by omega) (hi p pm) hk (by omega) (by omega) (by omega) fun y st4 a b c r4 => ?_
            simp [setI_nat ha]
            exact fin (np_set hi hd rfl hp a b (by omega)) (r4.mono (by omega))
          · split
            · simp [popI_nat ha (by omega)]
              exact fin (np_erase hi hd rfl) (r3.mono (by omega))
            · split
              · refine draw r3 (by omega) (by omega) (by omega) (by omega) fun j st4 j0 j1 r4 => ?_
                obtain ⟨y, hy, ym⟩ := atP_mem (xs := xs) j0 j1
                have yb := bkL_mem ym
                have yd := dpL_mem ym
                have ei := insI_nat (x := y) ha (by omega)
                simp only [List.append_assoc, List.cons_append, List.nil_append] at ei
                simp [hy, ei]
                have := np_ins (i := at_) hi hd rfl (ib_mono (by omega) (hi y ym)) (.inl (by omega)) (by omega) (by omega)
                simp only [List.append_assoc, List.cons_append, List.nil_append] at this
                exact fin this (r4.mono (by omega))
              · refine draw r3 (by omega) (by omega) (by omega) (by omega) fun j st4 j0 j1 r4 => ?_
                obtain ⟨y, hy, ym⟩ := pick hm j0 j1
                have ei := insI_nat (x := y) ha (by omega)
                simp only [List.append_assoc, List.cons_append, List.nil_append] at ei
                simp [hy, ei]
                have := np_ins (i := at_) hi hd rfl (ib_mono (by omega) ym.ib) (.inr (by have := ym.bk; omega)) (by have := ym.dp; omega) (by omega)
                simp only [List.append_assoc, List.cons_append, List.nil_append] at this
                exact fin this (r4.mono (by omega))
        · exact tail r1
      · exact tail (hr.mono (by omega))
    | lst xs =>
      have hb : PV.bkL xs ≤ 100000 := hbk
      have hd : PV.dpL xs ≤ d := Nat.le_of_succ_le_succ hdp
      have hi := ibL_iff.mp (show PV.ibL k xs from hib)
      have hl := bkL_len xs
      simp
      split
      · rename_i h0
        refine draw hr (by omega) (by omega) (by omega) (by omega) fun w st1 w0 w1 r1 => ?_
        simp
        split
        · refine draw r1 (by omega) (by omega) (by omega) (by omega) fun at_ st2 at0 at1 r2 => ?_
          simp
          refine draw r2 (by omega) (by omega) (by omega) (by omega) fun way st3 y0 y1 r3 => ?_
          obtain ⟨at_, rfl⟩ := Int.eq_ofNat_of_zero_le at0
          have ha : at_ < xs.length := by omega
          have hbq : (PV.lst xs).bk = PV.bkL xs := rfl
          obtain ⟨p, hp⟩ : ∃ p, xs[at_]? = some p := ⟨xs[at_], by simp [ha]⟩
          have hp2 : atP xs (at_ : Int) = some p := by rw [atP_nat ha]; exact hp
          have pm := List.mem_of_getElem? hp
          have pb := bkL_mem pm
          have pd := dpL_mem pm
          have fin : ∀ {zs : List PV} {st' : Cel}, NP (k + 1) (2 * PV.bkL xs + 40) (d + 1) zs → Rd ns (T + 4 * (d + 1 + 1)) st' → Q.run (.lst zs) st' := fun z r => by
            have := db_lst z.all z.bk
            exact q _ _ this.ib (by rw [hbq]; exact this.bk) this.dp r
          simp
          split
          · simp [hp2]
            refine ih r3 (by omega) (hi p pm) hk (by omega) (by omega) (by omega) fun y st4 a b c r4 => ?_
            simp [setI_nat ha]
            exact fin (np_set hi hd rfl hp a b (by omega)) (r4.mono (by omega))
          · split
            · simp [popI_nat ha (by omega)]
              exact fin (np_erase hi hd rfl) (r3.mono (by omega))
            · split
              · refine draw r3 (by omega) (by omega) (by omega) (by omega) fun j st4 j0 j1 r4 => ?_
                obtain ⟨y, hy, ym⟩ := atP_mem (xs := xs) j0 j1
                have yb := bkL_mem ym
                have yd := dpL_mem ym
                have ei := insI_nat (x := y) ha (by omega)
                simp only [List.append_assoc, List.cons_append, List.nil_append] at ei
                simp [hy, ei]
                have := np_ins (i := at_) hi hd rfl (ib_mono (by omega) (hi y ym)) (.inl (by omega)) (by omega) (by omega)
                simp only [List.append_assoc, List.cons_append, List.nil_append] at this
                exact fin this (r4.mono (by omega))
              · refine draw r3 (by omega) (by omega) (by omega) (by omega) fun j st4 j0 j1 r4 => ?_
                obtain ⟨y, hy, ym⟩ := pick hm j0 j1
                have ei := insI_nat (x := y) ha (by omega)
                simp only [List.append_assoc, List.cons_append, List.nil_append] at ei
                simp [hy, ei]
                have := np_ins (i := at_) hi hd rfl (ib_mono (by omega) ym.ib) (.inr (by have := ym.bk; omega)) (by have := ym.dp; omega) (by omega)
                simp only [List.append_assoc, List.cons_append, List.nil_append] at this
                exact fin this (r4.mono (by omega))
        · exact tail r1
      · exact tail (hr.mono (by omega))
    | rol _ => exact hib.elim
    | cell _ => exact hib.elim
    | dct _ _ => exact hib.elim
    | _ =>
      simp
      exact tail (hr.mono (by omega))
end K01
namespace K01
open PySem L2 Ev
/-! ### values by hand -/
theorem bin_catN {xs ys : List PV} (h : xs.length + ys.length ≤ 10000) : binV .add (.lst xs) (.lst ys) = some (.lst (xs ++ ys)) := bin_cat (szOk_of h)
theorem bin_catM {xs ys : List PV} (h : xs.length + ys.length ≤ 10000) : binV .add (.tup xs) (.tup ys) = some (.tup (xs ++ ys)) := bin_catT (szOk_of h)
theorem cat_N {xs ys : List PV} (h : xs.length + ys.length ≤ 10000) : catV (.lst xs) (.lst ys) = some (.lst (xs ++ ys)) := cat_ok (szOk_of h)
abbrev IT (x : PV) : Prop := DB 5 20000 18 x
mutual
def ibB : PV → Bool
  | .int i => decide (i.natAbs ≤ 10 ^ 60)
  | .str s => PyData.strOk s
  | .tup xs => ibBL xs
  | .lst xs => ibBL xs
  | .non => true
  | .bl _ => true
  | _ => false
def ibBL : List PV → Bool
  | [] => true
  | x :: xs => ibB x && ibBL xs
end
mutual
theorem ibB_ib {k : Nat} : ∀ {x : PV}, ibB x = true → x.ib k
  | .non, _ => trivial
  | .bl _, _ => trivial
  | .int i, h => Nat.le_trans (of_decide_eq_true h) (Nat.le_trans (by decide +kernel) (Nat.le_add_right _ _))
  | .str _, h => h
  | .tup xs, h => ibBL_ib (xs := xs) h
  | .lst xs, h => ibBL_ib (xs := xs) h
  | .rol _, h => by cases h
  | .cell _, h => by cases h
  | .dct _ _, h => by cases h
theorem ibBL_ib {k : Nat} : ∀ {xs : List PV}, ibBL xs = true → PV.ibL k xs
  | [], _ => trivial
  | x :: xs, h => by
    rw [ibBL, Bool.and_eq_true] at h
    exact ⟨ibB_ib h.1, ibBL_ib h.2⟩
end
def itB (n d : Nat) (x : PV) : Bool := ibB x && decide (x.bk ≤ n) && decide (x.dp ≤ d)
theorem itB_db {n d k : Nat} {x : PV} (h : itB n d x = true) : DB k n d x := by
  unfold itB at h
  simp only [Bool.and_eq_true, decide_eq_true_eq] at h
  exact ⟨ibB_ib h.1.1, h.1.2, h.2⟩
theorem itB_all {n d k : Nat} {xs : List PV} (h : xs.all (itB n d) = true) : ∀ x ∈ xs, DB k n d x := fun x hx => itB_db (List.all_eq_true.mp h x hx)
def far : Int := 10 ^ 59
@[irreducible] def aaa : Str := repS 3000 "a"
theorem far_e : binV .pow (.int 10) (.int 59) = some (.int far) := by
  show (if (0 : Int) ≤ 59 ∧ (59 : Int) ≤ 1000000 ∧ (10 : Int).natAbs < 2 ^ 64 then some (PV.int ((10 : Int) ^ (59 : Int).toNat)) else none) = _
  rw [if_pos (by decide)]
  rfl
theorem aaa_e : binV .mul (.str "a") (.int 3000) = some (.str aaa) := by
  have h : (decide ((2 : Int) ≤ 3000) && decide ((3000 : Int) ≤ 100000) && decide (("a" : Str).length ≠ 0) && szOk (("a" : Str).length * (3000 : Int).toNat)) = true := by
    rw [show ("a" : Str).length = 1 by decide +kernel, szOk_of (by decide)]
    decide
  unfold binV
  simp only
  rw [if_pos h]
  unfold aaa
  rfl
theorem rep_mem {c : Nat} : ∀ (n : Nat) (acc : Array Nat), (∀ x ∈ acc.toList, x = c) → ∀ x ∈ ((List.replicate n #[c]).foldl (· ++ ·) acc).toList, x = c
  | 0, acc, h => h
  | n + 1, acc, h => by
    rw [List.replicate_succ, List.foldl_cons]
    refine rep_mem n _ fun x hx => ?_
    rw [Array.toList_append, List.mem_append] at hx
    rcases hx with hx | hx
    · exact h x hx
    · simpa using hx
theorem aaa_it : DB 5 20000 18 (.str aaa) := by
  have e : ("a" : Str).cps = #[97] := by decide +kernel
  refine ⟨?_, ?_, ?_⟩
  · refine strOk_of fun c hc => ?_
    unfold aaa at hc
    have hc : c ∈ ((List.replicate 3000 ("a" : Str).cps).foldl (· ++ ·) #[]).toList := hc
    rw [e] at hc
    rw [rep_mem 3000 #[] (by simp) c hc]
    decide
  · unfold aaa
    show ((List.replicate 3000 ("a" : Str).cps).foldl (· ++ ·) #[]).size ≤ _
    rw [foldl_size, e]
    decide
  · exact Nat.zero_le _
@[irreducible] def wide : List PV := (List.range 300).map fun (k : Nat) => .tup [.int (0 + (k : Nat)), .int (-(0 + (k : Nat)))]
@[simp] theorem wide_len : wide.length = 300 := by simp [wide]
theorem wide_mem : ∀ x ∈ wide, x.ib 5 ∧ x.dp ≤ 17 ∧ x.bk ≤ 2 := by
  intro x hx
  unfold wide at hx
  obtain ⟨k, hk, rfl⟩ := List.mem_map.mp hx
  have hk := List.mem_range.mp hk
  have h : (300 : Nat) ≤ 10 ^ 90 + 5 := by decide +kernel
  refine ⟨⟨?_, ?_, trivial⟩, ?_, ?_⟩
  · show (0 + (k : Int)).natAbs ≤ 10 ^ 90 + 5
    omega
  · show (-(0 + (k : Int))).natAbs ≤ 10 ^ 90 + 5
    omega
  · show max 0 (max 0 0) + 1 ≤ 17
    decide
  · show 0 + 1 + (0 + 1 + 0) ≤ 2
    decide
theorem bkL_le {n : Nat} : ∀ {xs : List PV}, (∀ x ∈ xs, x.bk ≤ n) → PV.bkL xs ≤ xs.length * (n + 1)
  | [], _ => by simp [PV.bkL]
  | x :: xs, h => by
    have := h x (List.mem_cons_self ..)
    have := bkL_le (xs := xs) fun y hy => h y (List.mem_cons_of_mem _ hy)
    rw [PV.bkL, List.length_cons, Nat.succ_mul]
    omega
theorem wide_it {xs : List PV} (h : ∀ x ∈ xs, x ∈ wide ∨ x = .tup [.int 300, .non]) (hl : xs.length ≤ 700) : DB 5 20000 18 (.tup xs) := by
  have h2 : ∀ x ∈ xs, x.ib 5 ∧ x.dp ≤ 17 ∧ x.bk ≤ 2 := by
    intro x hx
    rcases h x hx with h | rfl
    · exact wide_mem x h
    · exact ⟨⟨by show (300 : Int).natAbs ≤ 10 ^ 90 + 5; decide +kernel, trivial, trivial⟩, by decide, by decide⟩
  refine db_tup (d := 17) (fun x hx => ⟨(h2 x hx).1, (h2 x hx).2.1⟩) ?_
  have := bkL_le fun x hx => (h2 x hx).2.2
  omega
theorem plain_values {n : Nat} {st : Cel} {Q : Kp PV} (hn : 1 ≤ n) (q : ∀ xs, xs.length ≤ 100 → (∀ x ∈ xs, IT x) → Q.run (.lst xs) st) : @R.w _ (P n 28 [] st) Q := by
  obtain ⟨n, rfl⟩ : ∃ k, n = k + 1 := ⟨n - 1, by omega⟩
  apply s__law_plain_values; unfold b__law_plain_values
  simp (disch := (simp <;> omega)) [far_e, aaa_e, bin_catN, szOk_of, rng1V_int]
  unfold rngP
  refine compL_wq (fun (k : Nat) => .tup [.int (0 + (k : Nat)), .int (-(0 + (k : Nat)))]) ?_ ?_
  · intro k hk
    refine R.w_is ?_
    simp [w_turn]
  · have e : (List.range 300).map (fun (k : Nat) => PV.tup [.int (0 + (k : Nat)), .int (-(0 + (k : Nat)))]) = wide := by unfold wide; rfl
    rw [show (300 - 0 : Int).toNat = 300 from rfl, e]
    have hc : (cutP wide (some (-1)) none).length ≤ 300 := by
      unfold cutP
      rw [List.length_take, List.length_drop, wide_len]
      omega
    have hm : ∀ x ∈ cutP wide (some (-1)) none, x ∈ wide := fun x hx => List.mem_of_mem_drop (List.mem_of_mem_take hx)
    simp (disch := (simp <;> omega)) [szOk_of, wide_len, bin_catN, bin_catM]
    refine q _ (by simp) ?_
    repeat' refine List.forall_mem_cons.mpr ⟨?_, ?_⟩
    all_goals first
      | exact aaa_it
      | exact fun x hx => absurd hx (by simp)
      | exact wide_it (fun x hx => .inl hx) (by simp)
      | exact wide_it (fun x hx => .inl (List.mem_reverse.mp hx)) (by simp)
      | exact wide_it (fun x hx => (List.mem_append.mp hx).elim .inl fun h => .inl (hm x h)) (by simp; omega)
      | exact wide_it (fun x hx => (List.mem_append.mp hx).elim .inl fun h => .inr (List.mem_singleton.mp h)) (by simp)
      | exact itB_db (by decide +kernel)
/-! ### expressions by hand -/
abbrev vA : PV := .tup [.str "item", .str "coins"]
abbrev vC : PV := .tup [.str "=", .int 0, .int 0]
structure XI (st0 : Cel) (r : List PV) (ρ : En) (st : Cel) : Prop where
  ex : ∃ (xs : List PV) (a1 a2 a5 a6 : Slot), ρ = [.val (.lst xs), a1, a2, .val vA, .val vC, a5, a6] ∧ st = st0 ∧ xs.length + 8 * r.length ≤ 108 ∧ (∀ x ∈ xs, IT x) ∧ ∀ x ∈ r, ∃ s, x = .str s ∧ PyData.strOk s = true ∧ s.length ≤ 10
theorem it_app {xs ys : List PV} (h : ∀ x ∈ xs, IT x) (k : ∀ x ∈ ys, IT x) : ∀ x ∈ xs ++ ys, IT x := fun x hx => (List.mem_append.mp hx).elim (h x) (k x)
theorem it_sign {s : Str} {ys : List PV} (h1 : PyData.strOk s = true) (h2 : s.length ≤ 10) (h3 : ibBL ys = true) (h4 : PV.bkL ys ≤ 1000) (h5 : PV.dpL ys ≤ 10) : IT (.tup (.str s :: ys)) := by
  refine ⟨⟨h1, ibBL_ib h3⟩, ?_, ?_⟩
  · show s.length + 1 + PV.bkL ys ≤ 20000
    omega
  · show max 0 (PV.dpL ys) + 1 ≤ 18
    omega
def deepF : Nat → PV
  | 0 => vC
  | k + 1 => .tup [.str "not", deepF k]
def farF : Nat → PV
  | 0 => vA
  | k + 1 => .tup [.str "+", farF k, .int 1]
structure YI (st0 : Cel) (xs : List PV) (r : List PV) (ρ : En) (st : Cel) : Prop where
  ex : ∃ (a1 a2 : Slot) (k : Nat), ρ = [.val (.lst xs), a1, a2, .val vA, .val vC, .val (deepF k), .val (farF k)] ∧ st = st0 ∧ k + r.length = 10
theorem expressions {n : Nat} {st : Cel} {Q : Kp PV} (hn : 1 ≤ n) (q : ∀ xs, xs.length ≤ 200 → (∀ x ∈ xs, IT x) → Q.run (.lst xs) st) : @R.w _ (P n 29 [] st) Q := by
  obtain ⟨n, rfl⟩ : ∃ k, n = k + 1 := ⟨n - 1, by omega⟩
  apply s__law_expressions; unfold b__law_expressions
  simp (disch := (simp <;> omega)) [bin_catN, szOk_of]
  refine forL_w (XI st) ⟨_, _, _, _, _, rfl, rfl, by simp, itB_all (by decide +kernel), ?_⟩ ?_ ?_
  · repeat' refine List.forall_mem_cons.mpr ⟨?_, ?_⟩
    all_goals first
      | exact fun x hx => absurd hx (by simp)
      | exact ⟨_, rfl, by decide +kernel, by decide +kernel⟩
  · rintro x r ρ st ⟨xs, a1, a2, a5, a6, rfl, rfl, hl, hx, hr⟩
    obtain ⟨s, rfl, h1, h2⟩ := hr x (List.mem_cons_self ..)
    have hl : xs.length + 8 * (r.length + 1) ≤ 108 := hl
    simp (disch := (simp <;> omega)) [bodyL_1, bin_catN, szOk_of]
    refine ⟨_, _, _, _, _, rfl, rfl, ?_, ?_, fun x hx => hr x (List.mem_cons_of_mem _ hx)⟩
    · simp; omega
    · refine it_app hx ?_
      repeat' refine List.forall_mem_cons.mpr ⟨?_, ?_⟩
      all_goals first
        | exact fun x hx => absurd hx (by simp)
        | exact it_sign h1 h2 (by decide +kernel) (by decide +kernel) (by decide +kernel)
  · rintro ρ st ⟨xs, a1, a2, a5, a6, rfl, rfl, hl, hx, hr⟩
    have hl : xs.length ≤ 108 := by simpa using hl
    simp (disch := (simp <;> omega)) [bin_catN, szOk_of, rng1V_int]
    generalize hys : xs ++ _ = ys
    have hy : ys.length ≤ 114 ∧ ∀ x ∈ ys, IT x := by
      subst hys
      exact ⟨by simp; omega, it_app hx (itB_all (by decide +kernel))⟩
    refine forL_w (YI st ys) ⟨_, _, 0, rfl, rfl, by simp [rngP]⟩ ?_ ?_
    · rintro x r ρ st ⟨a1, a2, k, rfl, rfl, hk⟩
      have hk : k + (r.length + 1) = 10 := hk
      simp (disch := (simp <;> omega)) [bodyL_1, szOk_of]
      exact ⟨_, _, k + 1, rfl, rfl, by omega⟩
    · rintro ρ st ⟨a1, a2, k, rfl, rfl, hk⟩
      have hk : k = 10 := by simpa using hk
      subst hk
      simp (disch := (simp <;> omega)) [bin_catN, szOk_of]
      exact q _ (by simp; omega) (it_app hy.2 (itB_all (by decide +kernel)))
end K01
namespace K01
open PySem L2 Ev
/-! ### the law -/
theorem random_sum {ns : List Int} {T n m : Nat} {st : Cel} {Q : Kp PV} (h : Rd ns T st) (hT : T + m < 900000) (hm : m ≤ 100) (hn : 2 ≤ n) (q : ∀ r st', r.length = m → (∀ x ∈ r, x.natAbs ≤ 12) → Rd ns (T + m) st' → Q.run (.tup (zs r)) st') : @R.w _ (P n 25 [.cell 0, .int (m : Nat)] st) Q := by
  obtain ⟨n, rfl⟩ : ∃ k, n = k + 1 := ⟨n - 1, by omega⟩
  apply s__law_random_sum; unfold b__law_random_sum
  simp (disch := omega) [rng1V_int]
  refine compL_w (fun r acc s => ∃ xs : List Int, acc = zs xs ∧ xs.length + r.length = m ∧ (∀ x ∈ xs, x.natAbs ≤ 12) ∧ Rd ns (T + xs.length) s) ⟨[], rfl, by simp [rngP], by simp, h⟩ ?_ ?_
  · rintro x r acc s ⟨xs, rfl, h1, h2, h3⟩
    have h1 : xs.length + (r.length + 1) = m := h1
    simp [w_turn]
    refine draw h3 (by omega) (by omega) (by omega) (by omega) fun d st2 d0 d1 r2 => ?_
    obtain ⟨x, hx, i, rfl, hi⟩ := pick (xs := [.int 0, .int 1, .int (-1), .int 2, .int (-2), .int 12, .int (-12)]) (P := fun x => ∃ i : Int, x = .int i ∧ i.natAbs ≤ 12) (by simp) d0 (by simpa using d1)
    simp [hx]
    refine ⟨xs ++ [i], by rw [zs_snoc], by simp; omega, ?_, by simpa [Nat.add_assoc] using r2⟩
    intro x hx
    rcases List.mem_append.mp hx with hx | hx
    · exact h2 x hx
    · cases List.mem_singleton.mp hx; exact hi
  · rintro ys s ⟨xs, rfl, h1, h2, h3⟩
    have h1 : xs.length = m := by simpa using h1
    simp (disch := omega) [szOk_of]
    exact q xs s h1 h2 (h1 ▸ h3)
def menu : List PV := [.non, .bl true, .int 0, .int (-1), .str "", .str "a", .str "item", .str "=", .tup [], .lst [], .tup [.str "item", .str "x"], .tup [.str "=", .int 0, .int 0], .tup [.int 0], .tup [.int 1, .int 2]]
theorem menu_ok : ∀ x ∈ menu, DB 0 40 1 x := itB_all (by decide +kernel)
theorem Ex.db {ss : List Str} (hs : ∀ s ∈ ss, PyData.strOk s = true ∧ s.length ≤ 8) : ∀ (e : Ex), e.dr ss → e.pv.ib 0
  | .lit i, h => Nat.le_trans (show i.natAbs ≤ 12 from h) (by decide +kernel)
  | .item s, h => ⟨by show PyData.strOk _ = true; decide +kernel, (hs s h).1, trivial⟩
  | .n1 a, h => ⟨by show PyData.strOk _ = true; decide +kernel, Ex.db hs a h, trivial⟩
  | .n2 w a b, h => ⟨by show PyData.strOk _ = true; cases w <;> decide +kernel, Ex.db hs a h.1, Ex.db hs b h.2, trivial⟩
structure SuI (ns : List Int) (T k : Nat) (r acc : List PV) (s : Cel) : Prop where
  ex : ∃ ks : List (List Int), acc = ks.map (fun k => .tup (zs k)) ∧ (∀ x ∈ ks, x.length = 2 ∧ ∀ j ∈ x, j.natAbs ≤ 12) ∧ ks.length + r.length = k ∧ Rd ns (T + 2 * ks.length) s
/-- what is drawn in a turn -/
structure LI (ns : List Int) (r : List PV) (ρ : En) (st : Cel) : Prop where
  ex : ∃ (xs : List PV) (v0 : PV) (a4 a5 a6 a7 a8 a9 a10 a11 a12 a13 : Slot) (k : Nat), ρ = [.val v0, .val (.cell 0), .val (.lst menu), .val (.lst xs), a4, a5, a6, a7, a8, a9, a10, a11, a12, a13] ∧ k + r.length = 14 ∧ xs.length ≤ 300 + 6 * k ∧ (∀ x ∈ xs, IT x) ∧ Rd ns (300 * k) st ∧ ∀ x ∈ r, ∃ i : Int, x = .int i
theorem rowsD {ks : List (List Int)} (h1 : ks.length ≤ 5) (h2 : ∀ x ∈ ks, x.length = 2 ∧ ∀ j ∈ x, j.natAbs ≤ 12) : DB 0 3000 5 (.tup (ks.map fun k => .tup (zs k))) := by
  have h3 : ∀ k : List Int, (∀ j ∈ k, j.natAbs ≤ 12) → PV.ibL 0 (zs k) ∧ PV.dpL (zs k) = 0 ∧ PV.bkL (zs k) = k.length := by
    intro k
    induction k with
    | nil => intro _; exact ⟨trivial, rfl, rfl⟩
    | cons j k ih =>
      intro h
      obtain ⟨a, b, c⟩ := ih fun x hx => h x (List.mem_cons_of_mem _ hx)
      refine ⟨⟨Nat.le_trans (h j (List.mem_cons_self ..)) (by decide +kernel), a⟩, ?_, ?_⟩
      · show max 0 (PV.dpL (zs k)) = 0
        rw [b]; rfl
      · show 0 + 1 + PV.bkL (zs k) = k.length + 1
        rw [c]; omega
  refine DB.mono (db_tup (d := 1) (n := 15) (fun x hx => ?_) ?_) (Nat.le_refl _) (by omega) (by omega)
  · obtain ⟨k, hk, rfl⟩ := List.mem_map.mp hx
    obtain ⟨a, b, c⟩ := h3 k (h2 k hk).2
    exact ⟨a, by show PV.dpL (zs k) + 1 ≤ 1; omega⟩
  · have := bkL_le (n := 2) (xs := ks.map fun k => .tup (zs k)) (fun x hx => by
      obtain ⟨k, hk, rfl⟩ := List.mem_map.mp hx
      obtain ⟨a, b, c⟩ := h3 k (h2 k hk).2
      show PV.bkL (zs k) ≤ 2
      rw [c, (h2 k hk).1]; omega)
    rw [List.length_map] at this
    omega
def nmz : List Str := ["coins", "x"]
theorem nmz_ok : ∀ s ∈ nmz, PyData.strOk s = true ∧ s.length ≤ 8 := by
  intro s hs
  simp only [nmz, List.mem_cons, List.not_mem_nil, or_false] at hs
  rcases hs with rfl | rfl <;> exact ⟨by decide +kernel, by decide +kernel⟩
theorem ex_it {e : Ex} (h : e.dr nmz) (hs : e.sz ≤ 15) (hd : e.dep ≤ 4) : DB 0 3000 5 e.pv := by
  have b := Ex.b3 e (Ex.dr_ok (ss := nmz) (fun s hs => ⟨by have := (nmz_ok s hs).2; omega, strOk_low (nmz_ok s hs).1⟩) e h)
  exact ⟨Ex.db nmz_ok e h, by have := b.bk; omega, by have := b.dp; omega⟩
/-- a value, once changed, twice changed -/
theorem three {ns : List Int} {T n : Nat} {st : Cel} {x : PV} {Q : Kp PV} (hr : Rd ns T st) (hT : T < 800000) (hx : DB 0 3000 5 x) (hn : 20 ≤ n) (q : ∀ y st', DB 1 6040 6 y → Rd ns (T + 24) st' → Q.run y st') : @R.w _ (P n 16 [.cell 0, x, .lst menu] st) Q :=
  changed menu_ok (by decide) (by decide) 5 hr (by omega) hx.ib (by omega) (by have := hx.bk; omega) hx.dp (by omega) fun y st' a b c r => q y st' ⟨a, by have := hx.bk; omega, c⟩ r
theorem three2 {ns : List Int} {T n : Nat} {st : Cel} {x : PV} {Q : Kp PV} (hr : Rd ns T st) (hT : T < 800000) (hx : DB 1 6040 6 x) (hn : 20 ≤ n) (q : ∀ y st', DB 2 12120 7 y → Rd ns (T + 28) st' → Q.run y st') : @R.w _ (P n 16 [.cell 0, x, .lst menu] st) Q :=
  changed menu_ok (by decide) (by decide) 6 hr (by omega) hx.ib (by omega) (by have := hx.bk; omega) hx.dp (by omega) fun y st' a b c r => q y st' ⟨a, by have := hx.bk; omega, c⟩ r
def l1b : Ss := match b_law with
  | .cons _ (.cons _ (.cons _ (.cons (.for_ _ _ b) _))) => b
  | _ => .nil
def l1r : Ss := match l1b with
  | .cons _ (.cons _ r) => r
  | _ => .nil
def l2b : Ss := match b_law with
  | .cons _ (.cons _ (.cons _ (.cons _ (.cons (.for_ _ _ b) _)))) => b
  | _ => .nil
theorem law_split : b_law = (.cons (.asgC 1 (.call 14 (.cons (.var 0) .nil)))
  (.cons (.asg [2] (.lst (.cons .non (.cons (.bl true) (.cons (.int 0) (.cons (.neg (.int 1)) (.cons (.str "") (.cons (.str "a") (.cons (.str "item") (.cons (.str "=") (.cons (.tup .nil) (.cons (.lst .nil) (.cons (.tup (.cons (.str "item") (.cons (.str "x") .nil))) (.cons (.tup (.cons (.str "=") (.cons (.int 0) (.cons (.int 0) .nil)))) (.cons (.tup (.cons (.int 0) .nil)) (.cons (.tup (.cons (.int 1) (.cons (.int 2) .nil))) .nil))))))))))))))))
  (.cons (.asg [3] (.bin .add (.call 28 .nil) (.call 29 .nil)))
  (.cons (.for_ [4] (.rng1 (.int 14)) l1b)
  (.cons (.for_ [5] (.var 3) l2b)
  (.cons (.ret (.bl true)) .nil)))))) := rfl
theorem l1_split : l1b = .cons (.asg [5] (.call 23 (.cons (.var 1) (.cons (.tup (.cons (.str "coins") (.cons (.str "x") .nil))) (.cons (.int 2) .nil))))) (.cons (.if_ (.cmp .eq (.bin .mod (.toInt (.var 4)) (.int 2)) (.int 1)) (.cons (.asg [5] (.call 24 (.cons (.var 1) (.cons (.tup (.cons (.str "coins") (.cons (.str "x") .nil))) (.cons (.int 2) .nil))))) .nil) .nil) l1r) := rfl
theorem it3 {xs : List PV} {x y z : PV} (h : ∀ x ∈ xs, IT x) (hx : DB 0 3000 5 x) (hy : DB 1 6040 6 y) (hz : DB 2 12120 7 z) : ∀ w ∈ xs ++ [x, y, z], IT w := it_app h fun w hw => by
  simp only [List.mem_cons, List.not_mem_nil, or_false] at hw
  rcases hw with rfl | rfl | rfl
  · exact hx.mono (by omega) (by omega) (by omega)
  · exact hy.mono (by omega) (by omega) (by omega)
  · exact hz.mono (by omega) (by omega) (by omega)
theorem turn_rest {ns : List Int} {n T : Nat} {st : Cel} {x v0 : PV} {xs : List PV} {a4 a6 a7 a8 a9 a10 a11 a12 a13 : Slot} {K : Kq} (hx : DB 0 3000 5 x) (hr : Rd ns T st) (hT : T < 700000) (hl : xs.length ≤ 1000) (hxs : ∀ x ∈ xs, IT x) (hn : 30 ≤ n)
    (q : ∀ ys st' b5 b6 b7 b10 b13, ys.length = xs.length + 6 → (∀ y ∈ ys, IT y) → Rd ns (T + 120) st' → K.N [.val v0, .val (.cell 0), .val (.lst menu), .val (.lst ys), a4, b5, b6, b7, a8, a9, b10, a11, a12, b13] st') :
    @RS.w (evSs (P n) FU l1r [.val v0, .val (.cell 0), .val (.lst menu), .val (.lst xs), a4, .val x, a6, a7, a8, a9, a10, a11, a12, a13] st) K := by
  unfold l1r l1b b_law
  simp
  refine draw hr (by omega) (by omega) (by omega) (by omega) fun k st1 k0 k1 r1 => ?_
  rw [Kp_run, rng1V_int k0 (by omega)]
  simp
  refine compL_w (SuI ns (T + 1) k.toNat) ⟨[], rfl, by simp, by simp [rngP], r1.mono (by omega)⟩ ?_ ?_
  · rintro y r' acc s ⟨ks, rfl, hk, hkl, rd3⟩
    simp only [List.length_cons] at hkl
    rw [w_turn]
    simp
    refine random_sum (m := 2) rd3 (by omega) (by omega) (by omega) fun xs st7 hxl hxb r7 => ?_
    simp
    refine ⟨ks ++ [xs], by simp, ?_, by simp; omega, ?_⟩
    · intro y hy
      rcases List.mem_append.mp hy with hy | hy
      · exact hk y hy
      · cases List.mem_singleton.mp hy; exact ⟨hxl, hxb⟩
    · refine r7.mono ?_
      rw [List.length_append]
      simp; omega
  · rintro ys s ⟨ks, rfl, hk, hkl, rd3⟩
    simp only [List.length_nil, Nat.add_zero] at hkl
    have g5 := sset_ok (ks := ks) (by omega) (fun x hx z => by have := (hk x hx).1; rw [z] at this; simp at this)
    have g6 : DB 0 3000 5 (.tup ((ssetR ks).map fun k => .tup (zs k))) := rowsD (by have := ssetR_len (ks := ks); omega) fun x hx => hk x (ssetR_mem hx)
    generalize hv : PV.tup ((ssetR ks).map fun k => .tup (zs k)) = lot at g6
    simp (disch := omega) [szOk_of, g5, w_forL_cons, w_forL_nil, bodyL_1, hv]
    refine three rd3 (by omega) hx (by omega) fun y st2 hy r2 => ?_
    simp
    refine three2 r2 (by omega) hy (by omega) fun z st3 hz r3 => ?_
    simp (disch := first | omega | (simp <;> omega)) [szOk_of, bin_catN, w_forL_cons, w_forL_nil, bodyL_1]
    refine three r3 (by omega) g6 (by omega) fun y2 st4 hy2 r4 => ?_
    simp
    refine three2 r4 (by omega) hy2 (by omega) fun z2 st5 hz2 r5 => ?_
    simp (disch := first | omega | (simp <;> omega)) [szOk_of, bin_catN, w_forL_cons, w_forL_nil, bodyL_1]
    refine q _ _ _ _ _ _ _ ?_ ?_ (r5.mono (by omega))
    · simp
    · have := it3 (it3 hxs hx hy hz) g6 hy2 hz2
      simpa using this
theorem and_ge {x : PV} {st : Cel} {Q : Kp PV} {A : Prop} (hA : Q.run (.bl false) st → A) (h : Q.run (.bl (isNu x)) st) : if isI x = true then @R.w _ (R.of (Option.map PV.bl (cmpV .ge x (.int 0))) st) Q else A := by
  cases x <;> first | (simp [isI]; exact h) | (rw [if_neg (by simp [isI])]; exact hA h)
theorem bls_b3 : ∀ bs : List Bool, B3 (bs.length) 1 (.lst (bs.map .bl)) := by
  intro bs
  have : PV.smL (bs.map .bl) = true ∧ PV.bkL (bs.map .bl) = bs.length ∧ PV.dpL (bs.map .bl) = 0 := by
    induction bs with
    | nil => exact ⟨rfl, rfl, rfl⟩
    | cons b bs ih =>
      obtain ⟨a, b, c⟩ := ih
      refine ⟨by rw [List.map_cons, PV.smL, a]; rfl, ?_, ?_⟩
      · rw [List.map_cons, PV.bkL, b, List.length_cons]
        show 0 + 1 + _ = _
        omega
      · rw [List.map_cons, PV.dpL, c]; rfl
  exact ⟨this.1, Nat.le_of_eq this.2.1, by show PV.dpL _ + 1 ≤ 1; rw [this.2.2]; exact Nat.le_refl _⟩
theorem item_ok {ns : List Int} {n T : Nat} {st : Cel} {x v0 : PV} {a2 a3 a4 a6 a7 a8 a9 a10 a11 a12 a13 : Slot} {K : Kq} (hx : IT x) (hr : Rd ns T st) (hT : T < 800000) (hn : 30 ≤ n)
    (q : ∀ st' b8 b9 b11 b12, Rd ns (T + 1) st' → K.N [.val v0, .val (.cell 0), a2, a3, a4, .val x, a6, a7, b8, b9, a10, b11, b12, a13] st') :
    @RS.w (evSs (P n) FU l2b [.val v0, .val (.cell 0), a2, a3, a4, .val x, a6, a7, a8, a9, a10, a11, a12, a13] st) K := by
  have sm := hx.sm (by omega)
  have bk := hx.bk
  have dp := hx.dp
  obtain ⟨t, ht⟩ := reprV_of (hx.b3 (by omega)) (by omega) (by omega)
  unfold l2b b_law
  simp [ht]
  refine draw hr (by omega) (by omega) (by omega) (by omega) fun m st1 m0 m1 r1 => ?_
  obtain ⟨m, rfl⟩ := Int.eq_ofNat_of_zero_le m0
  simp
  refine law_is_integer sm (by omega) ?_
  simp
  refine law_is_integer sm (by omega) ?_
  rw [Kp_run]
  simp
  refine and_ge (fun h => by simpa using h) ?_
  simp (disch := first | omega | (simp <;> omega)) [szOk_of, cat_N]
  refine law_is_name sm (by omega) (by omega) ?_
  simp
  refine law_is_sum sm (by omega) (by omega) (by omega) ?_
  simp (disch := first | omega | (simp <;> omega)) [szOk_of, cat_N]
  refine law_are_sums sm (by omega) (by omega) (by omega) ?_
  simp
  refine law_is_sum (m := 2) sm (by omega) (by omega) (by omega) ?_
  simp
  refine law_are_sums (m := 2) sm (by omega) (by omega) (by omega) ?_
  simp (disch := first | omega | (simp <;> omega)) [szOk_of, cat_N]
  refine law_wrong 20 (g := .n) (p := []) sm (by omega) (by omega) (by omega) (by simp) (by omega) fun v w1 w2 => ?_
  simp (disch := first | omega | (simp <;> omega)) [szOk_of, w2]
  refine law_wrong 20 (g := .c) (p := []) sm (by omega) (by omega) (by omega) (by simp) (by omega) fun v w1 w3 => ?_
  simp (disch := first | omega | (simp <;> omega)) [szOk_of, w3]
  refine is_integer_ok sm (by omega) ?_
  simp
  refine is_number_ok sm (by omega) ?_
  simp
  refine is_name_ok sm (by omega) (by omega) ?_
  simp (disch := first | omega | (simp <;> omega)) [szOk_of]
  refine is_sum_ok sm (by omega) (by omega) ?_
  simp
  refine is_sums_ok sm (by omega) (by omega) ?_
  simp
  refine is_sum_ok (m := 2) sm (by omega) (by omega) ?_
  simp (disch := first | omega | (simp <;> omega)) [szOk_of, bin_catN]
  refine is_sums_ok (m := 2) sm (by omega) (by omega) ?_
  simp
  refine is_count_ok sm (by omega) (by omega) (by omega) ?_
  simp
  refine is_condition_ok sm (by omega) (by omega) (by omega) ?_
  have b9 := bls_b3 [isI x, isNu x, nameB x, sumB m x, sumsB m x, sumB 2 x, sumsB 2 x, okF 20 .n x, okF 20 .c x]
  obtain ⟨t9, h9⟩ := reprV_of b9 (by simp) (by decide)
  simp only [List.map_cons, List.map_nil] at h9
  simp (disch := first | omega | (simp <;> omega)) [szOk_of, bin_catN, h9, ht]
  exact q _ _ _ _ _ r1
structure VI (ns : List Int) (r : List PV) (ρ : En) (st : Cel) : Prop where
  ex : ∃ (v0 : PV) (a2 a3 a4 a5 a6 a7 a8 a9 a10 a11 a12 a13 : Slot) (T : Nat), ρ = [.val v0, .val (.cell 0), a2, a3, a4, a5, a6, a7, a8, a9, a10, a11, a12, a13] ∧ (∀ x ∈ r, IT x) ∧ T + r.length ≤ 10000 ∧ Rd ns T st
theorem law_ok {ns : List Int} {n : Nat} {Q : Kp PV} (hl : ns.length ≤ 63) (hn : 40 ≤ n) (q : ∀ st, Q.run (.bl true) st) : @R.w _ (P (n + 1) 30 [.rol (ns.map .int)] []) Q := by
  apply s_law; rw [law_split]
  simp
  refine law_reader hl (by omega) ?_
  simp (disch := (simp <;> omega)) [szOk_of]
  refine plain_values (by omega) fun v1 l1 h1 => ?_
  simp
  refine expressions (by omega) fun v2 l2 h2 => ?_
  simp (disch := first | omega | (simp <;> omega)) [bin_catN, rng1V_int]
  refine forL_w (LI ns) ⟨_, _, _, _, _, _, _, _, _, _, _, _, 0, rfl, by simp [rngP], by simp; omega, it_app h1 h2, ⟨0, 0, 0, rfl, by omega, by omega, by omega, by omega⟩, fun x hx => by
    obtain ⟨k, _, rfl⟩ := List.mem_map.mp hx
    exact ⟨_, rfl⟩⟩ ?_ ?_
  · rintro x r ρ st ⟨xs, v0, a4, a5, a6, a7, a8, a9, a10, a11, a12, a13, k, rfl, hk, hxl, hx, hr, hi⟩
    obtain ⟨i, rfl⟩ := hi x (List.mem_cons_self ..)
    have hk : k + (r.length + 1) = 14 := hk
    rw [bodyL_1, l1_split]
    have fin : ∀ {ys : List PV} {st' : Cel} {b5 b6 b7 b10 b13 : Slot}, ys.length = xs.length + 6 → (∀ y ∈ ys, IT y) → Rd ns (300 * (k + 1)) st' → LI ns r [.val v0, .val (.cell 0), .val (.lst menu), .val (.lst ys), .val (.int i), b5, b6, b7, a8, a9, b10, a11, a12, b13] st' := fun h1 h2 h3 =>
      ⟨_, _, _, _, _, _, _, _, _, _, _, _, k + 1, rfl, by omega, by omega, h2, h3, fun x hx => hi x (List.mem_cons_of_mem _ hx)⟩
    simp
    refine number (ss := nmz) (by decide) (by decide) 2 hr (by simp [nco]; omega) (by omega) fun e st1 d1 d2 d3 d4 r1 => ?_
    simp (disch := omega) [bin_mod]
    split
    · refine condition (ss := nmz) (by decide) (by decide) 2 r1 (by simp [nco, cco]; omega) (by omega) fun e st2 d1 d2 d3 d4 r2 => ?_
      simp
      exact turn_rest (ex_it d1 d3 (by omega)) r2 (by simp [nco, cco]; omega) (by omega) hx (by omega) fun ys st' b5 b6 b7 b10 b13 z1 z2 z3 => fin z1 z2 (z3.mono (by simp [nco, cco]; omega))
    · exact turn_rest (ex_it d1 (Nat.le_trans d3 (by decide)) (by omega)) r1 (by simp [nco]; omega) (by omega) hx (by omega) fun ys st' b5 b6 b7 b10 b13 z1 z2 z3 => fin z1 z2 (z3.mono (by simp [nco]; omega))
  · rintro ρ st ⟨xs, v0, a4, a5, a6, a7, a8, a9, a10, a11, a12, a13, k, rfl, hk, hxl, hx, hr, hi⟩
    have hk : k = 14 := by simpa using hk
    subst hk
    simp
    refine forL_w (VI ns) ⟨_, _, _, _, _, _, _, _, _, _, _, _, _, 4200, rfl, hx, by omega, hr.mono (by omega)⟩ ?_ ?_
    · rintro x r ρ st ⟨v0, a2, a3, a4, a5, a6, a7, a8, a9, a10, a11, a12, a13, T, rfl, hx, hT, hr⟩
      have hT : T + (r.length + 1) ≤ 10000 := hT
      rw [bodyL_1]
      simp
      exact item_ok (hx x (List.mem_cons_self ..)) hr (by omega) (by omega) fun st' b8 b9 b11 b12 r1 => ⟨_, _, _, _, _, _, _, _, _, _, _, _, _, _, rfl, fun y hy => hx y (List.mem_cons_of_mem _ hy), by omega, r1⟩
    · rintro ρ st ⟨v0, a2, a3, a4, a5, a6, a7, a8, a9, a10, a11, a12, a13, T, rfl, hx, hT, hr⟩
      simp
      exact q _
theorem plain : ∀ ns : List Int, ns.length ≤ 63 → ∃ st', Phi ds gs FU 50 30 [.rol (ns.map .int)] [] = .ok (.bl true) st' := by
  intro ns hn
  obtain ⟨v, st, e, h⟩ := R.w_eq (law_ok hn (n := 49) (by omega) (Q := ⟨fun v _ => v = .bl true⟩) fun _ => rfl)
  exact ⟨st, by rw [show v = .bl true from h] at e; unfold P at e; exact e⟩
end K01
open PySem PySem.W PyProof.Rows
set_option maxRecDepth 100000 in
set_option maxHeartbeats 0 in
theorem PySem.Challenge.cw_ownrights_k01_kinds_and_forms_holds : PySem.Challenge.rw_ownrights_k01_kinds_and_forms.Holds := by
  w_on; o_law; k_head; (case hw => w_witness2)
  k_fill
  refine Ev.walkG (l := PySem.Challenge.rw_ownrights_k01_kinds_and_forms) (n := 63) (k := 50) (φ := Ev.Phi K01.ds K01.gs K01.FU 50 30) rfl (by decide) rfl ⟨rfl, by decide, by decide⟩ (fun w h Y => PySem.W.kIn_of Y) ?F K01.plain
  case F =>
    intro w mg fa h KX G hmg base hK hG
    refine Ev.law_is (D := K01.D_law) ?T ?G K01.bind_all K01.okD_all ?bi (by decide) rfl rfl hmg
    case T =>
      refine' K01.told_all KX G ?a0 ?l0 ?c0 ?k0 ?a1 ?l1 ?c1 ?k1 ?a2 ?l2 ?c2 ?k2 ?a3 ?l3 ?c3 ?k3 ?a4 ?l4 ?c4 ?k4 ?a5 ?l5 ?c5 ?k5 ?a6 ?l6 ?c6 ?k6 ?a7 ?l7 ?c7 ?k7 ?a8 ?l8 ?c8 ?k8 ?a9 ?l9 ?c9 ?k9 ?a10 ?l10 ?c10 ?k10 ?a11 ?l11 ?c11 ?k11 ?a12 ?l12 ?c12 ?k12 ?a13 ?l13 ?c13 ?k13 ?a14 ?l14 ?c14 ?k14 ?a15 ?l15 ?c15 ?k15 ?a16 ?l16 ?c16 ?k16 ?a17 ?l17 ?c17 ?k17 ?a18 ?l18 ?c18 ?k18 ?a19 ?l19 ?c19 ?k19 ?a20 ?l20 ?c20 ?k20 ?a21 ?l21 ?c21 ?k21 ?a22 ?l22 ?c22 ?k22 ?a23 ?l23 ?c23 ?k23 ?a24 ?l24 ?c24 ?k24 ?a25 ?l25 ?c25 ?k25 ?a26 ?l26 ?c26 ?k26 ?a27 ?l27 ?c27 ?k27 ?a28 ?l28 ?c28 ?k28 ?a29 ?l29 ?c29 ?k29 ?a30 ?l30 ?c30 ?k30
      (case a0 => k_is); (case l0 => k_is); (case c0 => k_is); (case k0 => k_is)
      (case a1 => k_is); (case l1 => k_is); (case c1 => k_is); (case k1 => k_is)
      (case a2 => k_is); (case l2 => k_is); (case c2 => k_is); (case k2 => k_is)
      (case a3 => k_is); (case l3 => k_is); (case c3 => k_is); (case k3 => k_is)
      (case a4 => k_is); (case l4 => k_is); (case c4 => k_is); (case k4 => k_is)
      (case a5 => k_is); (case l5 => k_is); (case c5 => k_is); (case k5 => k_is)
      (case a6 => k_is); (case l6 => k_is); (case c6 => k_is); (case k6 => k_is)
      (case a7 => k_is); (case l7 => k_is); (case c7 => k_is); (case k7 => k_is)
      (case a8 => k_is); (case l8 => k_is); (case c8 => k_is); (case k8 => k_is)
      (case a9 => k_is); (case l9 => k_is); (case c9 => k_is); (case k9 => k_is)
      (case a10 => k_is); (case l10 => k_is); (case c10 => k_is); (case k10 => k_is)
      (case a11 => k_is); (case l11 => k_is); (case c11 => k_is); (case k11 => k_is)
      (case a12 => k_is); (case l12 => k_is); (case c12 => k_is); (case k12 => k_is)
      (case a13 => k_is); (case l13 => k_is); (case c13 => k_is); (case k13 => k_is)
      (case a14 => k_is); (case l14 => k_is); (case c14 => k_is); (case k14 => k_is)
      (case a15 => k_is); (case l15 => k_is); (case c15 => k_is); (case k15 => k_is)
      (case a16 => k_is); (case l16 => k_is); (case c16 => k_is); (case k16 => k_is)
      (case a17 => k_is); (case l17 => k_is); (case c17 => k_is); (case k17 => k_is)
      (case a18 => k_is); (case l18 => k_is); (case c18 => k_is); (case k18 => k_is)
      (case a19 => k_is); (case l19 => k_is); (case c19 => k_is); (case k19 => k_is)
      (case a20 => k_is); (case l20 => k_is); (case c20 => k_is); (case k20 => k_is)
      (case a21 => k_is); (case l21 => k_is); (case c21 => k_is); (case k21 => k_is)
      (case a22 => k_is); (case l22 => k_is); (case c22 => k_is); (case k22 => k_is)
      (case a23 => k_is); (case l23 => k_is); (case c23 => k_is); (case k23 => k_is)
      (case a24 => k_is); (case l24 => k_is); (case c24 => k_is); (case k24 => k_is)
      (case a25 => k_is); (case l25 => k_is); (case c25 => k_is); (case k25 => k_is)
      (case a26 => k_is); (case l26 => k_is); (case c26 => k_is); (case k26 => k_is)
      (case a27 => k_is); (case l27 => k_is); (case c27 => k_is); (case k27 => k_is)
      (case a28 => k_is); (case l28 => k_is); (case c28 => k_is); (case k28 => k_is)
      (case a29 => k_is); (case l29 => k_is); (case c29 => k_is); (case k29 => k_is)
      (case a30 => k_is); (case l30 => k_is); (case c30 => k_is); (case k30 => k_is)
    case G =>
      refine And.intro ?_ ?_
      · refine' Ev.g_con KX G ?a ?c; (case a => k_is); (case c =>
          exact Ev.co_str)
      refine And.intro ?_ ?_
      · refine' Ev.g_con KX G ?a ?c; (case a => k_is); (case c =>
          exact Ev.co_int)
      refine And.intro ?_ ?_
      · refine' Ev.g_con KX G ?a ?c; (case a => k_is); (case c =>
          exact Ev.co_str)
      refine And.intro ?_ ?_
      · refine' Ev.g_con KX G ?a ?c; (case a => k_is); (case c =>
          exact Ev.co_str)
      refine And.intro ?_ ?_
      · refine' Ev.g_con KX G ?a ?c; (case a => k_is); (case c =>
          exact Ev.co_str)
      refine And.intro ?_ ?_
      · refine' Ev.g_tab KX G ?a ?l ?k ?d ?c; (case a => k_is); (case l => k_is); (case k => k_keys); (case d => decide); (case c =>
          refine And.intro ⟨_, rfl⟩ (And.intro ?_ ?_)
          · refine' Ev.co_tup ?l ?s ?h; (case l => k_is); (case s => decide); (case h =>
            exact ⟨Ev.co_str, trivial⟩)
          refine And.intro ⟨_, rfl⟩ (And.intro ?_ ?_)
          · refine' Ev.co_tup ?l ?s ?h; (case l => k_is); (case s => decide); (case h =>
            exact ⟨Ev.co_str, Ev.co_str, trivial⟩)
          refine And.intro ⟨_, rfl⟩ (And.intro ?_ ?_)
          · refine' Ev.co_tup ?l ?s ?h; (case l => k_is); (case s => decide); (case h =>
            exact ⟨Ev.co_str, Ev.co_str, trivial⟩)
          refine And.intro ⟨_, rfl⟩ (And.intro ?_ ?_)
          · refine' Ev.co_tup ?l ?s ?h; (case l => k_is); (case s => decide); (case h =>
            exact ⟨Ev.co_str, Ev.co_str, trivial⟩)
          exact trivial)
      refine And.intro ?_ ?_
      · refine' Ev.g_tab KX G ?a ?l ?k ?d ?c; (case a => k_is); (case l => k_is); (case k => k_keys); (case d => decide); (case c =>
          refine And.intro ⟨_, rfl⟩ (And.intro ?_ ?_)
          · refine' Ev.co_tup ?l ?s ?h; (case l => k_is); (case s => decide); (case h =>
            exact ⟨Ev.co_str, Ev.co_str, trivial⟩)
          refine And.intro ⟨_, rfl⟩ (And.intro ?_ ?_)
          · refine' Ev.co_tup ?l ?s ?h; (case l => k_is); (case s => decide); (case h =>
            exact ⟨Ev.co_str, Ev.co_str, trivial⟩)
          refine And.intro ⟨_, rfl⟩ (And.intro ?_ ?_)
          · refine' Ev.co_tup ?l ?s ?h; (case l => k_is); (case s => decide); (case h =>
            exact ⟨Ev.co_str, Ev.co_str, trivial⟩)
          refine And.intro ⟨_, rfl⟩ (And.intro ?_ ?_)
          · refine' Ev.co_tup ?l ?s ?h; (case l => k_is); (case s => decide); (case h =>
            exact ⟨Ev.co_str, Ev.co_str, trivial⟩)
          refine And.intro ⟨_, rfl⟩ (And.intro ?_ ?_)
          · refine' Ev.co_tup ?l ?s ?h; (case l => k_is); (case s => decide); (case h =>
            exact ⟨Ev.co_str, trivial⟩)
          exact trivial)
      exact trivial
    case bi =>
      refine' Ev.bi_of KX G ?z0 ?z1 ?z2 ?z3 ?z4 ?z5 ?z6 ?z7 ?z8 ?z9 ?z10 ?z11 ?z12 ?z13 ?z14 ?z15 ?z16 ?z17 ?z18
      all_goals k_is
